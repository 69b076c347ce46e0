/- Texts that the proofs of this claim share, part 4: the abstract logic, plain Lean on values and batches, and walks. No condition but those typed in each lemma. -/
import Derived.Test.YtiolofgnkkhjoaaGreatDoorP3
set_option linter.unusedSimpArgs false
set_option linter.unusedVariables false
set_option maxHeartbeats 400000
namespace Go.Proofs
open Go Go.Al
set_option maxRecDepth 10000
theorem rquote_c (s : ByteArray) (hs : s.size ≤ 100000000000) : zs Tryz.prog Γ0 135 [sv s] [sv (yB (vE (lst s)))] := by
  have hz := yA s
  have c1 : (ByteArray.mk #[92]).size = 1 := rfl
  have c4 : (ByteArray.mk #[92, 117, 48, 48]).size = 4 := rfl
  have c0 : (ByteArray.mk #[34]).size = 1 := rfl
  refine zd Tryz.func135 rfl Tryz.ntmps135 (by kernel_rfl) rfl fun w0 I0 G0 => ?_
  refine zD <| zB <| g_u (zE rfl rfl) <| zF <| zA <| zD <| zB <| g_u (zE rfl rfl) <| zF <| zA <| zD <| zD <| zB <| g_u (zE rfl rfl) <| zF <| zA <| zV ?_
  refine zu (fun j : Nat × ByteArray => [(0, .imm (sv s)), (3, .imm (sv j.2)), (4, .imm (iv (j.1 : Int)))]) (fun j => j.1 ≤ s.size ∧ lst j.2 = 34 :: escs ((lst s).take j.1)) (fun j => s.size - j.1) (⟨0, ⟨#[34]⟩⟩) ?_ ⟨rfl, rfl, rfl, trivial⟩ ?_
  · exact ⟨Nat.zero_le _, rfl⟩
  · rintro ⟨i, t⟩ ⟨h1, h2⟩; dsimp only at h1 h2; have hlen : t.size ≤ 1 + 6 * s.size := by have := escs_length ((lst s).take i); rw [← yA t, h2, List.length_cons]; rw [List.length_take] at this; omega
    have e2 : i < s.size → (IntKind.i64.wrap ((i : Int) + 1)).toNat = i + 1 := fun h => by rw [zK (by omega) (by omega)]; omega
    have hx : (i : Int) < (s.size : Int) → (s.extract (i : Int).toNat (IntKind.i64.wrap ((i : Int) + 1)).toNat).size = 1 := fun h => by rw [e2 (by omega), Int.toNat_natCast]; exact ex1_size (by omega)
    refine zD <| zD <| zB <| g_u (zC rfl rfl) <| g_u (zC rfl rfl) <| g_u (yf rfl rfl Tryz.underlying9) <| g_u (y_ rfl rfl rfl) <| zF <| zA ?_
    refine zN rfl (fun hb1 => ?_) (fun hb1 => ?_)
    · refine zO ?_
      refine zA <| zD <| zV <| zD <| zD <| zB <| g_u (zC rfl rfl) <| g_u (zC rfl rfl) ?_
      refine g_u (si_ix rfl rfl rfl Tryz.underlying9 (by ((try simp only [decide_eq_true_eq, decide_eq_false_iff_not, qc, ne_eq, beq_iff_eq, qd, beq_eq_false_iff_ne, Bool.not_eq_true', Bool.not_eq_false', gt_iff_lt, ge_iff_le] at *); (repeat simp (disch := omega) only [zK, za] at *)); omega)) ?_
      refine g_u (yy rfl rfl rfl) <| g_u (zC rfl rfl) <| yP (t := 15) rfl ?_
      rintro (hb2 | hb2)
      · rw [hb2]
        refine zP rfl rfl rfl <| zP rfl rfl rfl <| zP rfl rfl rfl <| zP rfl rfl rfl <| g_u (zk rfl rfl rfl) <| zF <| zA <| zy rfl <| zB <| g_u (zC rfl rfl) ?_
        refine g_u (yv rfl rfl rfl (by show _ ≤ (9223372036854775807 : Int); (try dsimp only); first | (simp only [zj, c0, c1, c4]; omega) | (have q := hx (of_decide_eq_true hb1); simp only [zj, zX, yC, yA, q, c1, c4]; omega))) ?_
        refine g_u (zE rfl rfl) <| zF <| zA <| zD <| zB <| g_u (zC rfl rfl) <| g_u (zC rfl rfl) ?_
        refine g_u (si_ix rfl rfl rfl Tryz.underlying9 (by ((try simp only [decide_eq_true_eq, decide_eq_false_iff_not, qc, ne_eq, beq_iff_eq, qd, beq_eq_false_iff_ne, Bool.not_eq_true', Bool.not_eq_false', gt_iff_lt, ge_iff_le] at *); (repeat simp (disch := omega) only [zK, za] at *)); omega)) ?_
        refine g_u (y_ rfl rfl rfl) <| zF <| zA ?_
        refine zN rfl (fun hb3 => ?_) (fun hb3 => ?_)
        · refine zB ?_
          refine g_u (zC rfl rfl) ?_
          refine g_u (yv rfl rfl rfl (by show _ ≤ (9223372036854775807 : Int); (try dsimp only); first | (simp only [zj, c0, c1, c4]; omega) | (have q := hx (of_decide_eq_true hb1); simp only [zj, zX, yC, yA, q, c1, c4]; omega))) ?_
          refine g_u (zC rfl rfl) <| g_u (zC rfl rfl) <| g_u (zC rfl rfl) <| g_u (zz rfl rfl rfl) ?_
          refine g_u (si_lh rfl rfl rfl rfl Tryz.underlying9 (by ((try simp only [decide_eq_true_eq, decide_eq_false_iff_not, qc, ne_eq, beq_iff_eq, qd, beq_eq_false_iff_ne, Bool.not_eq_true', Bool.not_eq_false', gt_iff_lt, ge_iff_le] at *); (repeat simp (disch := omega) only [zK, za] at *)); omega)) ?_
          refine g_u (zQ (rhex_c _ (by have q := hx (of_decide_eq_true hb1); (try dsimp only); omega)) rfl rfl) ?_
          refine g_u (yv rfl rfl rfl (by show _ ≤ (9223372036854775807 : Int); (try dsimp only); first | (simp only [zj, c0, c1, c4]; omega) | (have q := hx (of_decide_eq_true hb1); simp only [zj, zX, yC, yA, q, c1, c4]; omega))) ?_
          refine g_u (zE rfl rfl) <| zF <| zY <| zA <| zB <| g_u (zC rfl rfl) <| g_u (zz rfl rfl rfl) <| g_u (zE rfl rfl) <| zF <| zA ?_
          change decide ((i : Int) < (s.size : Int)) = true at hb1
          have hi : i < s.size := by have := of_decide_eq_true hb1; omega
          obtain ⟨c, hc1, hc2⟩ := vN s i hi
          refine ⟨⟨i + 1, _⟩, ⟨hi, ?_⟩, ⟨rfl, rfl, zZ rfl (by rw [zK (by omega) (by omega)]; rfl), trivial⟩, by dsimp only; omega⟩
          dsimp only at *
          rw [yN hc1, wS, ← List.cons_append, ← h2, e2 hi, Int.toNat_natCast]
          simp only [beq_iff_eq, beq_eq_false_iff_ne, ne_eq, decide_eq_true_eq, decide_eq_false_iff_not] at *
          first | (exfalso; omega) | exact resc1 hc1 (.inl (by omega)) | exact resc1 hc1 (.inr (by omega)) | exact resc2 hc1 (by omega) (by omega) (by omega) | exact resc3 hc1 (by omega) (by omega) (by omega)
        · refine zB ?_
          refine g_u (zC rfl rfl) <| g_u (zC rfl rfl) <| g_u (zC rfl rfl) <| g_u (zC rfl rfl) <| g_u (zz rfl rfl rfl) ?_
          refine g_u (si_lh rfl rfl rfl rfl Tryz.underlying9 (by ((try simp only [decide_eq_true_eq, decide_eq_false_iff_not, qc, ne_eq, beq_iff_eq, qd, beq_eq_false_iff_ne, Bool.not_eq_true', Bool.not_eq_false', gt_iff_lt, ge_iff_le] at *); (repeat simp (disch := omega) only [zK, za] at *)); omega)) ?_
          refine g_u (yv rfl rfl rfl (by show _ ≤ (9223372036854775807 : Int); (try dsimp only); first | (simp only [zj, c0, c1, c4]; omega) | (have q := hx (of_decide_eq_true hb1); simp only [zj, zX, yC, yA, q, c1, c4]; omega))) ?_
          refine g_u (zE rfl rfl) <| zF <| zY <| zA <| zB <| g_u (zC rfl rfl) <| g_u (zz rfl rfl rfl) <| g_u (zE rfl rfl) <| zF <| zA ?_
          change decide ((i : Int) < (s.size : Int)) = true at hb1
          have hi : i < s.size := by have := of_decide_eq_true hb1; omega
          obtain ⟨c, hc1, hc2⟩ := vN s i hi
          refine ⟨⟨i + 1, _⟩, ⟨hi, ?_⟩, ⟨rfl, rfl, zZ rfl (by rw [zK (by omega) (by omega)]; rfl), trivial⟩, by dsimp only; omega⟩
          dsimp only at *
          rw [yN hc1, wS, ← List.cons_append, ← h2, e2 hi, Int.toNat_natCast]
          simp only [beq_iff_eq, beq_eq_false_iff_ne, ne_eq, decide_eq_true_eq, decide_eq_false_iff_not] at *
          first | (exfalso; omega) | exact resc1 hc1 (.inl (by omega)) | exact resc1 hc1 (.inr (by omega)) | exact resc2 hc1 (by omega) (by omega) (by omega) | exact resc3 hc1 (by omega) (by omega) (by omega)
      · rw [hb2]
        refine zf rfl rfl (zC rfl rfl) <| zf rfl rfl (zC rfl rfl) ?_
        refine zf rfl rfl (si_ix rfl rfl rfl Tryz.underlying9 (by ((try simp only [decide_eq_true_eq, decide_eq_false_iff_not, qc, ne_eq, beq_iff_eq, qd, beq_eq_false_iff_ne, Bool.not_eq_true', Bool.not_eq_false', gt_iff_lt, ge_iff_le] at *); (repeat simp (disch := omega) only [zK, za] at *)); omega)) ?_
        refine zf rfl rfl (yy rfl rfl rfl) <| g_u (zr rfl rfl rfl) <| zF <| zA ?_
        refine zN rfl (fun hb4 => ?_) (fun hb4 => ?_)
        · refine zB ?_
          refine g_u (zC rfl rfl) ?_
          refine g_u (yv rfl rfl rfl (by show _ ≤ (9223372036854775807 : Int); (try dsimp only); first | (simp only [zj, c0, c1, c4]; omega) | (have q := hx (of_decide_eq_true hb1); simp only [zj, zX, yC, yA, q, c1, c4]; omega))) ?_
          refine g_u (zE rfl rfl) <| zF <| zA <| zD <| zB <| g_u (zC rfl rfl) <| g_u (zC rfl rfl) ?_
          refine g_u (si_ix rfl rfl rfl Tryz.underlying9 (by ((try simp only [decide_eq_true_eq, decide_eq_false_iff_not, qc, ne_eq, beq_iff_eq, qd, beq_eq_false_iff_ne, Bool.not_eq_true', Bool.not_eq_false', gt_iff_lt, ge_iff_le] at *); (repeat simp (disch := omega) only [zK, za] at *)); omega)) ?_
          refine g_u (y_ rfl rfl rfl) <| zF <| zA ?_
          refine zN rfl (fun hb5 => ?_) (fun hb5 => ?_)
          · refine zB ?_
            refine g_u (zC rfl rfl) ?_
            refine g_u (yv rfl rfl rfl (by show _ ≤ (9223372036854775807 : Int); (try dsimp only); first | (simp only [zj, c0, c1, c4]; omega) | (have q := hx (of_decide_eq_true hb1); simp only [zj, zX, yC, yA, q, c1, c4]; omega))) ?_
            refine g_u (zC rfl rfl) <| g_u (zC rfl rfl) <| g_u (zC rfl rfl) <| g_u (zz rfl rfl rfl) ?_
            refine g_u (si_lh rfl rfl rfl rfl Tryz.underlying9 (by ((try simp only [decide_eq_true_eq, decide_eq_false_iff_not, qc, ne_eq, beq_iff_eq, qd, beq_eq_false_iff_ne, Bool.not_eq_true', Bool.not_eq_false', gt_iff_lt, ge_iff_le] at *); (repeat simp (disch := omega) only [zK, za] at *)); omega)) ?_
            refine g_u (zQ (rhex_c _ (by have q := hx (of_decide_eq_true hb1); (try dsimp only); omega)) rfl rfl) ?_
            refine g_u (yv rfl rfl rfl (by show _ ≤ (9223372036854775807 : Int); (try dsimp only); first | (simp only [zj, c0, c1, c4]; omega) | (have q := hx (of_decide_eq_true hb1); simp only [zj, zX, yC, yA, q, c1, c4]; omega))) ?_
            refine g_u (zE rfl rfl) <| zF <| zY <| zA <| zB <| g_u (zC rfl rfl) <| g_u (zz rfl rfl rfl) <| g_u (zE rfl rfl) <| zF <| zA ?_
            change decide ((i : Int) < (s.size : Int)) = true at hb1
            have hi : i < s.size := by have := of_decide_eq_true hb1; omega
            obtain ⟨c, hc1, hc2⟩ := vN s i hi
            refine ⟨⟨i + 1, _⟩, ⟨hi, ?_⟩, ⟨rfl, rfl, zZ rfl (by rw [zK (by omega) (by omega)]; rfl), trivial⟩, by dsimp only; omega⟩
            dsimp only at *
            rw [yN hc1, wS, ← List.cons_append, ← h2, e2 hi, Int.toNat_natCast]
            simp only [beq_iff_eq, beq_eq_false_iff_ne, ne_eq, decide_eq_true_eq, decide_eq_false_iff_not] at *
            first | (exfalso; omega) | exact resc1 hc1 (.inl (by omega)) | exact resc1 hc1 (.inr (by omega)) | exact resc2 hc1 (by omega) (by omega) (by omega) | exact resc3 hc1 (by omega) (by omega) (by omega)
          · refine zB ?_
            refine g_u (zC rfl rfl) <| g_u (zC rfl rfl) <| g_u (zC rfl rfl) <| g_u (zC rfl rfl) <| g_u (zz rfl rfl rfl) ?_
            refine g_u (si_lh rfl rfl rfl rfl Tryz.underlying9 (by ((try simp only [decide_eq_true_eq, decide_eq_false_iff_not, qc, ne_eq, beq_iff_eq, qd, beq_eq_false_iff_ne, Bool.not_eq_true', Bool.not_eq_false', gt_iff_lt, ge_iff_le] at *); (repeat simp (disch := omega) only [zK, za] at *)); omega)) ?_
            refine g_u (yv rfl rfl rfl (by show _ ≤ (9223372036854775807 : Int); (try dsimp only); first | (simp only [zj, c0, c1, c4]; omega) | (have q := hx (of_decide_eq_true hb1); simp only [zj, zX, yC, yA, q, c1, c4]; omega))) ?_
            refine g_u (zE rfl rfl) <| zF <| zY <| zA <| zB <| g_u (zC rfl rfl) <| g_u (zz rfl rfl rfl) <| g_u (zE rfl rfl) <| zF <| zA ?_
            change decide ((i : Int) < (s.size : Int)) = true at hb1
            have hi : i < s.size := by have := of_decide_eq_true hb1; omega
            obtain ⟨c, hc1, hc2⟩ := vN s i hi
            refine ⟨⟨i + 1, _⟩, ⟨hi, ?_⟩, ⟨rfl, rfl, zZ rfl (by rw [zK (by omega) (by omega)]; rfl), trivial⟩, by dsimp only; omega⟩
            dsimp only at *
            rw [yN hc1, wS, ← List.cons_append, ← h2, e2 hi, Int.toNat_natCast]
            simp only [beq_iff_eq, beq_eq_false_iff_ne, ne_eq, decide_eq_true_eq, decide_eq_false_iff_not] at *
            first | (exfalso; omega) | exact resc1 hc1 (.inl (by omega)) | exact resc1 hc1 (.inr (by omega)) | exact resc2 hc1 (by omega) (by omega) (by omega) | exact resc3 hc1 (by omega) (by omega) (by omega)
        · refine zO ?_
          refine zA <| zD <| zB <| g_u (zC rfl rfl) <| g_u (zC rfl rfl) ?_
          refine g_u (si_ix rfl rfl rfl Tryz.underlying9 (by ((try simp only [decide_eq_true_eq, decide_eq_false_iff_not, qc, ne_eq, beq_iff_eq, qd, beq_eq_false_iff_ne, Bool.not_eq_true', Bool.not_eq_false', gt_iff_lt, ge_iff_le] at *); (repeat simp (disch := omega) only [zK, za] at *)); omega)) ?_
          refine g_u (y_ rfl rfl rfl) <| zF <| zA ?_
          refine zN rfl (fun hb6 => ?_) (fun hb6 => ?_)
          · refine zB ?_
            refine g_u (zC rfl rfl) ?_
            refine g_u (yv rfl rfl rfl (by show _ ≤ (9223372036854775807 : Int); (try dsimp only); first | (simp only [zj, c0, c1, c4]; omega) | (have q := hx (of_decide_eq_true hb1); simp only [zj, zX, yC, yA, q, c1, c4]; omega))) ?_
            refine g_u (zC rfl rfl) <| g_u (zC rfl rfl) <| g_u (zC rfl rfl) <| g_u (zz rfl rfl rfl) ?_
            refine g_u (si_lh rfl rfl rfl rfl Tryz.underlying9 (by ((try simp only [decide_eq_true_eq, decide_eq_false_iff_not, qc, ne_eq, beq_iff_eq, qd, beq_eq_false_iff_ne, Bool.not_eq_true', Bool.not_eq_false', gt_iff_lt, ge_iff_le] at *); (repeat simp (disch := omega) only [zK, za] at *)); omega)) ?_
            refine g_u (zQ (rhex_c _ (by have q := hx (of_decide_eq_true hb1); (try dsimp only); omega)) rfl rfl) ?_
            refine g_u (yv rfl rfl rfl (by show _ ≤ (9223372036854775807 : Int); (try dsimp only); first | (simp only [zj, c0, c1, c4]; omega) | (have q := hx (of_decide_eq_true hb1); simp only [zj, zX, yC, yA, q, c1, c4]; omega))) ?_
            refine g_u (zE rfl rfl) <| zF <| zY <| zA <| zB <| g_u (zC rfl rfl) <| g_u (zz rfl rfl rfl) <| g_u (zE rfl rfl) <| zF <| zA ?_
            change decide ((i : Int) < (s.size : Int)) = true at hb1
            have hi : i < s.size := by have := of_decide_eq_true hb1; omega
            obtain ⟨c, hc1, hc2⟩ := vN s i hi
            refine ⟨⟨i + 1, _⟩, ⟨hi, ?_⟩, ⟨rfl, rfl, zZ rfl (by rw [zK (by omega) (by omega)]; rfl), trivial⟩, by dsimp only; omega⟩
            dsimp only at *
            rw [yN hc1, wS, ← List.cons_append, ← h2, e2 hi, Int.toNat_natCast]
            simp only [beq_iff_eq, beq_eq_false_iff_ne, ne_eq, decide_eq_true_eq, decide_eq_false_iff_not] at *
            first | (exfalso; omega) | exact resc1 hc1 (.inl (by omega)) | exact resc1 hc1 (.inr (by omega)) | exact resc2 hc1 (by omega) (by omega) (by omega) | exact resc3 hc1 (by omega) (by omega) (by omega)
          · refine zB ?_
            refine g_u (zC rfl rfl) <| g_u (zC rfl rfl) <| g_u (zC rfl rfl) <| g_u (zC rfl rfl) <| g_u (zz rfl rfl rfl) ?_
            refine g_u (si_lh rfl rfl rfl rfl Tryz.underlying9 (by ((try simp only [decide_eq_true_eq, decide_eq_false_iff_not, qc, ne_eq, beq_iff_eq, qd, beq_eq_false_iff_ne, Bool.not_eq_true', Bool.not_eq_false', gt_iff_lt, ge_iff_le] at *); (repeat simp (disch := omega) only [zK, za] at *)); omega)) ?_
            refine g_u (yv rfl rfl rfl (by show _ ≤ (9223372036854775807 : Int); (try dsimp only); first | (simp only [zj, c0, c1, c4]; omega) | (have q := hx (of_decide_eq_true hb1); simp only [zj, zX, yC, yA, q, c1, c4]; omega))) ?_
            refine g_u (zE rfl rfl) <| zF <| zY <| zA <| zB <| g_u (zC rfl rfl) <| g_u (zz rfl rfl rfl) <| g_u (zE rfl rfl) <| zF <| zA ?_
            change decide ((i : Int) < (s.size : Int)) = true at hb1
            have hi : i < s.size := by have := of_decide_eq_true hb1; omega
            obtain ⟨c, hc1, hc2⟩ := vN s i hi
            refine ⟨⟨i + 1, _⟩, ⟨hi, ?_⟩, ⟨rfl, rfl, zZ rfl (by rw [zK (by omega) (by omega)]; rfl), trivial⟩, by dsimp only; omega⟩
            dsimp only at *
            rw [yN hc1, wS, ← List.cons_append, ← h2, e2 hi, Int.toNat_natCast]
            simp only [beq_iff_eq, beq_eq_false_iff_ne, ne_eq, decide_eq_true_eq, decide_eq_false_iff_not] at *
            first | (exfalso; omega) | exact resc1 hc1 (.inl (by omega)) | exact resc1 hc1 (.inr (by omega)) | exact resc2 hc1 (by omega) (by omega) (by omega) | exact resc3 hc1 (by omega) (by omega) (by omega)
    · refine z7 ?_
      refine zT <| zT <| zq <| zA <| zD <| zB <| g_u (zC rfl rfl) ?_
      refine g_u (yv rfl rfl rfl (by show _ ≤ (9223372036854775807 : Int); (try dsimp only); first | (simp only [zj, c0, c1, c4]; omega) | (have q := hx (of_decide_eq_true hb1); simp only [zj, zX, yC, yA, q, c1, c4]; omega))) ?_
      refine g_u (zE rfl rfl) <| zF <| zA <| zM ?_
      change decide ((i : Int) < (s.size : Int)) = false at hb1
      have hi : i = s.size := by have := of_decide_eq_false hb1; omega
      exact ⟨⟨(rfl : toAV (Al.look _ _) = some _).trans (congrArg (fun z => some (sv z)) (strOf_eq (by show lst (t ++ ⟨#[34]⟩) = _; rw [xW, h2, hi, List.take_of_length_le (Nat.le_of_eq hz)]; rfl))), rfl⟩, trivial⟩
theorem rcomma_c (i : Nat) : zs Tryz.prog Γ0 136 [iv (i : Int)] [sv (yB (comma (i == 0)))] := by
  refine zd Tryz.func136 rfl Tryz.ntmps136 (by kernel_rfl) rfl fun w0 I0 G0 => ?_
  refine zD <| zB <| g_u (zE rfl rfl) <| zF <| zA <| zD <| zD <| zB <| g_u (zC rfl rfl) <| g_u (yy rfl rfl rfl) <| zF <| zA ?_
  refine zN rfl (fun hb1 => ?_) (fun hb1 => ?_)
  · refine zD ?_
    refine zB <| g_u (zE rfl rfl) <| zF <| zA <| zM <| zL ?_
    exact ⟨⟨(rfl : toAV (Al.look _ _) = some _).trans (congrArg some (by (have e : i = 0 := (by have : (i : Int) = 0 := (by simpa using hb1); omega); rw [e]; rfl))), rfl⟩, trivial⟩
  · refine zO ?_
    refine zA <| zD <| zB <| g_u (zE rfl rfl) <| zF <| zA <| zM ?_
    exact ⟨⟨(rfl : toAV (Al.look _ _) = some _).trans (congrArg some (by (have e : i ≠ 0 := (by have : (i : Int) ≠ 0 := (by simpa using hb1); omega); rw [show (i == 0) = false from by simpa using e]; rfl))), rfl⟩, trivial⟩
theorem rsimple_c (v : GV) (ho : v.ok) (hw : v.wt ≤ 10000000) : zs Tryz.prog Γ0 106 [v.av] [sv (yB (wA v))] := by
  have lv := xh v.list
  have la := y5 v.map
  have ek := v.wt_eq
  have ok := v.ok_iff.1 ho
  have sl := yl v
  have jl := yT v
  refine zd Tryz.func106 rfl Tryz.ntmps106 (by kernel_rfl) rfl fun w0 I0 G0 => ?_
  refine zD <| zB <| g_uG (zp 1001 rfl rfl rfl rfl) rfl <| g_u (zE rfl rfl) <| zF <| zA <| zD <| zD <| zB <| g_u (zG rfl rfl xF rfl) <| g_u (zH rfl rfl rfl tA5 tS5 rfl rfl) <| g_u (yy rfl rfl rfl) <| zF <| zA ?_
  refine zN rfl (fun hb1 => ?_) (fun hb1 => ?_)
  · refine zD ?_
    refine zB <| g_u (zG rfl rfl fa70_1 rfl) <| g_u (zH rfl rfl rfl tA9 tS9 rfl rfl) <| g_u (zE rfl rfl) <| zF <| zA <| zM <| zL ?_
    exact ⟨⟨(rfl : toAV (Al.look _ _) = some _).trans (congrArg some (by (simp only [beq_iff_eq, beq_eq_false_iff_ne, ne_eq, decide_eq_true_eq, decide_eq_false_iff_not] at *; first | (exfalso; omega) | exact congrArg sv (simp1 (by omega)).symm | (rw [simp2 (by omega) (by omega)]; rfl) | (rw [simp2' (by omega) (by omega)]; rfl) | (rw [simp3 (by omega)]) | (rw [simp4 (by omega), yH]; rfl) | (rw [simp5 (by omega)]) | (rw [simp6 (by omega)]; rfl)))), rfl⟩, trivial⟩
  · refine zO ?_
    refine zA <| zD <| zD <| zB <| g_u (zG rfl rfl xF rfl) <| g_u (zH rfl rfl rfl tA5 tS5 rfl rfl) <| g_u (yy rfl rfl rfl) <| g_u (zC rfl rfl) <| yP (t := 11) rfl ?_
    rintro (hb2 | hb2)
    · rw [hb2]
      refine zf rfl rfl (zG rfl rfl fa70_2 rfl) <| zf rfl rfl (zH rfl rfl rfl tA3 tS3 rfl rfl) <| zf rfl rfl (yy rfl rfl rfl) <| g_u (zk rfl rfl rfl) <| zF <| zA ?_
      refine zN rfl (fun hb3 => ?_) (fun hb3 => ?_)
      · refine zD ?_
        refine zB <| g_u (zE rfl rfl) <| zF <| zA <| zM <| zL ?_
        exact ⟨⟨(rfl : toAV (Al.look _ _) = some _).trans (congrArg some (by (simp only [beq_iff_eq, beq_eq_false_iff_ne, ne_eq, decide_eq_true_eq, decide_eq_false_iff_not] at *; first | (exfalso; omega) | exact congrArg sv (simp1 (by omega)).symm | (rw [simp2 (by omega) (by omega)]; rfl) | (rw [simp2' (by omega) (by omega)]; rfl) | (rw [simp3 (by omega)]) | (rw [simp4 (by omega), yH]; rfl) | (rw [simp5 (by omega)]) | (rw [simp6 (by omega)]; rfl)))), rfl⟩, trivial⟩
      · refine zO ?_
        refine zA <| zD <| zD <| zB <| g_u (zG rfl rfl xF rfl) <| g_u (zH rfl rfl rfl tA5 tS5 rfl rfl) <| g_u (yy rfl rfl rfl) <| zF <| zA ?_
        refine zN rfl (fun hb4 => ?_) (fun hb4 => ?_)
        · refine zD ?_
          refine zB <| g_u (zE rfl rfl) <| zF <| zA <| zM <| zL ?_
          exact ⟨⟨(rfl : toAV (Al.look _ _) = some _).trans (congrArg some (by (simp only [beq_iff_eq, beq_eq_false_iff_ne, ne_eq, decide_eq_true_eq, decide_eq_false_iff_not] at *; first | (exfalso; omega) | exact congrArg sv (simp1 (by omega)).symm | (rw [simp2 (by omega) (by omega)]; rfl) | (rw [simp2' (by omega) (by omega)]; rfl) | (rw [simp3 (by omega)]) | (rw [simp4 (by omega), yH]; rfl) | (rw [simp5 (by omega)]) | (rw [simp6 (by omega)]; rfl)))), rfl⟩, trivial⟩
        · refine zO ?_
          refine zA <| zD <| zD <| zB <| g_u (zG rfl rfl xF rfl) <| g_u (zH rfl rfl rfl tA5 tS5 rfl rfl) <| g_u (yy rfl rfl rfl) <| zF <| zA ?_
          refine zN rfl (fun hb5 => ?_) (fun hb5 => ?_)
          · refine zD ?_
            refine zB <| g_u (zG rfl rfl fa70_2 rfl) <| g_u (zH rfl rfl rfl tA3 tS3 rfl rfl) <| g_u (zQ (rdec_c _ ok.2.2.1) rfl rfl) <| g_u (zE rfl rfl) <| zF <| zA <| zM <| zL ?_
            exact ⟨⟨(rfl : toAV (Al.look _ _) = some _).trans (congrArg some (by (simp only [beq_iff_eq, beq_eq_false_iff_ne, ne_eq, decide_eq_true_eq, decide_eq_false_iff_not] at *; first | (exfalso; omega) | exact congrArg sv (simp1 (by omega)).symm | (rw [simp2 (by omega) (by omega)]; rfl) | (rw [simp2' (by omega) (by omega)]; rfl) | (rw [simp3 (by omega)]) | (rw [simp4 (by omega), yH]; rfl) | (rw [simp5 (by omega)]) | (rw [simp6 (by omega)]; rfl)))), rfl⟩, trivial⟩
          · refine zO ?_
            refine zA <| zD <| zD <| zB <| g_u (zG rfl rfl xF rfl) <| g_u (zH rfl rfl rfl tA5 tS5 rfl rfl) <| g_u (yy rfl rfl rfl) <| zF <| zA ?_
            refine zN rfl (fun hb6 => ?_) (fun hb6 => ?_)
            · refine zD ?_
              refine zB <| g_u (zG rfl rfl fa70_3 rfl) <| g_u (zH rfl rfl rfl tA57 tS57 rfl rfl) <| g_u (zQ (rhigh_c _ ok.2.2.2.1) rfl rfl) ?_
              refine g_u (zQ (rhex_c _ (by first | omega | (rw [zX, xo]; omega))) rfl rfl) ?_
              refine g_u (yv rfl rfl rfl (by show _ ≤ (9223372036854775807 : Int); simp only [zX, yC, yH, xo]; first | omega | (show 2 + _ ≤ _; omega) | (have c1 : (ByteArray.mk #[48, 120]).size = 2 := rfl; omega))) ?_
              refine g_u (zE rfl rfl) <| zF <| zA <| zM <| zL ?_
              exact ⟨⟨(rfl : toAV (Al.look _ _) = some _).trans (congrArg some (by (simp only [beq_iff_eq, beq_eq_false_iff_ne, ne_eq, decide_eq_true_eq, decide_eq_false_iff_not] at *; first | (exfalso; omega) | exact congrArg sv (simp1 (by omega)).symm | (rw [simp2 (by omega) (by omega)]; rfl) | (rw [simp2' (by omega) (by omega)]; rfl) | (rw [simp3 (by omega)]) | (rw [simp4 (by omega), yH]; rfl) | (rw [simp5 (by omega)]) | (rw [simp6 (by omega)]; rfl)))), rfl⟩, trivial⟩
            · refine zO ?_
              refine zA <| zD <| zD <| zB <| g_u (zG rfl rfl xF rfl) <| g_u (zH rfl rfl rfl tA5 tS5 rfl rfl) <| g_u (yy rfl rfl rfl) <| zF <| zA ?_
              refine zN rfl (fun hb7 => ?_) (fun hb7 => ?_)
              · refine zD ?_
                refine zB <| g_u (zG rfl rfl fa70_1 rfl) <| g_u (zH rfl rfl rfl tA9 tS9 rfl rfl) ?_
                refine g_u (zQ (rhex_c _ (by first | omega | (rw [zX, xo]; omega))) rfl rfl) ?_
                refine g_u (zE rfl rfl) <| zF <| zA <| zM <| zL ?_
                exact ⟨⟨(rfl : toAV (Al.look _ _) = some _).trans (congrArg some (by (simp only [beq_iff_eq, beq_eq_false_iff_ne, ne_eq, decide_eq_true_eq, decide_eq_false_iff_not] at *; first | (exfalso; omega) | exact congrArg sv (simp1 (by omega)).symm | (rw [simp2 (by omega) (by omega)]; rfl) | (rw [simp2' (by omega) (by omega)]; rfl) | (rw [simp3 (by omega)]) | (rw [simp4 (by omega), yH]; rfl) | (rw [simp5 (by omega)]) | (rw [simp6 (by omega)]; rfl)))), rfl⟩, trivial⟩
              · refine zO ?_
                refine zA <| zD <| zB <| g_u (zE rfl rfl) <| zF <| zA <| zM ?_
                exact ⟨⟨(rfl : toAV (Al.look _ _) = some _).trans (congrArg some (by (simp only [beq_iff_eq, beq_eq_false_iff_ne, ne_eq, decide_eq_true_eq, decide_eq_false_iff_not] at *; first | (exfalso; omega) | exact congrArg sv (simp1 (by omega)).symm | (rw [simp2 (by omega) (by omega)]; rfl) | (rw [simp2' (by omega) (by omega)]; rfl) | (rw [simp3 (by omega)]) | (rw [simp4 (by omega), yH]; rfl) | (rw [simp5 (by omega)]) | (rw [simp6 (by omega)]; rfl)))), rfl⟩, trivial⟩
    · rw [hb2]
      refine zP rfl rfl rfl <| zP rfl rfl rfl <| zP rfl rfl rfl <| g_u (zr rfl rfl rfl) <| zF <| zA <| z8 rfl <| zO <| zA <| zD <| zD <| zB <| g_u (zG rfl rfl xF rfl) <| g_u (zH rfl rfl rfl tA5 tS5 rfl rfl) <| g_u (yy rfl rfl rfl) <| zF <| zA ?_
      refine zN rfl (fun hb8 => ?_) (fun hb8 => ?_)
      · refine zD ?_
        refine zB <| g_u (zE rfl rfl) <| zF <| zA <| zM <| zL ?_
        exact ⟨⟨(rfl : toAV (Al.look _ _) = some _).trans (congrArg some (by (simp only [beq_iff_eq, beq_eq_false_iff_ne, ne_eq, decide_eq_true_eq, decide_eq_false_iff_not] at *; first | (exfalso; omega) | exact congrArg sv (simp1 (by omega)).symm | (rw [simp2 (by omega) (by omega)]; rfl) | (rw [simp2' (by omega) (by omega)]; rfl) | (rw [simp3 (by omega)]) | (rw [simp4 (by omega), yH]; rfl) | (rw [simp5 (by omega)]) | (rw [simp6 (by omega)]; rfl)))), rfl⟩, trivial⟩
      · refine zO ?_
        refine zA <| zD <| zD <| zB <| g_u (zG rfl rfl xF rfl) <| g_u (zH rfl rfl rfl tA5 tS5 rfl rfl) <| g_u (yy rfl rfl rfl) <| zF <| zA ?_
        refine zN rfl (fun hb9 => ?_) (fun hb9 => ?_)
        · refine zD ?_
          refine zB <| g_u (zG rfl rfl fa70_2 rfl) <| g_u (zH rfl rfl rfl tA3 tS3 rfl rfl) <| g_u (zQ (rdec_c _ ok.2.2.1) rfl rfl) <| g_u (zE rfl rfl) <| zF <| zA <| zM <| zL ?_
          exact ⟨⟨(rfl : toAV (Al.look _ _) = some _).trans (congrArg some (by (simp only [beq_iff_eq, beq_eq_false_iff_ne, ne_eq, decide_eq_true_eq, decide_eq_false_iff_not] at *; first | (exfalso; omega) | exact congrArg sv (simp1 (by omega)).symm | (rw [simp2 (by omega) (by omega)]; rfl) | (rw [simp2' (by omega) (by omega)]; rfl) | (rw [simp3 (by omega)]) | (rw [simp4 (by omega), yH]; rfl) | (rw [simp5 (by omega)]) | (rw [simp6 (by omega)]; rfl)))), rfl⟩, trivial⟩
        · refine zO ?_
          refine zA <| zD <| zD <| zB <| g_u (zG rfl rfl xF rfl) <| g_u (zH rfl rfl rfl tA5 tS5 rfl rfl) <| g_u (yy rfl rfl rfl) <| zF <| zA ?_
          refine zN rfl (fun hb10 => ?_) (fun hb10 => ?_)
          · refine zD ?_
            refine zB <| g_u (zG rfl rfl fa70_3 rfl) <| g_u (zH rfl rfl rfl tA57 tS57 rfl rfl) <| g_u (zQ (rhigh_c _ ok.2.2.2.1) rfl rfl) ?_
            refine g_u (zQ (rhex_c _ (by first | omega | (rw [zX, xo]; omega))) rfl rfl) ?_
            refine g_u (yv rfl rfl rfl (by show _ ≤ (9223372036854775807 : Int); simp only [zX, yC, yH, xo]; first | omega | (show 2 + _ ≤ _; omega) | (have c1 : (ByteArray.mk #[48, 120]).size = 2 := rfl; omega))) ?_
            refine g_u (zE rfl rfl) <| zF <| zA <| zM <| zL ?_
            exact ⟨⟨(rfl : toAV (Al.look _ _) = some _).trans (congrArg some (by (simp only [beq_iff_eq, beq_eq_false_iff_ne, ne_eq, decide_eq_true_eq, decide_eq_false_iff_not] at *; first | (exfalso; omega) | exact congrArg sv (simp1 (by omega)).symm | (rw [simp2 (by omega) (by omega)]; rfl) | (rw [simp2' (by omega) (by omega)]; rfl) | (rw [simp3 (by omega)]) | (rw [simp4 (by omega), yH]; rfl) | (rw [simp5 (by omega)]) | (rw [simp6 (by omega)]; rfl)))), rfl⟩, trivial⟩
          · refine zO ?_
            refine zA <| zD <| zD <| zB <| g_u (zG rfl rfl xF rfl) <| g_u (zH rfl rfl rfl tA5 tS5 rfl rfl) <| g_u (yy rfl rfl rfl) <| zF <| zA ?_
            refine zN rfl (fun hb11 => ?_) (fun hb11 => ?_)
            · refine zD ?_
              refine zB <| g_u (zG rfl rfl fa70_1 rfl) <| g_u (zH rfl rfl rfl tA9 tS9 rfl rfl) ?_
              refine g_u (zQ (rhex_c _ (by first | omega | (rw [zX, xo]; omega))) rfl rfl) ?_
              refine g_u (zE rfl rfl) <| zF <| zA <| zM <| zL ?_
              exact ⟨⟨(rfl : toAV (Al.look _ _) = some _).trans (congrArg some (by (simp only [beq_iff_eq, beq_eq_false_iff_ne, ne_eq, decide_eq_true_eq, decide_eq_false_iff_not] at *; first | (exfalso; omega) | exact congrArg sv (simp1 (by omega)).symm | (rw [simp2 (by omega) (by omega)]; rfl) | (rw [simp2' (by omega) (by omega)]; rfl) | (rw [simp3 (by omega)]) | (rw [simp4 (by omega), yH]; rfl) | (rw [simp5 (by omega)]) | (rw [simp6 (by omega)]; rfl)))), rfl⟩, trivial⟩
            · refine zO ?_
              refine zA <| zD <| zB <| g_u (zE rfl rfl) <| zF <| zA <| zM ?_
              exact ⟨⟨(rfl : toAV (Al.look _ _) = some _).trans (congrArg some (by (simp only [beq_iff_eq, beq_eq_false_iff_ne, ne_eq, decide_eq_true_eq, decide_eq_false_iff_not] at *; first | (exfalso; omega) | exact congrArg sv (simp1 (by omega)).symm | (rw [simp2 (by omega) (by omega)]; rfl) | (rw [simp2' (by omega) (by omega)]; rfl) | (rw [simp3 (by omega)]) | (rw [simp4 (by omega), yH]; rfl) | (rw [simp5 (by omega)]) | (rw [simp6 (by omega)]; rfl)))), rfl⟩, trivial⟩
theorem rjson_step (v : GV) (ho : v.ok) (hw : v.wt ≤ 10000000) (ih : ∀ y ∈ v.list, zs Tryz.prog Γ0 105 [y.av] [sv (yB (y3 y))]) (ihm : ∀ a ∈ v.map, zs Tryz.prog Γ0 105 [a.val.av] [sv (yB (y3 a.val))]) : zs Tryz.prog Γ0 105 [v.av] [sv (yB (y3 v))] := by
  have lv := xh v.list
  have la := y5 v.map
  have ek := v.wt_eq
  have ok := v.ok_iff.1 ho
  have sl := yl v
  have jl := yT v
  have c1 : (ByteArray.mk #[91]).size = 1 := rfl
  have c2 : (ByteArray.mk #[93]).size = 1 := rfl
  have c3 : (ByteArray.mk #[123]).size = 1 := rfl
  have c4 : (ByteArray.mk #[125]).size = 1 := rfl
  have c5 : (ByteArray.mk #[58]).size = 1 := rfl
  refine zd Tryz.func105 rfl Tryz.ntmps105 (by kernel_rfl) rfl fun w0 I0 G0 => ?_
  refine zD <| zB <| g_uG (zp 1001 rfl rfl rfl rfl) rfl <| g_u (zE rfl rfl) <| zF <| zA <| zD <| zD <| zB <| g_u (zG rfl rfl xF rfl) <| g_u (zH rfl rfl rfl tA5 tS5 rfl rfl) <| g_u (yy rfl rfl rfl) <| zF <| zA ?_
  refine zN rfl (fun hb1 => ?_) (fun hb1 => ?_)
  · refine zD ?_
    refine zB <| g_u (zE rfl rfl) <| zF <| zA <| zM <| zL ?_
    exact ⟨⟨(rfl : toAV (Al.look _ _) = some _).trans (congrArg some (by (simp only [beq_iff_eq, beq_eq_false_iff_ne, ne_eq, decide_eq_true_eq, decide_eq_false_iff_not] at *; rw [json0 (by omega)]; rfl))), rfl⟩, trivial⟩
  · refine zO ?_
    refine zA <| zD <| zD <| zB <| g_u (zG rfl rfl xF rfl) <| g_u (zH rfl rfl rfl tA5 tS5 rfl rfl) <| g_u (yy rfl rfl rfl) <| g_u (zC rfl rfl) <| yP (t := 12) rfl ?_
    rintro (hb2 | hb2)
    · rw [hb2]
      refine zP rfl rfl rfl <| zP rfl rfl rfl <| zP rfl rfl rfl <| g_u (zk rfl rfl rfl) <| g_u (zC rfl rfl) <| zP rfl rfl rfl <| zP rfl rfl rfl <| zP rfl rfl rfl <| g_u (zk rfl rfl rfl) <| zF <| zA <| zy rfl <| zD <| zB <| g_u (zH rfl rfl rfl tA70 tS70 rfl rfl) <| g_u (zQ (rsimple_c _ ho hw) rfl rfl) ?_
      refine g_u (zQ (rquote_c _ (by first | exact hka | (rw [zX]; omega))) rfl rfl) ?_
      refine g_u (zE rfl rfl) <| zF <| zA <| zM <| zL ?_
      exact ⟨⟨(rfl : toAV (Al.look _ _) = some _).trans (congrArg some (by (simp only [beq_iff_eq, beq_eq_false_iff_ne, ne_eq, decide_eq_true_eq, decide_eq_false_iff_not] at *; rw [jsonS (by omega)]; rw [yH]))), rfl⟩, trivial⟩
    · rw [hb2]
      refine zf rfl rfl (zG rfl rfl xF rfl) <| zf rfl rfl (zH rfl rfl rfl tA5 tS5 rfl rfl) <| zf rfl rfl (yy rfl rfl rfl) <| g_u (zr rfl rfl rfl) <| g_u (zC rfl rfl) <| yP (t := 17) rfl ?_
      rintro (hb3 | hb3)
      · rw [hb3]
        refine zP rfl rfl rfl <| zP rfl rfl rfl <| zP rfl rfl rfl <| g_u (zk rfl rfl rfl) <| zF <| zA <| zy rfl <| zD <| zB <| g_u (zH rfl rfl rfl tA70 tS70 rfl rfl) <| g_u (zQ (rsimple_c _ ho hw) rfl rfl) ?_
        refine g_u (zQ (rquote_c _ (by first | exact hka | (rw [zX]; omega))) rfl rfl) ?_
        refine g_u (zE rfl rfl) <| zF <| zA <| zM <| zL ?_
        exact ⟨⟨(rfl : toAV (Al.look _ _) = some _).trans (congrArg some (by (simp only [beq_iff_eq, beq_eq_false_iff_ne, ne_eq, decide_eq_true_eq, decide_eq_false_iff_not] at *; rw [jsonS (by omega)]; rw [yH]))), rfl⟩, trivial⟩
      · rw [hb3]
        refine zf rfl rfl (zG rfl rfl xF rfl) <| zf rfl rfl (zH rfl rfl rfl tA5 tS5 rfl rfl) <| zf rfl rfl (yy rfl rfl rfl) <| g_u (zr rfl rfl rfl) <| zF <| zA ?_
        refine zN rfl (fun hb4 => ?_) (fun hb4 => ?_)
        · refine zD ?_
          refine zB <| g_u (zH rfl rfl rfl tA70 tS70 rfl rfl) <| g_u (zQ (rsimple_c _ ho hw) rfl rfl) ?_
          refine g_u (zQ (rquote_c _ (by first | exact hka | (rw [zX]; omega))) rfl rfl) ?_
          refine g_u (zE rfl rfl) <| zF <| zA <| zM <| zL ?_
          exact ⟨⟨(rfl : toAV (Al.look _ _) = some _).trans (congrArg some (by (simp only [beq_iff_eq, beq_eq_false_iff_ne, ne_eq, decide_eq_true_eq, decide_eq_false_iff_not] at *; rw [jsonS (by omega)]; rw [yH]))), rfl⟩, trivial⟩
        · refine zO ?_
          refine zA <| zD <| zB <| g_u (zE rfl rfl) <| zF <| zA <| zD <| zD <| zB <| g_u (zG rfl rfl xF rfl) <| g_u (zH rfl rfl rfl tA5 tS5 rfl rfl) <| g_u (yy rfl rfl rfl) <| zF <| zA ?_
          refine zN rfl (fun hb5 => ?_) (fun hb5 => ?_)
          · refine zD ?_
            refine zD <| zB <| g_u (zE rfl rfl) <| zF <| zA <| zV ?_
            refine zu (fun j : Nat × ByteArray => [(1, .ptr 1001 0), (1001, .box 70 (.imm v.av)), (3, .imm (sv j.2)), (4, .imm (iv (j.1 : Int)))]) (fun j => j.1 ≤ v.list.length ∧ lst j.2 = wU true (v.list.take j.1)) (fun j => v.list.length - j.1) (⟨0, ⟨#[]⟩⟩) ?_ ⟨rfl, rfl, rfl, rfl, trivial⟩ ?_
            · exact ⟨Nat.zero_le _, rfl⟩
            · rintro ⟨i, t⟩ ⟨h1, h2⟩; dsimp only at h1 h2; have hlen : t.size ≤ 150 * wtVs (v.list.take i) := by rw [← yA t, h2]; exact jsonVs_len _ _
              have htk := wtVs_take v.list i
              refine zD <| zD <| zB <| g_u (zC rfl rfl) <| g_u (zG rfl rfl fa70_4 rfl) <| g_u (zH rfl rfl rfl tA68 tS68 rfl rfl) <| g_u (yJ rfl rfl Tryz.underlying68) <| g_u (y_ rfl rfl rfl) <| zF <| zA ?_
              refine zN rfl (fun hb6 => ?_) (fun hb6 => ?_)
              · have hiv : i < v.list.length := by have := of_decide_eq_true hb6; simp only [List.length_map] at this; omega
                refine zO <| zA <| zD <| zV <| yX xb <| g_u (zC rfl rfl) <| g_u (zC rfl rfl) <| g_u (zQ (rcomma_c _) rfl rfl) ?_
                refine g_u (yv rfl rfl rfl (by show _ ≤ (9223372036854775807 : Int); (try dsimp only); first | (have q1 := wd hiv; have q2 := yT (nthV v.list i); have q3 := yG (i == 0); simp only [zj, zX, c1, c2, c3, c4, c5]; omega) | (have q1 := yd hia; have q2 := xw (nthA v.map i); have q3 := yG (i == 0); have q4 := (nthA v.map i).wt_eq; have q5 := zv (lst (nthA v.map i).key); have q6 := yA (nthA v.map i).key; have q7 := yT (nthA v.map i).val; simp only [zj, zX, c1, c2, c3, c4, c5]; omega) | (simp only [zj, zX, c1, c2, c3, c4, c5]; omega))) ?_
                refine g_u (zG rfl rfl fa70_4 rfl) <| g_u (zH rfl rfl rfl tA68 tS68 rfl rfl) <| g_u (zC rfl rfl) ?_
                refine g_u (zR rfl rfl rfl Tryz.underlying68 tS70 (by omega) (ixV hiv)) ?_
                refine g_u (z_ rfl rfl tA70 tS70 rfl rfl) ?_
                refine g_u (zQ ((by first | exact ih _ (nthV_mem hiv) | exact ihm _ (xZ hia))) rfl rfl) ?_
                refine g_u (yv rfl rfl rfl (by show _ ≤ (9223372036854775807 : Int); (try dsimp only); first | (have q1 := wd hiv; have q2 := yT (nthV v.list i); have q3 := yG (i == 0); simp only [zj, zX, c1, c2, c3, c4, c5]; omega) | (have q1 := yd hia; have q2 := xw (nthA v.map i); have q3 := yG (i == 0); have q4 := (nthA v.map i).wt_eq; have q5 := zv (lst (nthA v.map i).key); have q6 := yA (nthA v.map i).key; have q7 := yT (nthA v.map i).val; simp only [zj, zX, c1, c2, c3, c4, c5]; omega) | (simp only [zj, zX, c1, c2, c3, c4, c5]; omega))) ?_
                refine g_u (zE rfl rfl) ?_
                refine zF ⟨by kernel_rfl, ?_⟩
                refine zY <| zA <| zB <| g_u (zC rfl rfl) <| g_u (zz rfl rfl rfl) <| g_u (zE rfl rfl) <| zF <| zA ?_
                refine ⟨⟨i + 1, _⟩, ⟨hiv, ?_⟩, ⟨rfl, rfl, rfl, zZ rfl (by rw [zK (by omega) (by omega)]; rfl), trivial⟩, by dsimp only; omega⟩
                show lst (t ++ yB (comma (i == 0)) ++ yB (y3 (nthV v.list i))) = _
                rw [jsonVs_take hiv, xW, xW, yH, yH, h2]
              · have hi : i = v.list.length := by have := of_decide_eq_false hb6; simp only [List.length_map] at this; omega
                refine z7 <| zT <| zT <| zq <| zA <| zD <| zB <| g_u (zC rfl rfl) ?_
                refine g_u (yv rfl rfl rfl (by show _ ≤ (9223372036854775807 : Int); (try dsimp only); first | (have q1 := wd hiv; have q2 := yT (nthV v.list i); have q3 := yG (i == 0); simp only [zj, zX, c1, c2, c3, c4, c5]; omega) | (have q1 := yd hia; have q2 := xw (nthA v.map i); have q3 := yG (i == 0); have q4 := (nthA v.map i).wt_eq; have q5 := zv (lst (nthA v.map i).key); have q6 := yA (nthA v.map i).key; have q7 := yT (nthA v.map i).val; simp only [zj, zX, c1, c2, c3, c4, c5]; omega) | (simp only [zj, zX, c1, c2, c3, c4, c5]; omega))) ?_
                refine g_u (yv rfl rfl rfl (by show _ ≤ (9223372036854775807 : Int); (try dsimp only); first | (have q1 := wd hiv; have q2 := yT (nthV v.list i); have q3 := yG (i == 0); simp only [zj, zX, c1, c2, c3, c4, c5]; omega) | (have q1 := yd hia; have q2 := xw (nthA v.map i); have q3 := yG (i == 0); have q4 := (nthA v.map i).wt_eq; have q5 := zv (lst (nthA v.map i).key); have q6 := yA (nthA v.map i).key; have q7 := yT (nthA v.map i).val; simp only [zj, zX, c1, c2, c3, c4, c5]; omega) | (simp only [zj, zX, c1, c2, c3, c4, c5]; omega))) ?_
                refine g_u (zE rfl rfl) <| zF <| zA <| zM <| zL ?_
                exact ⟨⟨(rfl : toAV (Al.look _ _) = some _).trans (congrArg some (by (simp only [beq_iff_eq, beq_eq_false_iff_ne, ne_eq, decide_eq_true_eq, decide_eq_false_iff_not] at *; rw [json6 (by omega)]; refine congrArg sv (strOf_eq ?_); show lst (⟨#[91]⟩ ++ t ++ ⟨#[93]⟩) = _; rw [xW, xW, h2, hi, List.take_of_length_le (Nat.le_refl _)]; rfl))), rfl⟩, trivial⟩
          · refine zO ?_
            refine zA <| zD <| zD <| zB <| g_u (zG rfl rfl xF rfl) <| g_u (zH rfl rfl rfl tA5 tS5 rfl rfl) <| g_u (yy rfl rfl rfl) <| zF <| zA ?_
            refine zN rfl (fun hb7 => ?_) (fun hb7 => ?_)
            · refine zD ?_
              refine zD <| zB <| g_u (zE rfl rfl) <| zF <| zA <| zV ?_
              refine zu (fun j : Nat × ByteArray => [(1, .ptr 1001 0), (1001, .box 70 (.imm v.av)), (3, .imm (sv j.2)), (5, .imm (iv (j.1 : Int)))]) (fun j => j.1 ≤ v.map.length ∧ lst j.2 = wW true (v.map.take j.1)) (fun j => v.map.length - j.1) (⟨0, ⟨#[]⟩⟩) ?_ ⟨rfl, rfl, rfl, rfl, trivial⟩ ?_
              · exact ⟨Nat.zero_le _, rfl⟩
              · rintro ⟨i, t⟩ ⟨h1, h2⟩; dsimp only at h1 h2; have hlen : t.size ≤ 150 * wtAs (v.map.take i) := by rw [← yA t, h2]; exact jsonAs_len _ _
                have htk := wtAs_take v.map i
                refine zD <| zD <| zB <| g_u (zC rfl rfl) <| g_u (zG rfl rfl fa70_5 rfl) <| g_u (zH rfl rfl rfl tA44 tS44 rfl rfl) <| g_u (yJ rfl rfl Tryz.underlying44) <| g_u (y_ rfl rfl rfl) <| zF <| zA ?_
                refine zN rfl (fun hb8 => ?_) (fun hb8 => ?_)
                · have hia : i < v.map.length := by have := of_decide_eq_true hb8; simp only [List.length_map] at this; omega
                  have hka : (nthA v.map i).key.size ≤ 100000000000 := by have q1 := yd hia; have q4 := (nthA v.map i).wt_eq; omega
                  refine zO <| zA <| zD <| zV <| yX xb <| g_u (zC rfl rfl) <| g_u (zC rfl rfl) <| g_u (zQ (rcomma_c _) rfl rfl) ?_
                  refine g_u (yv rfl rfl rfl (by show _ ≤ (9223372036854775807 : Int); (try dsimp only); first | (have q1 := wd hiv; have q2 := yT (nthV v.list i); have q3 := yG (i == 0); simp only [zj, zX, c1, c2, c3, c4, c5]; omega) | (have q1 := yd hia; have q2 := xw (nthA v.map i); have q3 := yG (i == 0); have q4 := (nthA v.map i).wt_eq; have q5 := zv (lst (nthA v.map i).key); have q6 := yA (nthA v.map i).key; have q7 := yT (nthA v.map i).val; simp only [zj, zX, c1, c2, c3, c4, c5]; omega) | (simp only [zj, zX, c1, c2, c3, c4, c5]; omega))) ?_
                  refine g_u (zG rfl rfl fa70_5 rfl) <| g_u (zH rfl rfl rfl tA44 tS44 rfl rfl) <| g_u (zC rfl rfl) ?_
                  refine g_u (zR rfl rfl rfl Tryz.underlying44 tS72 (by omega) (ixA hia)) ?_
                  refine g_u (zW rfl rfl fa72_0 rfl rfl) <| g_u (z_ rfl rfl tA9 tS9 rfl rfl) ?_
                  refine g_u (zQ (rquote_c _ (by first | exact hka | (rw [zX]; omega))) rfl rfl) ?_
                  refine g_u (yv rfl rfl rfl (by show _ ≤ (9223372036854775807 : Int); (try dsimp only); first | (have q1 := wd hiv; have q2 := yT (nthV v.list i); have q3 := yG (i == 0); simp only [zj, zX, c1, c2, c3, c4, c5]; omega) | (have q1 := yd hia; have q2 := xw (nthA v.map i); have q3 := yG (i == 0); have q4 := (nthA v.map i).wt_eq; have q5 := zv (lst (nthA v.map i).key); have q6 := yA (nthA v.map i).key; have q7 := yT (nthA v.map i).val; simp only [zj, zX, c1, c2, c3, c4, c5]; omega) | (simp only [zj, zX, c1, c2, c3, c4, c5]; omega))) ?_
                  refine g_u (yv rfl rfl rfl (by show _ ≤ (9223372036854775807 : Int); (try dsimp only); first | (have q1 := wd hiv; have q2 := yT (nthV v.list i); have q3 := yG (i == 0); simp only [zj, zX, c1, c2, c3, c4, c5]; omega) | (have q1 := yd hia; have q2 := xw (nthA v.map i); have q3 := yG (i == 0); have q4 := (nthA v.map i).wt_eq; have q5 := zv (lst (nthA v.map i).key); have q6 := yA (nthA v.map i).key; have q7 := yT (nthA v.map i).val; simp only [zj, zX, c1, c2, c3, c4, c5]; omega) | (simp only [zj, zX, c1, c2, c3, c4, c5]; omega))) ?_
                  refine g_u (zG rfl rfl fa70_5 rfl) <| g_u (zH rfl rfl rfl tA44 tS44 rfl rfl) <| g_u (zC rfl rfl) ?_
                  refine g_u (zR rfl rfl rfl Tryz.underlying44 tS72 (by omega) (ixA hia)) ?_
                  refine g_u (zW rfl rfl fa72_1 rfl rfl) <| g_u (z_ rfl rfl tA70 tS70 rfl rfl) ?_
                  refine g_u (zQ ((by first | exact ih _ (nthV_mem hiv) | exact ihm _ (xZ hia))) rfl rfl) ?_
                  refine g_u (yv rfl rfl rfl (by show _ ≤ (9223372036854775807 : Int); (try dsimp only); first | (have q1 := wd hiv; have q2 := yT (nthV v.list i); have q3 := yG (i == 0); simp only [zj, zX, c1, c2, c3, c4, c5]; omega) | (have q1 := yd hia; have q2 := xw (nthA v.map i); have q3 := yG (i == 0); have q4 := (nthA v.map i).wt_eq; have q5 := zv (lst (nthA v.map i).key); have q6 := yA (nthA v.map i).key; have q7 := yT (nthA v.map i).val; simp only [zj, zX, c1, c2, c3, c4, c5]; omega) | (simp only [zj, zX, c1, c2, c3, c4, c5]; omega))) ?_
                  refine g_u (zE rfl rfl) ?_
                  refine zF ⟨by kernel_rfl, ?_⟩
                  refine zY <| zA <| zB <| g_u (zC rfl rfl) <| g_u (zz rfl rfl rfl) <| g_u (zE rfl rfl) <| zF <| zA ?_
                  refine ⟨⟨i + 1, _⟩, ⟨hia, ?_⟩, ⟨rfl, rfl, rfl, zZ rfl (by rw [zK (by omega) (by omega)]; rfl), trivial⟩, by dsimp only; omega⟩
                  show lst (t ++ yB (comma (i == 0)) ++ yB (vE (lst (nthA v.map i).key)) ++ ⟨#[58]⟩ ++ yB (y3 (nthA v.map i).val)) = _
                  rw [jsonAs_take hia, jsonA_eq, xW, xW, xW, xW, yH, yH, yH, h2]
                  simp only [List.append_assoc]
                  rfl
                · have hi : i = v.map.length := by have := of_decide_eq_false hb8; simp only [List.length_map] at this; omega
                  refine z7 <| zT <| zT <| zq <| zA <| zD <| zB <| g_u (zC rfl rfl) ?_
                  refine g_u (yv rfl rfl rfl (by show _ ≤ (9223372036854775807 : Int); (try dsimp only); first | (have q1 := wd hiv; have q2 := yT (nthV v.list i); have q3 := yG (i == 0); simp only [zj, zX, c1, c2, c3, c4, c5]; omega) | (have q1 := yd hia; have q2 := xw (nthA v.map i); have q3 := yG (i == 0); have q4 := (nthA v.map i).wt_eq; have q5 := zv (lst (nthA v.map i).key); have q6 := yA (nthA v.map i).key; have q7 := yT (nthA v.map i).val; simp only [zj, zX, c1, c2, c3, c4, c5]; omega) | (simp only [zj, zX, c1, c2, c3, c4, c5]; omega))) ?_
                  refine g_u (yv rfl rfl rfl (by show _ ≤ (9223372036854775807 : Int); (try dsimp only); first | (have q1 := wd hiv; have q2 := yT (nthV v.list i); have q3 := yG (i == 0); simp only [zj, zX, c1, c2, c3, c4, c5]; omega) | (have q1 := yd hia; have q2 := xw (nthA v.map i); have q3 := yG (i == 0); have q4 := (nthA v.map i).wt_eq; have q5 := zv (lst (nthA v.map i).key); have q6 := yA (nthA v.map i).key; have q7 := yT (nthA v.map i).val; simp only [zj, zX, c1, c2, c3, c4, c5]; omega) | (simp only [zj, zX, c1, c2, c3, c4, c5]; omega))) ?_
                  refine g_u (zE rfl rfl) <| zF <| zA <| zM <| zL ?_
                  exact ⟨⟨(rfl : toAV (Al.look _ _) = some _).trans (congrArg some (by (simp only [beq_iff_eq, beq_eq_false_iff_ne, ne_eq, decide_eq_true_eq, decide_eq_false_iff_not] at *; rw [json7 (by omega)]; refine congrArg sv (strOf_eq ?_); show lst (⟨#[123]⟩ ++ t ++ ⟨#[125]⟩) = _; rw [xW, xW, h2, hi, List.take_of_length_le (Nat.le_refl _)]; rfl))), rfl⟩, trivial⟩
            · refine zO ?_
              refine zA <| zD <| zB <| g_u (zH rfl rfl rfl tA70 tS70 rfl rfl) <| g_u (zQ (rsimple_c _ ho hw) rfl rfl) <| g_u (zE rfl rfl) <| zF <| zA <| zM ?_
              exact ⟨⟨(rfl : toAV (Al.look _ _) = some _).trans (congrArg some (by (simp only [beq_iff_eq, beq_eq_false_iff_ne, ne_eq, decide_eq_true_eq, decide_eq_false_iff_not] at *; rw [jsonE (by omega)]))), rfl⟩, trivial⟩
theorem rjson_c (v : GV) : v.ok → v.wt ≤ 10000000 → zs Tryz.prog Γ0 105 [v.av] [sv (yB (y3 v))] := by
  refine GV.ind (P := fun v => v.ok → v.wt ≤ 10000000 → zs Tryz.prog Γ0 105 [v.av] [sv (yB (y3 v))]) ?_ v
  intro v h1 h2 ho hw
  have ok := v.ok_iff.1 ho
  have ek := v.wt_eq
  refine rjson_step v ho hw (fun y hy => h1 y hy (ok.2.2.2.2.1 y hy) ?_) (fun a ha => h2 a ha ((GA.ok_iff a).1 (ok.2.2.2.2.2 a ha)).2 ?_)
  · have := wtVs_mem hy; omega
  · have := wZ ha; have := a.wt_eq; omega
theorem rtext_c (v : GV) (ho : v.ok) (hw : v.wt ≤ 10000000) : zs Tryz.prog Γ0 74 [v.av] [sv (xM v)] := by
  refine zd Tryz.func74 rfl Tryz.ntmps74 (by kernel_rfl) rfl fun w0 I0 G0 => ?_
  refine zD <| zB <| g_uG (zp 1001 rfl rfl rfl rfl) rfl <| g_u (zE rfl rfl) <| zF <| zA <| zD <| zD <| zB <| g_u (zG rfl rfl xF rfl) <| g_u (zH rfl rfl rfl tA5 tS5 rfl rfl) <| g_u (yy rfl rfl rfl) <| g_u (zC rfl rfl) <| yP (t := 6) rfl ?_
  rintro (hb1 | hb1)
  · rw [hb1]
    refine zP rfl rfl rfl <| zP rfl rfl rfl <| zP rfl rfl rfl <| g_u (zk rfl rfl rfl) <| zF <| zA <| zy rfl <| zD <| zB <| g_u (zH rfl rfl rfl tA70 tS70 rfl rfl) <| g_u (zQ (rjson_c v ho hw) rfl rfl) <| g_u (zE rfl rfl) <| zF <| zA <| zM <| zL ?_
    exact ⟨⟨(rfl : toAV (Al.look _ _) = some _).trans (congrArg some (by (simp only [beq_iff_eq, beq_eq_false_iff_ne, ne_eq, decide_eq_true_eq, decide_eq_false_iff_not] at *; first | rw [text6 (by omega)] | rw [textE (by omega)]))), rfl⟩, trivial⟩
  · rw [hb1]
    refine zf rfl rfl (zG rfl rfl xF rfl) <| zf rfl rfl (zH rfl rfl rfl tA5 tS5 rfl rfl) <| zf rfl rfl (yy rfl rfl rfl) <| g_u (zr rfl rfl rfl) <| zF <| zA ?_
    refine zN rfl (fun hb2 => ?_) (fun hb2 => ?_)
    · refine zD ?_
      refine zB <| g_u (zH rfl rfl rfl tA70 tS70 rfl rfl) <| g_u (zQ (rjson_c v ho hw) rfl rfl) <| g_u (zE rfl rfl) <| zF <| zA <| zM <| zL ?_
      exact ⟨⟨(rfl : toAV (Al.look _ _) = some _).trans (congrArg some (by (simp only [beq_iff_eq, beq_eq_false_iff_ne, ne_eq, decide_eq_true_eq, decide_eq_false_iff_not] at *; first | rw [text6 (by omega)] | rw [textE (by omega)]))), rfl⟩, trivial⟩
    · refine zO ?_
      refine zA <| zD <| zB <| g_u (zH rfl rfl rfl tA70 tS70 rfl rfl) <| g_u (zQ (rsimple_c _ ho hw) rfl rfl) <| g_u (zE rfl rfl) <| zF <| zA <| zM ?_
      exact ⟨⟨(rfl : toAV (Al.look _ _) = some _).trans (congrArg some (by (simp only [beq_iff_eq, beq_eq_false_iff_ne, ne_eq, decide_eq_true_eq, decide_eq_false_iff_not] at *; first | rw [text6 (by omega)] | rw [textE (by omega)]))), rfl⟩, trivial⟩
end Go.Proofs
namespace Go.Proofs
open Go Go.Al
set_option maxRecDepth 10000
def truthB (n : Int) : Bs := if n = 0 then [102, 97, 108, 115, 101] else [116, 114, 117, 101]
def wL (v : GV) : AV :=
  if v.kind = 0 then .ifc 164 (sv (yB [110, 117, 108, 108]))
  else if v.kind = 1 then .ifc 163 (sv v.text)
  else if v.kind = 2 then .ifc 164 (sv (yB (truthB v.num)))
  else if v.kind = 3 then .ifc 164 (sv (yB (decB v.num)))
  else if v.kind = 4 then .ifc 163 (sv (yB (48 :: 120 :: hexB (be 8 v.bits.toNat))))
  else if v.kind = 5 then .ifc 163 (sv (yB (hexB (lst v.text))))
  else if v.kind = 6 then .ifc 182 (.sl 6 (v.list.map avV))
  else if v.kind = 7 then .ifc 183 (.sl 7 (v.map.map avA))
  else .ifc 164 (sv ⟨#[]⟩)
theorem truth_c (n : Int) : zs Tryz.prog Γ0 144 [iv n] [sv (yB (truthB n))] := by
  refine zd Tryz.func144 rfl Tryz.ntmps144 (by kernel_rfl) rfl fun w0 I0 G0 => ?_
  refine zD <| zB <| g_u (zE rfl rfl) <| zF <| zA <| zD <| zD <| zB <| g_u (zC rfl rfl) <| g_u (wv rfl rfl rfl) <| zF <| zA ?_
  refine zN rfl (fun hb1 => ?_) (fun hb1 => ?_)
  · refine zD ?_
    refine zB <| g_u (zE rfl rfl) <| zF <| zA <| zM <| zL ?_
    exact ⟨⟨(rfl : toAV (Al.look _ _) = some _).trans (congrArg some (by (unfold truthB; first | (rw [if_neg (by simpa using hb1)]; rfl) | (rw [if_pos (by simpa using hb1)]; rfl)))), rfl⟩, trivial⟩
  · refine zO ?_
    refine zA <| zD <| zB <| g_u (zE rfl rfl) <| zF <| zA <| zM ?_
    exact ⟨⟨(rfl : toAV (Al.look _ _) = some _).trans (congrArg some (by (unfold truthB; first | (rw [if_neg (by simpa using hb1)]; rfl) | (rw [if_pos (by simpa using hb1)]; rfl)))), rfl⟩, trivial⟩
theorem double_c (u : Int) (h : 0 ≤ u ∧ u < 18446744073709551616) : zs Tryz.prog Γ0 146 [uv u] [sv (yB (48 :: 120 :: hexB (be 8 u.toNat)))] := by
  have c1 : (ByteArray.mk #[48, 120]).size = 2 := rfl
  refine zd Tryz.func146 rfl Tryz.ntmps146 (by kernel_rfl) rfl fun w0 I0 G0 => ?_
  refine zD <| zB <| g_u (zE rfl rfl) <| zF <| zA <| zD <| zB <| g_u (zC rfl rfl) ?_
  refine g_u (zQ (nil1 (n := 1) (high_c [] u h (by simp))) rfl rfl) ?_
  refine g_u (s_cvBS' (rfl) rfl rfl Tryz.underlying42 Tryz.underlying9 Tryz.underlying5) ?_
  refine g_u (zQ (htext_c _ (by rw [zX]; simp only [List.nil_append, xo]; omega)) rfl rfl) ?_
  refine g_u (yv rfl rfl rfl (by show _ ≤ (9223372036854775807 : Int); simp only [zX, yC, yH, List.nil_append, xo, c1]; omega)) ?_
  refine g_u (zE rfl rfl) <| zF <| zA <| zM ?_
  exact ⟨⟨(rfl : toAV (Al.look _ _) = some _).trans (congrArg some (by (rw [yH]; rfl))), rfl⟩, trivial⟩
theorem thing_c (v : GV) (ho : v.ok) (hw : v.wt ≤ 10000000) : zs Tryz.prog Γ0 120 [v.av] [wL v] := by
  have lv := xh v.list
  have la := y5 v.map
  have ek := v.wt_eq
  have ok := v.ok_iff.1 ho
  have sl := yl v
  have jl := yT v
  refine zd Tryz.func120 rfl Tryz.ntmps120 (by kernel_rfl) rfl fun w0 I0 G0 => ?_
  refine zD <| zB <| g_uG (zp 1001 rfl rfl rfl rfl) rfl <| g_u (zE rfl rfl) <| zF <| zA <| zD <| zD <| zB <| g_u (zG rfl rfl xF rfl) <| g_u (zH rfl rfl rfl tA5 tS5 rfl rfl) <| zF <| zA <| zV <| zD <| zB <| g_u (yy rfl rfl rfl) <| g_u (zE rfl rfl) <| zF <| zA ?_
  refine zN rfl (fun hb1 => ?_) (fun hb1 => ?_)
  · refine zD ?_
    refine zB <| g_u (xj rfl rfl nI164) <| g_u (zE rfl rfl) <| zF <| zA <| zM <| zt <| zL ?_
    exact ⟨⟨(rfl : toAV (Al.look _ _) = some _).trans (congrArg some (by (simp only [beq_iff_eq, beq_eq_false_iff_ne, ne_eq, decide_eq_true_eq, decide_eq_false_iff_not] at *; unfold wL; (repeat (first | rw [if_pos (by omega)] | rw [if_neg (by omega)])); (first | done | rfl)))), rfl⟩, trivial⟩
  · refine zD ?_
    refine zB <| g_u (yy rfl rfl rfl) <| g_u (zE rfl rfl) <| zF <| zA ?_
    refine zN rfl (fun hb2 => ?_) (fun hb2 => ?_)
    · refine zD ?_
      refine zB <| g_u (zG rfl rfl fa70_1 rfl) <| g_u (zH rfl rfl rfl tA9 tS9 rfl rfl) <| g_u (xj rfl rfl nI163) <| g_u (zE rfl rfl) <| zF <| zA <| zM <| zt <| zL ?_
      exact ⟨⟨(rfl : toAV (Al.look _ _) = some _).trans (congrArg some (by (simp only [beq_iff_eq, beq_eq_false_iff_ne, ne_eq, decide_eq_true_eq, decide_eq_false_iff_not] at *; unfold wL; (repeat (first | rw [if_pos (by omega)] | rw [if_neg (by omega)])); (first | done | rfl)))), rfl⟩, trivial⟩
    · refine zD ?_
      refine zB <| g_u (yy rfl rfl rfl) <| g_u (zE rfl rfl) <| zF <| zA ?_
      refine zN rfl (fun hb3 => ?_) (fun hb3 => ?_)
      · refine zD ?_
        refine zB <| g_u (zG rfl rfl fa70_2 rfl) <| g_u (zH rfl rfl rfl tA3 tS3 rfl rfl) <| g_u (zQ (truth_c _) rfl rfl) <| g_u (xj rfl rfl nI164) <| g_u (zE rfl rfl) <| zF <| zA <| zM <| zt <| zL ?_
        exact ⟨⟨(rfl : toAV (Al.look _ _) = some _).trans (congrArg some (by (simp only [beq_iff_eq, beq_eq_false_iff_ne, ne_eq, decide_eq_true_eq, decide_eq_false_iff_not] at *; unfold wL; (repeat (first | rw [if_pos (by omega)] | rw [if_neg (by omega)])); (first | done | rfl)))), rfl⟩, trivial⟩
      · refine zD ?_
        refine zB <| g_u (yy rfl rfl rfl) <| g_u (zE rfl rfl) <| zF <| zA ?_
        refine zN rfl (fun hb4 => ?_) (fun hb4 => ?_)
        · refine zD ?_
          refine zB <| g_u (zG rfl rfl fa70_2 rfl) <| g_u (zH rfl rfl rfl tA3 tS3 rfl rfl) ?_
          refine g_u (zQ (nil1 (n := 1) (dput_c [] _ ok.2.2.1 (by simp))) rfl rfl) ?_
          refine g_u (s_cvBS' (rfl) rfl rfl Tryz.underlying42 Tryz.underlying164 Tryz.underlying5) <| g_u (xj rfl rfl nI164) <| g_u (zE rfl rfl) <| zF <| zA <| zM <| zt <| zL ?_
          exact ⟨⟨(rfl : toAV (Al.look _ _) = some _).trans (congrArg some (by (simp only [beq_iff_eq, beq_eq_false_iff_ne, ne_eq, decide_eq_true_eq, decide_eq_false_iff_not] at *; unfold wL; (repeat (first | rw [if_pos (by omega)] | rw [if_neg (by omega)])); (first | done | rfl)))), rfl⟩, trivial⟩
        · refine zD ?_
          refine zB <| g_u (yy rfl rfl rfl) <| g_u (zE rfl rfl) <| zF <| zA ?_
          refine zN rfl (fun hb5 => ?_) (fun hb5 => ?_)
          · refine zD ?_
            refine zB <| g_u (zG rfl rfl fa70_3 rfl) <| g_u (zH rfl rfl rfl tA57 tS57 rfl rfl) <| g_u (zQ (double_c _ ok.2.2.2.1) rfl rfl) <| g_u (xj rfl rfl nI163) <| g_u (zE rfl rfl) <| zF <| zA <| zM <| zt <| zL ?_
            exact ⟨⟨(rfl : toAV (Al.look _ _) = some _).trans (congrArg some (by (simp only [beq_iff_eq, beq_eq_false_iff_ne, ne_eq, decide_eq_true_eq, decide_eq_false_iff_not] at *; unfold wL; (repeat (first | rw [if_pos (by omega)] | rw [if_neg (by omega)])); (first | done | rfl)))), rfl⟩, trivial⟩
          · refine zD ?_
            refine zB <| g_u (yy rfl rfl rfl) <| g_u (zE rfl rfl) <| zF <| zA ?_
            refine zN rfl (fun hb6 => ?_) (fun hb6 => ?_)
            · refine zD ?_
              refine zB <| g_u (zG rfl rfl fa70_1 rfl) <| g_u (zH rfl rfl rfl tA9 tS9 rfl rfl) ?_
              refine g_u (zQ (htext_c _ (by omega)) rfl rfl) ?_
              refine g_u (xj rfl rfl nI163) <| g_u (zE rfl rfl) <| zF <| zA <| zM <| zt <| zL ?_
              exact ⟨⟨(rfl : toAV (Al.look _ _) = some _).trans (congrArg some (by (simp only [beq_iff_eq, beq_eq_false_iff_ne, ne_eq, decide_eq_true_eq, decide_eq_false_iff_not] at *; unfold wL; (repeat (first | rw [if_pos (by omega)] | rw [if_neg (by omega)])); (first | done | rfl)))), rfl⟩, trivial⟩
            · refine zD ?_
              refine zB <| g_u (yy rfl rfl rfl) <| g_u (zE rfl rfl) <| zF <| zA ?_
              refine zN rfl (fun hb7 => ?_) (fun hb7 => ?_)
              · refine zD ?_
                refine zB <| g_u (zG rfl rfl fa70_4 rfl) <| g_u (zH rfl rfl rfl tA68 tS68 rfl rfl) <| g_u (xj rfl rfl nI182) <| g_u (zE rfl rfl) <| zF <| zA <| zM <| zt <| zL ?_
                exact ⟨⟨(rfl : toAV (Al.look _ _) = some _).trans (congrArg some (by (simp only [beq_iff_eq, beq_eq_false_iff_ne, ne_eq, decide_eq_true_eq, decide_eq_false_iff_not] at *; unfold wL; (repeat (first | rw [if_pos (by omega)] | rw [if_neg (by omega)])); (first | done | rfl)))), rfl⟩, trivial⟩
              · refine zD ?_
                refine zB <| g_u (yy rfl rfl rfl) <| g_u (zE rfl rfl) <| zF <| zA ?_
                refine zN rfl (fun hb8 => ?_) (fun hb8 => ?_)
                · refine zD ?_
                  refine zB <| g_u (zG rfl rfl fa70_5 rfl) <| g_u (zH rfl rfl rfl tA44 tS44 rfl rfl) <| g_u (xj rfl rfl nI183) <| g_u (zE rfl rfl) <| zF <| zA <| zM <| zt <| zL ?_
                  exact ⟨⟨(rfl : toAV (Al.look _ _) = some _).trans (congrArg some (by (simp only [beq_iff_eq, beq_eq_false_iff_ne, ne_eq, decide_eq_true_eq, decide_eq_false_iff_not] at *; unfold wL; (repeat (first | rw [if_pos (by omega)] | rw [if_neg (by omega)])); (first | done | rfl)))), rfl⟩, trivial⟩
                · refine zO ?_
                  refine zY <| zA <| zD <| zB <| g_u (xj rfl rfl nI164) <| g_u (zE rfl rfl) <| zF <| zA <| zM ?_
                  exact ⟨⟨(rfl : toAV (Al.look _ _) = some _).trans (congrArg some (by (simp only [beq_iff_eq, beq_eq_false_iff_ne, ne_eq, decide_eq_true_eq, decide_eq_false_iff_not] at *; unfold wL; (repeat (first | rw [if_pos (by omega)] | rw [if_neg (by omega)])); (first | done | rfl)))), rfl⟩, trivial⟩
theorem thing_p {v : GV} (h : v.kind ≠ 1 ∧ v.kind ≠ 4 ∧ v.kind ≠ 5 ∧ v.kind ≠ 6 ∧ v.kind ≠ 7) (c : zs Tryz.prog Γ0 120 [v.av] [wL v]) : zs Tryz.prog Γ0 120 [v.av] [.ifc 164 (sv (yB (y3 v)))] := by
  have e : wL v = .ifc 164 (sv (yB (y3 v))) := by
    unfold wL
    by_cases h0 : v.kind = 0
    · rw [if_pos h0, json0 h0]
    · rw [if_neg h0, if_neg h.1, jsonE (by omega)]
      by_cases h2 : v.kind = 2
      · rw [if_pos h2]
        by_cases hn : v.num = 0
        · rw [simp2 h2 hn, truthB, if_pos hn]
        · rw [simp2' h2 hn, truthB, if_neg hn]
      · rw [if_neg h2]
        by_cases h3 : v.kind = 3
        · rw [if_pos h3, simp3 h3]
        · rw [if_neg h3, if_neg h.2.1, if_neg h.2.2.1, if_neg h.2.2.2.1, if_neg h.2.2.2.2, simp6 (by omega)]; rfl
  rw [← e]; exact c
theorem thing_q {v : GV} (h : v.kind = 1 ∨ v.kind = 4 ∨ v.kind = 5) (c : zs Tryz.prog Γ0 120 [v.av] [wL v]) : zs Tryz.prog Γ0 120 [v.av] [.ifc 163 (sv (yB (wA v)))] := by
  have e : wL v = .ifc 163 (sv (yB (wA v))) := by
    unfold wL
    rcases h with h | h | h
    · rw [if_neg (by omega), if_pos h, simp1 h]
    · rw [if_neg (by omega), if_neg (by omega), if_neg (by omega), if_neg (by omega), if_pos h, simp4 h]
    · rw [if_neg (by omega), if_neg (by omega), if_neg (by omega), if_neg (by omega), if_neg (by omega), if_pos h, simp5 h]
  rw [← e]; exact c
theorem thing_l {v : GV} (h : v.kind = 6) (c : zs Tryz.prog Γ0 120 [v.av] [wL v]) : zs Tryz.prog Γ0 120 [v.av] [.ifc 182 (.sl 6 (v.list.map avV))] := by
  have e : wL v = .ifc 182 (.sl 6 (v.list.map avV)) := by
    unfold wL
    rw [if_neg (by omega), if_neg (by omega), if_neg (by omega), if_neg (by omega), if_neg (by omega), if_neg (by omega), if_pos h]
  rw [← e]; exact c
theorem thing_m {v : GV} (h : v.kind = 7) (c : zs Tryz.prog Γ0 120 [v.av] [wL v]) : zs Tryz.prog Γ0 120 [v.av] [.ifc 183 (.sl 7 (v.map.map avA))] := by
  have e : wL v = .ifc 183 (.sl 7 (v.map.map avA)) := by
    unfold wL
    rw [if_neg (by omega), if_neg (by omega), if_neg (by omega), if_neg (by omega), if_neg (by omega), if_neg (by omega), if_neg (by omega), if_pos h]
  rw [← e]; exact c
theorem lay_p (v : GV) (ho : v.ok) (hw : v.wt ≤ 10000000) (xs : List AV) (hx : W1 xs) (hl : xs.length + 150 * v.wt ≤ 5000000000) (hk : v.kind ≠ 1 ∧ v.kind ≠ 4 ∧ v.kind ≠ 5 ∧ v.kind ≠ 6 ∧ v.kind ≠ 7) : MCall Tryz.prog Γ0 148 [.slg 100001 1 xs, .imm v.av] [(100001, .tok 1 xs)] (.slg 100001 1 (xs ++ zo (y3 v))) [(100001, .tok 1 (xs ++ zo (y3 v)))] := by
  have lv := xh v.list
  have la := y5 v.map
  have ek := v.wt_eq
  have ok := v.ok_iff.1 ho
  have sl := yl v
  have jl := yT v
  have e0 : zo (yB (y3 v)).data.toList = zo (y3 v) := by rw [xP]
  refine we (rs := [.slg 100001 1 (xs ++ zo (y3 v))]) Tryz.func148 rfl Tryz.ntmps148 (by kernel_rfl) rfl rfl rfl rfl rfl fun w0 I0 G0 E => ?_
  refine zD <| zB <| g_uG (zp 1003 rfl rfl rfl rfl) rfl <| g_u (zE rfl rfl) <| zF <| zA <| zD <| zD <| zB <| g_u (zH rfl rfl rfl tA70 tS70 rfl rfl) <| g_u (zQ (thing_p hk (thing_c v ho hw)) rfl rfl) <| zF <| zA <| zV <| zD <| zB <| g_u (wl rfl rfl nI164) <| g_u (zl rfl rfl rfl rfl) <| g_u (zl rfl rfl rfl rfl) <| zF <| zA <| zy rfl <| zD <| zB <| g_u (zE rfl rfl) <| zF <| zA <| zD <| zB <| g_u (yW rfl rfl) <| g_u (zC rfl rfl) ?_
  refine g_u (s_appendS rfl rfl rfl rfl rfl Tryz.underlying42 Tryz.underlying164 tS5 zv5 rfl by5 (by rw [zX]; omega) (by rw [zX]; omega)) ?_
  refine g_u (yS rfl rfl) <| zF <| zA <| zM <| zt <| zL ?_
  exact ⟨⟨.inr ⟨_, rfl, yp rfl (by rw [e0]), rfl⟩, trivial⟩, ⟨yc rfl (by rw [e0]), trivial⟩⟩
theorem lay_q (v : GV) (ho : v.ok) (hw : v.wt ≤ 10000000) (xs : List AV) (hx : W1 xs) (hl : xs.length + 150 * v.wt ≤ 5000000000) (hk : v.kind = 1 ∨ v.kind = 4 ∨ v.kind = 5) : MCall Tryz.prog Γ0 148 [.slg 100001 1 xs, .imm v.av] [(100001, .tok 1 xs)] (.slg 100001 1 (xs ++ zo (y3 v))) [(100001, .tok 1 (xs ++ zo (y3 v)))] := by
  have lv := xh v.list
  have la := y5 v.map
  have ek := v.wt_eq
  have ok := v.ok_iff.1 ho
  have sl := yl v
  have jl := yT v
  refine we (rs := [.slg 100001 1 (xs ++ zo (y3 v))]) Tryz.func148 rfl Tryz.ntmps148 (by kernel_rfl) rfl rfl rfl rfl rfl fun w0 I0 G0 E => ?_
  refine zD <| zB <| g_uG (zp 1003 rfl rfl rfl rfl) rfl <| g_u (zE rfl rfl) <| zF <| zA <| zD <| zD <| zB <| g_u (zH rfl rfl rfl tA70 tS70 rfl rfl) <| g_u (zQ (thing_q hk (thing_c v ho hw)) rfl rfl) <| zF <| zA <| zV <| zD <| zB ?_
  refine g_u (xK rfl rfl nI164 tZ164 (fun z h => by rw [zv164] at h; cases h; rfl) rfl) ?_
  refine g_u (zl rfl rfl rfl rfl) <| g_u (zl rfl rfl rfl rfl) <| zF <| zA <| z8 rfl <| zD <| zB <| g_u (wl rfl rfl nI163) <| g_u (zl rfl rfl rfl rfl) <| g_u (zl rfl rfl rfl rfl) <| zF <| zA <| zy rfl <| zD <| zB <| g_u (zE rfl rfl) <| zF <| zA <| zD <| zB <| g_u (yW rfl rfl) <| g_u (zC rfl rfl) ?_
  refine g_uG (vK [(3014, 20001)] (jput_c _ _ hx (by rw [zX]; omega) (by omega)) rfl rfl ⟨.inr ⟨_, rfl, rfl⟩, .inl rfl, trivial⟩ trivial rfl rfl rfl) rfl ?_
  refine g_u (yS rfl rfl) <| zF <| zA ?_
  refine aw_renTok 20001 100001 1 (xs ++ zo (vE (lst (yB (wA v))))) [(4, .slg 100001 1 (xs ++ zo (vE (lst (yB (wA v))))))] rfl rfl rfl rfl rfl rfl ⟨.inr (.inl ⟨rfl, rfl⟩), trivial⟩ (by rw [List.length_append, yI]; simp only [vE, List.length_cons]; omega) ?_
  refine zM <| zt <| zL ?_
  exact ⟨⟨.inr ⟨_, rfl, yp rfl (by rw [jsonS hk, yH]), rfl⟩, trivial⟩, ⟨yc rfl (by rw [jsonS hk, yH]), trivial⟩⟩
theorem bytesL_cons (c : UInt8) (l : Bs) : zo (c :: l) = .v (wN c) :: zo l := rfl
theorem bytesL_nil : zo [] = [] := rfl
theorem W1.app {a b : List AV} (h : W1 a) (k : W1 b) : W1 (a ++ b) := fun x hx => (List.mem_append.1 hx).elim (h x) (k x)
theorem lay_l (v : GV) (ho : v.ok) (hw : v.wt ≤ 10000000) (xs : List AV) (hx : W1 xs) (hl : xs.length + 150 * v.wt ≤ 5000000000) (hk : v.kind = 6) (ih : ∀ y ∈ v.list, ∀ xs : List AV, W1 xs → xs.length + 150 * y.wt ≤ 5000000000 → MCall Tryz.prog Γ0 148 [.slg 100001 1 xs, .imm y.av] [(100001, .tok 1 xs)] (.slg 100001 1 (xs ++ zo (y3 y))) [(100001, .tok 1 (xs ++ zo (y3 y)))]) : MCall Tryz.prog Γ0 148 [.slg 100001 1 xs, .imm v.av] [(100001, .tok 1 xs)] (.slg 100001 1 (xs ++ zo (y3 v))) [(100001, .tok 1 (xs ++ zo (y3 v)))] := by
  have lv := xh v.list
  have la := y5 v.map
  have ek := v.wt_eq
  have ok := v.ok_iff.1 ho
  have sl := yl v
  have jl := yT v
  refine we (rs := [.slg 100001 1 (xs ++ zo (y3 v))]) Tryz.func148 rfl Tryz.ntmps148 (by kernel_rfl) rfl rfl rfl rfl rfl fun w0 I0 G0 E => ?_
  refine zD <| zB <| g_uG (zp 1003 rfl rfl rfl rfl) rfl <| g_u (zE rfl rfl) <| zF <| zA <| zD <| zD <| zB <| g_u (zH rfl rfl rfl tA70 tS70 rfl rfl) <| g_u (zQ (thing_l hk (thing_c v ho hw)) rfl rfl) <| zF <| zA <| zV <| zD <| zB ?_
  refine g_u (xK rfl rfl nI164 tZ164 (fun z h => by rw [zv164] at h; cases h; rfl) rfl) ?_
  refine g_u (zl rfl rfl rfl rfl) <| g_u (zl rfl rfl rfl rfl) <| zF <| zA <| z8 rfl <| zD <| zB ?_
  refine g_u (xK rfl rfl nI163 tZ163 (fun z h => by rw [zv163] at h; cases h; rfl) rfl) ?_
  refine g_u (zl rfl rfl rfl rfl) <| g_u (zl rfl rfl rfl rfl) <| zF <| zA <| z8 rfl <| zD <| zB <| g_u (wl rfl rfl nI182) <| g_u (zl rfl rfl rfl rfl) <| g_u (zl rfl rfl rfl rfl) <| zF <| zA <| zy rfl <| zD <| zB <| g_u (zE rfl rfl) <| zF <| zA <| zD <| zB <| g_u (yW rfl rfl) <| g_u (zm (X0 := z5) rfl Tryz.underlying42 tS5 tZ5 rfl rfl rfl rfl rfl rfl rfl rfl) ?_
  refine g_u (yj rfl rfl rfl rfl rfl Tryz.underlying42 Tryz.underlying42 tS5 zv5 rfl (by decide) by5 (by (try dsimp only); simp only [List.length_append, List.length_cons, List.length_nil]; omega) (by (try dsimp only); simp only [List.length_append, List.length_cons, List.length_nil]; omega)) ?_
  refine g_u (yS rfl rfl) <| zF <| zA <| zD <| zD <| zB <| g_u (zC rfl rfl) <| g_u (yJ rfl rfl Tryz.underlying182) <| g_u (zC rfl rfl) <| zF <| zA <| zV ?_
  refine zu (fun j : Nat × List AV => [(0, .slg 100001 1 j.2), (100001, .tok 1 j.2), (33, .imm (.sl 6 (v.list.map avV))), (34, .imm (iv (v.list.length : Int))), (35, .imm (iv (j.1 : Int)))]) (fun j => j.1 ≤ v.list.length ∧ j.2 = xs ++ zo (91 :: wU true (v.list.take j.1))) (fun j => v.list.length - j.1) (⟨0, xs ++ zo [91]⟩) ?_ ⟨rfl, rfl, rfl, zZ rfl (by rw [List.length_map]), rfl, trivial⟩ ?_
  · exact ⟨Nat.zero_le _, rfl⟩
  · rintro ⟨i, ys⟩ ⟨h1, h2⟩; dsimp only at h1 h2; have hlen : ys.length ≤ xs.length + 1 + 150 * wtVs (v.list.take i) := by have := jsonVs_len (v.list.take i) true; rw [h2, List.length_append, yI, List.length_cons]; omega
    have hwy : W1 ys := by rw [h2]; exact hx.app (W1.bytes _)
    have htk := wtVs_take v.list i
    refine zD <| zB <| g_u (y_ rfl rfl rfl) <| zF <| zA <| zD ?_
    refine zN rfl (fun hb1 => ?_) (fun hb1 => ?_)
    · have hiv : i < v.list.length := by have := of_decide_eq_true hb1; simp only [List.length_map] at this; omega
      refine zO <| zA <| zD <| zV <| zD <| zB <| g_u (zC rfl rfl) ?_
      refine g_u (zR rfl rfl rfl Tryz.underlying182 tS70 (by omega) (ixV hiv)) ?_
      refine g_u (z_ rfl rfl tA70 tS70 rfl rfl) <| g_uG (yR 1009 rfl rfl rfl tZ70) rfl <| g_u (zE rfl rfl) <| g_u (zg rfl rfl rfl tS70 rfl rfl) <| zF <| zA <| zD <| zD <| zB <| g_u (zC rfl rfl) <| g_u (xu rfl rfl rfl) <| zF <| zA ?_
      refine zN rfl (fun hb2 => ?_) (fun hb2 => ?_)
      · have hc : comma (i == 0) = [44] := by have hp : i ≠ 0 := (by have := of_decide_eq_true hb2; omega); rw [show (i == 0) = false from by simpa using hp]; rfl
        refine zB <| g_u (yW rfl rfl) <| g_u (zm (X0 := z5) rfl Tryz.underlying42 tS5 tZ5 rfl rfl rfl rfl rfl rfl rfl rfl) ?_
        refine g_u (yj rfl rfl rfl rfl rfl Tryz.underlying42 Tryz.underlying42 tS5 zv5 rfl (by decide) by5 (by (try dsimp only); simp only [List.length_append, List.length_cons, List.length_nil]; omega) (by (try dsimp only); simp only [List.length_append, List.length_cons, List.length_nil]; omega)) ?_
        refine g_u (yS rfl rfl) <| zF <| zA <| zB <| g_u (yW rfl rfl) <| g_u (yn rfl rfl rfl tA70 tS70 rfl rfl) ?_
        refine g_uG (vK [(100001, 100001)] (ih _ (nthV_mem hiv) _ (by first | exact hwy | exact hwy.app (W1.bytes [44])) (by have q1 := wd hiv; (try simp only [List.length_append, List.length_cons, List.length_nil]); omega)) rfl rfl ⟨.inl rfl, .inl rfl, trivial⟩ ⟨rfl, trivial⟩ rfl rfl rfl) rfl ?_
        refine g_u (yS rfl rfl) <| zF <| zY <| zA <| zB <| g_u (zz rfl rfl rfl) <| g_u (zC rfl rfl) <| zF <| zA ?_
        refine ⟨⟨i + 1, _⟩, ⟨hiv, ?_⟩, ⟨rfl, rfl, rfl, rfl, zZ rfl (by rw [zK (by omega) (by omega)]; rfl), trivial⟩, by dsimp only; omega⟩
        dsimp only
        rw [jsonVs_take hiv, hc]
        subst h2
        simp only [List.append_assoc, List.cons_append, List.nil_append, ← ye, bytesL_cons, bytesL_nil, xP, yH]
        try rfl
      · have hc : comma (i == 0) = [] := by have hp : i = 0 := (by have := of_decide_eq_false hb2; omega); rw [hp]; rfl
        refine zO <| zA <| zB <| g_u (yW rfl rfl) <| g_u (yn rfl rfl rfl tA70 tS70 rfl rfl) ?_
        refine g_uG (vK [(100001, 100001)] (ih _ (nthV_mem hiv) _ (by first | exact hwy | exact hwy.app (W1.bytes [44])) (by have q1 := wd hiv; (try simp only [List.length_append, List.length_cons, List.length_nil]); omega)) rfl rfl ⟨.inl rfl, .inl rfl, trivial⟩ ⟨rfl, trivial⟩ rfl rfl rfl) rfl ?_
        refine g_u (yS rfl rfl) <| zF <| zY <| zA <| zB <| g_u (zz rfl rfl rfl) <| g_u (zC rfl rfl) <| zF <| zA ?_
        refine ⟨⟨i + 1, _⟩, ⟨hiv, ?_⟩, ⟨rfl, rfl, rfl, rfl, zZ rfl (by rw [zK (by omega) (by omega)]; rfl), trivial⟩, by dsimp only; omega⟩
        dsimp only
        rw [jsonVs_take hiv, hc]
        subst h2
        simp only [List.append_assoc, List.cons_append, List.nil_append, ← ye, bytesL_cons, bytesL_nil, xP, yH]
        try rfl
    · have hi : i = v.list.length := by have := of_decide_eq_false hb1; simp only [List.length_map] at this; omega
      refine z7 <| zT <| zT <| zq <| zA <| zD <| zB <| g_u (yW rfl rfl) <| g_u (zm (X0 := z5) rfl Tryz.underlying42 tS5 tZ5 rfl rfl rfl rfl rfl rfl rfl rfl) ?_
      refine g_u (yj rfl rfl rfl rfl rfl Tryz.underlying42 Tryz.underlying42 tS5 zv5 rfl (by decide) by5 (by (try dsimp only); simp only [List.length_append, List.length_cons, List.length_nil]; omega) (by (try dsimp only); simp only [List.length_append, List.length_cons, List.length_nil]; omega)) ?_
      refine g_u (yS rfl rfl) <| zF <| zA <| zM <| zt <| zL ?_
      exact ⟨⟨.inr ⟨_, rfl, yp rfl (by rw [json6 hk, h2, hi, List.take_of_length_le (Nat.le_refl _), List.append_assoc]; exact congrArg (xs ++ ·) (ye _ [93])), rfl⟩, trivial⟩, ⟨yc rfl (by rw [json6 hk, h2, hi, List.take_of_length_le (Nat.le_refl _), List.append_assoc]; exact congrArg (xs ++ ·) (ye _ [93])), trivial⟩⟩
theorem lay_m (v : GV) (ho : v.ok) (hw : v.wt ≤ 10000000) (xs : List AV) (hx : W1 xs) (hl : xs.length + 150 * v.wt ≤ 5000000000) (hk : v.kind = 7) (ih : ∀ a ∈ v.map, ∀ xs : List AV, W1 xs → xs.length + 150 * a.val.wt ≤ 5000000000 → MCall Tryz.prog Γ0 148 [.slg 100001 1 xs, .imm a.val.av] [(100001, .tok 1 xs)] (.slg 100001 1 (xs ++ zo (y3 a.val))) [(100001, .tok 1 (xs ++ zo (y3 a.val)))]) : MCall Tryz.prog Γ0 148 [.slg 100001 1 xs, .imm v.av] [(100001, .tok 1 xs)] (.slg 100001 1 (xs ++ zo (y3 v))) [(100001, .tok 1 (xs ++ zo (y3 v)))] := by
  have lv := xh v.list
  have la := y5 v.map
  have ek := v.wt_eq
  have ok := v.ok_iff.1 ho
  have sl := yl v
  have jl := yT v
  refine we (rs := [.slg 100001 1 (xs ++ zo (y3 v))]) Tryz.func148 rfl Tryz.ntmps148 (by kernel_rfl) rfl rfl rfl rfl rfl fun w0 I0 G0 E => ?_
  refine zD <| zB <| g_uG (zp 1003 rfl rfl rfl rfl) rfl <| g_u (zE rfl rfl) <| zF <| zA <| zD <| zD <| zB <| g_u (zH rfl rfl rfl tA70 tS70 rfl rfl) <| g_u (zQ (thing_m hk (thing_c v ho hw)) rfl rfl) <| zF <| zA <| zV <| zD <| zB ?_
  refine g_u (xK rfl rfl nI164 tZ164 (fun z h => by rw [zv164] at h; cases h; rfl) rfl) ?_
  refine g_u (zl rfl rfl rfl rfl) <| g_u (zl rfl rfl rfl rfl) <| zF <| zA <| z8 rfl <| zD <| zB ?_
  refine g_u (xK rfl rfl nI163 tZ163 (fun z h => by rw [zv163] at h; cases h; rfl) rfl) ?_
  refine g_u (zl rfl rfl rfl rfl) <| g_u (zl rfl rfl rfl rfl) <| zF <| zA <| z8 rfl <| zD <| zB ?_
  refine g_u (xK rfl rfl nI182 tZ182 (fun z h => by rw [zv182] at h; cases h; rfl) rfl) ?_
  refine g_u (zl rfl rfl rfl rfl) <| g_u (zl rfl rfl rfl rfl) <| zF <| zA <| z8 rfl <| zD <| zB <| g_u (wl rfl rfl nI183) <| g_u (zl rfl rfl rfl rfl) <| g_u (zl rfl rfl rfl rfl) <| zF <| zA <| zy rfl <| zD <| zB <| g_u (zE rfl rfl) <| zF <| zA <| zD <| zB <| g_u (yW rfl rfl) <| g_u (zm (X0 := z5) rfl Tryz.underlying42 tS5 tZ5 rfl rfl rfl rfl rfl rfl rfl rfl) ?_
  refine g_u (yj rfl rfl rfl rfl rfl Tryz.underlying42 Tryz.underlying42 tS5 zv5 rfl (by decide) by5 (by (try dsimp only); (try (have q1 := yd hia; have q2 := (nthA v.map i).wt_eq; have q3 := zv (lst (nthA v.map i).key); have q4 := yA (nthA v.map i).key)); (try simp only [List.length_append, List.length_cons, List.length_nil, yI]); omega) (by (try dsimp only); (try (have q1 := yd hia; have q2 := (nthA v.map i).wt_eq; have q3 := zv (lst (nthA v.map i).key); have q4 := yA (nthA v.map i).key)); (try simp only [List.length_append, List.length_cons, List.length_nil, yI]); omega)) ?_
  refine g_u (yS rfl rfl) <| zF <| zA <| zD <| zD <| zB <| g_u (zC rfl rfl) <| g_u (yJ rfl rfl Tryz.underlying183) <| g_u (zC rfl rfl) <| zF <| zA <| zV ?_
  refine zu (fun j : Nat × List AV => [(0, .slg 100001 1 j.2), (100001, .tok 1 j.2), (58, .imm (.sl 7 (v.map.map avA))), (59, .imm (iv (v.map.length : Int))), (60, .imm (iv (j.1 : Int)))]) (fun j => j.1 ≤ v.map.length ∧ j.2 = xs ++ zo (123 :: wW true (v.map.take j.1))) (fun j => v.map.length - j.1) (⟨0, xs ++ zo [123]⟩) ?_ ⟨rfl, rfl, rfl, zZ rfl (by rw [List.length_map]), rfl, trivial⟩ ?_
  · exact ⟨Nat.zero_le _, rfl⟩
  · rintro ⟨i, ys⟩ ⟨h1, h2⟩; dsimp only at h1 h2; have hlen : ys.length ≤ xs.length + 1 + 150 * wtAs (v.map.take i) := by have := jsonAs_len (v.map.take i) true; rw [h2, List.length_append, yI, List.length_cons]; omega
    have hwy : W1 ys := by rw [h2]; exact hx.app (W1.bytes _)
    have htk := wtAs_take v.map i
    refine zD <| zB <| g_u (y_ rfl rfl rfl) <| zF <| zA <| zD ?_
    refine zN rfl (fun hb1 => ?_) (fun hb1 => ?_)
    · have hia : i < v.map.length := by have := of_decide_eq_true hb1; simp only [List.length_map] at this; omega
      have hka : (nthA v.map i).key.size ≤ 10000000000 := by have q1 := yd hia; have q4 := (nthA v.map i).wt_eq; omega
      refine zO <| zA <| zD <| zV <| zD <| zB <| g_u (zC rfl rfl) ?_
      refine g_u (zR rfl rfl rfl Tryz.underlying183 tS72 (by omega) (ixA hia)) ?_
      refine g_u (z_ rfl rfl tA72 tS72 rfl rfl) <| g_uG (yR 1012 rfl rfl rfl tZ72) rfl <| g_u (zE rfl rfl) <| g_u (zg rfl rfl rfl tS72 rfl rfl) <| zF <| zA <| zD <| zD <| zB <| g_u (zC rfl rfl) <| g_u (xu rfl rfl rfl) <| zF <| zA ?_
      refine zN rfl (fun hb2 => ?_) (fun hb2 => ?_)
      · have hc : comma (i == 0) = [44] := by have hp : i ≠ 0 := (by have := of_decide_eq_true hb2; omega); rw [show (i == 0) = false from by simpa using hp]; rfl
        refine zB <| g_u (yW rfl rfl) <| g_u (zm (X0 := z5) rfl Tryz.underlying42 tS5 tZ5 rfl rfl rfl rfl rfl rfl rfl rfl) ?_
        refine g_u (yj rfl rfl rfl rfl rfl Tryz.underlying42 Tryz.underlying42 tS5 zv5 rfl (by decide) by5 (by (try dsimp only); (try (have q1 := yd hia; have q2 := (nthA v.map i).wt_eq; have q3 := zv (lst (nthA v.map i).key); have q4 := yA (nthA v.map i).key)); (try simp only [List.length_append, List.length_cons, List.length_nil, yI]); omega) (by (try dsimp only); (try (have q1 := yd hia; have q2 := (nthA v.map i).wt_eq; have q3 := zv (lst (nthA v.map i).key); have q4 := yA (nthA v.map i).key)); (try simp only [List.length_append, List.length_cons, List.length_nil, yI]); omega)) ?_
        refine g_u (yS rfl rfl) <| zF <| zA <| yX xb <| g_u (yW rfl rfl) <| g_u (zG rfl rfl fa72_0 rfl) <| g_u (zH rfl rfl rfl tA9 tS9 rfl rfl) ?_
        refine g_uG (vK [(3014, 20001)] (jput_c _ _ (by first | exact hwy | exact hwy.app (W1.bytes [44])) hka (by have q1 := yd hia; have q2 := (nthA v.map i).wt_eq; have q3 := zv (lst (nthA v.map i).key); have q4 := yA (nthA v.map i).key; (try simp only [List.length_append, List.length_cons, List.length_nil, yI]); omega)) rfl rfl ⟨.inr ⟨_, rfl, rfl⟩, .inl rfl, trivial⟩ trivial rfl rfl rfl) rfl ?_
        refine g_u (zm (X0 := z5) rfl Tryz.underlying42 tS5 tZ5 rfl rfl rfl rfl rfl rfl rfl rfl) ?_
        refine g_u (yj rfl rfl rfl rfl rfl Tryz.underlying42 Tryz.underlying42 tS5 zv5 rfl (by decide) by5 (by (try dsimp only); (try (have q1 := yd hia; have q2 := (nthA v.map i).wt_eq; have q3 := zv (lst (nthA v.map i).key); have q4 := yA (nthA v.map i).key)); (try simp only [List.length_append, List.length_cons, List.length_nil, yI]); omega) (by (try dsimp only); (try (have q1 := yd hia; have q2 := (nthA v.map i).wt_eq; have q3 := zv (lst (nthA v.map i).key); have q4 := yA (nthA v.map i).key)); (try simp only [List.length_append, List.length_cons, List.length_nil, yI]); omega)) ?_
        refine g_u (zG rfl rfl fa72_1 rfl) <| g_u (zH rfl rfl rfl tA70 tS70 rfl rfl) ?_
        refine g_uG (vK [(100001, 20001)] (ih _ (xZ hia) _ (by first | exact ((hwy.app (W1.bytes _)).app (W1.bytes [58])) | exact (((hwy.app (W1.bytes [44])).app (W1.bytes _)).app (W1.bytes [58]))) (by show _ + 150 * (nthA v.map i).val.wt ≤ 5000000000; have q1 := yd hia; have q2 := (nthA v.map i).wt_eq; have q3 := zv (lst (nthA v.map i).key); have q4 := yA (nthA v.map i).key; (try simp only [List.length_append, List.length_cons, List.length_nil, yI]); omega)) rfl rfl ⟨.inl rfl, .inl rfl, trivial⟩ ⟨rfl, trivial⟩ rfl rfl rfl) rfl ?_
        refine g_u (yS rfl rfl) ?_
        refine zF ⟨by kernel_rfl, ?_⟩
        refine zY <| zA ?_
        refine aw_renTok 20001 100001 1 _ [(0, .slg 100001 1 _), (58, .imm (.sl 7 (v.map.map avA))), (59, .imm (iv (v.map.length : Int))), (60, .imm (iv (i : Int)))] rfl rfl rfl rfl rfl rfl ⟨.inr (.inl ⟨rfl, rfl⟩), .inl ⟨rfl, rfl⟩, .inl ⟨rfl, rfl⟩, .inl ⟨rfl, rfl⟩, trivial⟩ (by simp only [List.length_append, List.length_cons, List.length_nil, yI]; omega) ?_
        refine zB <| g_u (zz rfl rfl rfl) <| g_u (zC rfl rfl) <| zF <| zA ?_
        refine ⟨⟨i + 1, _⟩, ⟨hia, ?_⟩, ⟨rfl, rfl, rfl, rfl, zZ rfl (by rw [zK (by omega) (by omega)]; rfl), trivial⟩, by dsimp only; omega⟩
        dsimp only
        rw [jsonAs_take hia, hc, jsonA_eq]
        subst h2
        simp only [List.append_assoc, List.cons_append, List.nil_append, ← ye, bytesL_cons, bytesL_nil, xP, yH]
        try rfl
      · have hc : comma (i == 0) = [] := by have hp : i = 0 := (by have := of_decide_eq_false hb2; omega); rw [hp]; rfl
        refine zO <| zA <| yX xb <| g_u (yW rfl rfl) <| g_u (zG rfl rfl fa72_0 rfl) <| g_u (zH rfl rfl rfl tA9 tS9 rfl rfl) ?_
        refine g_uG (vK [(3014, 20002)] (jput_c _ _ (by first | exact hwy | exact hwy.app (W1.bytes [44])) hka (by have q1 := yd hia; have q2 := (nthA v.map i).wt_eq; have q3 := zv (lst (nthA v.map i).key); have q4 := yA (nthA v.map i).key; (try simp only [List.length_append, List.length_cons, List.length_nil, yI]); omega)) rfl rfl ⟨.inr ⟨_, rfl, rfl⟩, .inl rfl, trivial⟩ trivial rfl rfl rfl) rfl ?_
        refine g_u (zm (X0 := z5) rfl Tryz.underlying42 tS5 tZ5 rfl rfl rfl rfl rfl rfl rfl rfl) ?_
        refine g_u (yj rfl rfl rfl rfl rfl Tryz.underlying42 Tryz.underlying42 tS5 zv5 rfl (by decide) by5 (by (try dsimp only); (try (have q1 := yd hia; have q2 := (nthA v.map i).wt_eq; have q3 := zv (lst (nthA v.map i).key); have q4 := yA (nthA v.map i).key)); (try simp only [List.length_append, List.length_cons, List.length_nil, yI]); omega) (by (try dsimp only); (try (have q1 := yd hia; have q2 := (nthA v.map i).wt_eq; have q3 := zv (lst (nthA v.map i).key); have q4 := yA (nthA v.map i).key)); (try simp only [List.length_append, List.length_cons, List.length_nil, yI]); omega)) ?_
        refine g_u (zG rfl rfl fa72_1 rfl) <| g_u (zH rfl rfl rfl tA70 tS70 rfl rfl) ?_
        refine g_uG (vK [(100001, 20002)] (ih _ (xZ hia) _ (by first | exact ((hwy.app (W1.bytes _)).app (W1.bytes [58])) | exact (((hwy.app (W1.bytes [44])).app (W1.bytes _)).app (W1.bytes [58]))) (by show _ + 150 * (nthA v.map i).val.wt ≤ 5000000000; have q1 := yd hia; have q2 := (nthA v.map i).wt_eq; have q3 := zv (lst (nthA v.map i).key); have q4 := yA (nthA v.map i).key; (try simp only [List.length_append, List.length_cons, List.length_nil, yI]); omega)) rfl rfl ⟨.inl rfl, .inl rfl, trivial⟩ ⟨rfl, trivial⟩ rfl rfl rfl) rfl ?_
        refine g_u (yS rfl rfl) ?_
        refine zF ⟨by kernel_rfl, ?_⟩
        refine zY <| zA ?_
        refine aw_renTok 20002 100001 1 _ [(0, .slg 100001 1 _), (58, .imm (.sl 7 (v.map.map avA))), (59, .imm (iv (v.map.length : Int))), (60, .imm (iv (i : Int)))] rfl rfl rfl rfl rfl rfl ⟨.inr (.inl ⟨rfl, rfl⟩), .inl ⟨rfl, rfl⟩, .inl ⟨rfl, rfl⟩, .inl ⟨rfl, rfl⟩, trivial⟩ (by simp only [List.length_append, List.length_cons, List.length_nil, yI]; omega) ?_
        refine zB <| g_u (zz rfl rfl rfl) <| g_u (zC rfl rfl) <| zF <| zA ?_
        refine ⟨⟨i + 1, _⟩, ⟨hia, ?_⟩, ⟨rfl, rfl, rfl, rfl, zZ rfl (by rw [zK (by omega) (by omega)]; rfl), trivial⟩, by dsimp only; omega⟩
        dsimp only
        rw [jsonAs_take hia, hc, jsonA_eq]
        subst h2
        simp only [List.append_assoc, List.cons_append, List.nil_append, ← ye, bytesL_cons, bytesL_nil, xP, yH]
        try rfl
    · have hi : i = v.map.length := by have := of_decide_eq_false hb1; simp only [List.length_map] at this; omega
      refine z7 <| zT <| zT <| zq <| zA <| zD <| zB <| g_u (yW rfl rfl) <| g_u (zm (X0 := z5) rfl Tryz.underlying42 tS5 tZ5 rfl rfl rfl rfl rfl rfl rfl rfl) ?_
      refine g_u (yj rfl rfl rfl rfl rfl Tryz.underlying42 Tryz.underlying42 tS5 zv5 rfl (by decide) by5 (by (try dsimp only); (try (have q1 := yd hia; have q2 := (nthA v.map i).wt_eq; have q3 := zv (lst (nthA v.map i).key); have q4 := yA (nthA v.map i).key)); (try simp only [List.length_append, List.length_cons, List.length_nil, yI]); omega) (by (try dsimp only); (try (have q1 := yd hia; have q2 := (nthA v.map i).wt_eq; have q3 := zv (lst (nthA v.map i).key); have q4 := yA (nthA v.map i).key)); (try simp only [List.length_append, List.length_cons, List.length_nil, yI]); omega)) ?_
      refine g_u (yS rfl rfl) <| zF <| zA <| zM <| zt <| zL ?_
      exact ⟨⟨.inr ⟨_, rfl, yp rfl (by rw [json7 hk, h2, hi, List.take_of_length_le (Nat.le_refl _), List.append_assoc]; exact congrArg (xs ++ ·) (ye _ [125])), rfl⟩, trivial⟩, ⟨yc rfl (by rw [json7 hk, h2, hi, List.take_of_length_le (Nat.le_refl _), List.append_assoc]; exact congrArg (xs ++ ·) (ye _ [125])), trivial⟩⟩
theorem lay_c (v : GV) : v.ok → v.wt ≤ 10000000 → ∀ xs : List AV, W1 xs → xs.length + 150 * v.wt ≤ 5000000000 → MCall Tryz.prog Γ0 148 [.slg 100001 1 xs, .imm v.av] [(100001, .tok 1 xs)] (.slg 100001 1 (xs ++ zo (y3 v))) [(100001, .tok 1 (xs ++ zo (y3 v)))] := by
  refine GV.ind (P := fun v => v.ok → v.wt ≤ 10000000 → ∀ xs : List AV, W1 xs → xs.length + 150 * v.wt ≤ 5000000000 → MCall Tryz.prog Γ0 148 [.slg 100001 1 xs, .imm v.av] [(100001, .tok 1 xs)] (.slg 100001 1 (xs ++ zo (y3 v))) [(100001, .tok 1 (xs ++ zo (y3 v)))]) ?_ v
  intro v h1 h2 ho hw xs hx hl
  have ok := v.ok_iff.1 ho
  have ek := v.wt_eq
  by_cases h6 : v.kind = 6
  · exact lay_l v ho hw xs hx hl h6 fun y hy ys hy1 hy2 => h1 y hy (ok.2.2.2.2.1 y hy) (by have := wtVs_mem hy; omega) ys hy1 hy2
  by_cases h7 : v.kind = 7
  · exact lay_m v ho hw xs hx hl h7 fun a ha ys hy1 hy2 => h2 a ha ((GA.ok_iff a).1 (ok.2.2.2.2.2 a ha)).2 (by have := wZ ha; have := a.wt_eq; omega) ys hy1 hy2
  by_cases hq : v.kind = 1 ∨ v.kind = 4 ∨ v.kind = 5
  · exact lay_q v ho hw xs hx hl hq
  · exact lay_p v ho hw xs hx hl (by omega)
theorem json_c (v : GV) (ho : v.ok) (hw : v.wt ≤ 10000000) : zs Tryz.prog Γ0 121 [v.av] [sv (yB (y3 v))] := by
  have lv := xh v.list
  have la := y5 v.map
  have ek := v.wt_eq
  have ok := v.ok_iff.1 ho
  have sl := yl v
  have jl := yT v
  refine zd Tryz.func121 rfl Tryz.ntmps121 (by kernel_rfl) rfl fun w0 I0 G0 => ?_
  refine zD <| zB <| g_uG (zp 1001 rfl rfl rfl rfl) rfl <| g_u (zE rfl rfl) <| zF <| zA <| zD <| zB <| g_u (zH rfl rfl rfl tA70 tS70 rfl rfl) ?_
  refine g_u (zQ (pcall_nil (n := 1) (xs := [v.av]) (lay_c v ho hw [] (fun x hx => by cases hx) (by simp only [List.length_nil]; omega))) rfl rfl) ?_
  refine g_u (s_cvBS' (rfl) rfl rfl Tryz.underlying42 Tryz.underlying9 Tryz.underlying5) <| g_u (zE rfl rfl) <| zF <| zA <| zM ?_
  exact ⟨⟨(rfl : toAV (Al.look _ _) = some _).trans (congrArg some (by rfl)), rfl⟩, trivial⟩
theorem text_q (v : GV) (ho : v.ok) (hw : v.wt ≤ 10000000) (hk : v.kind = 1 ∨ v.kind = 4 ∨ v.kind = 5) : zs Tryz.prog Γ0 88 [v.av] [sv (xM v)] := by
  have lv := xh v.list
  have la := y5 v.map
  have ek := v.wt_eq
  have ok := v.ok_iff.1 ho
  have sl := yl v
  have jl := yT v
  refine zd Tryz.func88 rfl Tryz.ntmps88 (by kernel_rfl) rfl fun w0 I0 G0 => ?_
  refine zD <| zB <| g_uG (zp 1001 rfl rfl rfl rfl) rfl <| g_u (zE rfl rfl) <| zF <| zA <| zD <| zD <| zB <| g_u (zH rfl rfl rfl tA70 tS70 rfl rfl) <| g_u (zQ (thing_q hk (thing_c v ho hw)) rfl rfl) <| zF <| zA <| zV <| zD <| zB <| g_u (wl rfl rfl nI163) <| g_u (zl rfl rfl rfl rfl) <| g_u (zl rfl rfl rfl rfl) <| zF <| zA <| zy rfl <| zD <| zB <| g_u (zE rfl rfl) <| zF <| zA <| zD <| zB <| g_u (zC rfl rfl) <| g_u (zE rfl rfl) <| zF <| zA <| zM <| zt <| zL ?_
  exact ⟨⟨(rfl : toAV (Al.look _ _) = some _).trans (congrArg some (by (rw [textE (by omega)]))), rfl⟩, trivial⟩
theorem text_p (v : GV) (ho : v.ok) (hw : v.wt ≤ 10000000) (hk : v.kind ≠ 1 ∧ v.kind ≠ 4 ∧ v.kind ≠ 5 ∧ v.kind ≠ 6 ∧ v.kind ≠ 7) : zs Tryz.prog Γ0 88 [v.av] [sv (xM v)] := by
  have lv := xh v.list
  have la := y5 v.map
  have ek := v.wt_eq
  have ok := v.ok_iff.1 ho
  have sl := yl v
  have jl := yT v
  refine zd Tryz.func88 rfl Tryz.ntmps88 (by kernel_rfl) rfl fun w0 I0 G0 => ?_
  refine zD <| zB <| g_uG (zp 1001 rfl rfl rfl rfl) rfl <| g_u (zE rfl rfl) <| zF <| zA <| zD <| zD <| zB <| g_u (zH rfl rfl rfl tA70 tS70 rfl rfl) <| g_u (zQ (thing_p hk (thing_c v ho hw)) rfl rfl) <| zF <| zA <| zV <| zD <| zB ?_
  refine g_u (xK rfl rfl nI163 tZ163 (fun z h => by rw [zv163] at h; cases h; rfl) rfl) ?_
  refine g_u (zl rfl rfl rfl rfl) <| g_u (zl rfl rfl rfl rfl) <| zF <| zA <| z8 rfl <| zD <| zB <| g_u (wl rfl rfl nI164) <| g_u (zl rfl rfl rfl rfl) <| g_u (zl rfl rfl rfl rfl) <| zF <| zA <| zy rfl <| zD <| zB <| g_u (zE rfl rfl) <| zF <| zA <| zD <| zD <| zB <| g_u (zG rfl rfl xF rfl) <| g_u (zH rfl rfl rfl tA5 tS5 rfl rfl) <| g_u (yy rfl rfl rfl) <| zF <| zA ?_
  refine zN rfl (fun hb1 => ?_) (fun hb1 => ?_)
  · refine zD ?_
    refine zB <| g_u (zE rfl rfl) <| zF <| zA <| zM <| zL <| zt <| zL ?_
    exact ⟨⟨(rfl : toAV (Al.look _ _) = some _).trans (congrArg some (by (simp only [beq_iff_eq, beq_eq_false_iff_ne, ne_eq, decide_eq_true_eq, decide_eq_false_iff_not] at *; rw [textE (by omega), simp6 (by omega)]; rfl))), rfl⟩, trivial⟩
  · refine zO ?_
    refine zA <| zD <| zB <| g_u (zC rfl rfl) <| g_u (zE rfl rfl) <| zF <| zA <| zM <| zt <| zL ?_
    exact ⟨⟨(rfl : toAV (Al.look _ _) = some _).trans (congrArg some (by (simp only [beq_iff_eq, beq_eq_false_iff_ne, ne_eq, decide_eq_true_eq, decide_eq_false_iff_not] at *; rw [textE (by omega), jsonE (by omega)]))), rfl⟩, trivial⟩
theorem text_l (v : GV) (ho : v.ok) (hw : v.wt ≤ 10000000) (hk : v.kind = 6) : zs Tryz.prog Γ0 88 [v.av] [sv (xM v)] := by
  have lv := xh v.list
  have la := y5 v.map
  have ek := v.wt_eq
  have ok := v.ok_iff.1 ho
  have sl := yl v
  have jl := yT v
  refine zd Tryz.func88 rfl Tryz.ntmps88 (by kernel_rfl) rfl fun w0 I0 G0 => ?_
  refine zD <| zB <| g_uG (zp 1001 rfl rfl rfl rfl) rfl <| g_u (zE rfl rfl) <| zF <| zA <| zD <| zD <| zB <| g_u (zH rfl rfl rfl tA70 tS70 rfl rfl) <| g_u (zQ (thing_l hk (thing_c v ho hw)) rfl rfl) <| zF <| zA <| zV <| zD <| zB ?_
  refine g_u (xK rfl rfl nI163 tZ163 (fun z h => by rw [zv163] at h; cases h; rfl) rfl) ?_
  refine g_u (zl rfl rfl rfl rfl) <| g_u (zl rfl rfl rfl rfl) <| zF <| zA <| z8 rfl <| zD <| zB ?_
  refine g_u (xK rfl rfl nI164 tZ164 (fun z h => by rw [zv164] at h; cases h; rfl) rfl) ?_
  refine g_u (zl rfl rfl rfl rfl) <| g_u (zl rfl rfl rfl rfl) <| zF <| zA <| z8 rfl <| zO <| zY <| zA <| zD <| zB <| g_u (zH rfl rfl rfl tA70 tS70 rfl rfl) <| g_u (zQ (json_c v ho hw) rfl rfl) <| g_u (zE rfl rfl) <| zF <| zA <| zM ?_
  exact ⟨⟨(rfl : toAV (Al.look _ _) = some _).trans (congrArg some (by (rw [text6 (by omega)]))), rfl⟩, trivial⟩
theorem text_m (v : GV) (ho : v.ok) (hw : v.wt ≤ 10000000) (hk : v.kind = 7) : zs Tryz.prog Γ0 88 [v.av] [sv (xM v)] := by
  have lv := xh v.list
  have la := y5 v.map
  have ek := v.wt_eq
  have ok := v.ok_iff.1 ho
  have sl := yl v
  have jl := yT v
  refine zd Tryz.func88 rfl Tryz.ntmps88 (by kernel_rfl) rfl fun w0 I0 G0 => ?_
  refine zD <| zB <| g_uG (zp 1001 rfl rfl rfl rfl) rfl <| g_u (zE rfl rfl) <| zF <| zA <| zD <| zD <| zB <| g_u (zH rfl rfl rfl tA70 tS70 rfl rfl) <| g_u (zQ (thing_m hk (thing_c v ho hw)) rfl rfl) <| zF <| zA <| zV <| zD <| zB ?_
  refine g_u (xK rfl rfl nI163 tZ163 (fun z h => by rw [zv163] at h; cases h; rfl) rfl) ?_
  refine g_u (zl rfl rfl rfl rfl) <| g_u (zl rfl rfl rfl rfl) <| zF <| zA <| z8 rfl <| zD <| zB ?_
  refine g_u (xK rfl rfl nI164 tZ164 (fun z h => by rw [zv164] at h; cases h; rfl) rfl) ?_
  refine g_u (zl rfl rfl rfl rfl) <| g_u (zl rfl rfl rfl rfl) <| zF <| zA <| z8 rfl <| zO <| zY <| zA <| zD <| zB <| g_u (zH rfl rfl rfl tA70 tS70 rfl rfl) <| g_u (zQ (json_c v ho hw) rfl rfl) <| g_u (zE rfl rfl) <| zF <| zA <| zM ?_
  exact ⟨⟨(rfl : toAV (Al.look _ _) = some _).trans (congrArg some (by (rw [text6 (by omega)]))), rfl⟩, trivial⟩
theorem text_c (v : GV) (ho : v.ok) (hw : v.wt ≤ 10000000) : zs Tryz.prog Γ0 88 [v.av] [sv (xM v)] := by
  by_cases h6 : v.kind = 6
  · exact text_l v ho hw h6
  by_cases h7 : v.kind = 7
  · exact text_m v ho hw h7
  by_cases hq : v.kind = 1 ∨ v.kind = 4 ∨ v.kind = 5
  · exact text_q v ho hw hq
  · exact text_p v ho hw (by omega)
end Go.Proofs
namespace Go.Proofs
open Go Go.Al
set_option maxRecDepth 10000
theorem leftV_st (v : GV) (n : Int) (hn : -1 ≤ n ∧ n ≤ 1000000000) (ih : ∀ y ∈ v.list, ∀ n : Int, -1 ≤ n ∧ n ≤ 1000000000 → zs Tryz.prog Γ0 45 [y.av, iv n] [iv (leftV y n)]) (ihm : ∀ n : Int, -1 ≤ n ∧ n ≤ 1000000000 → zs Tryz.prog Γ0 22 [.sl 7 (v.map.map avA), iv n] [iv (yK v.map n)]) : zs Tryz.prog Γ0 45 [v.av, iv n] [iv (leftV v n)] := by
  have ek := v.wt_eq
  refine zd Tryz.func45 rfl Tryz.ntmps45 (by kernel_rfl) rfl fun w0 I0 G0 => ?_
  refine zD <| zB <| g_uG (zp 1002 rfl rfl rfl rfl) rfl <| g_u (zE rfl rfl) <| zF <| zA <| zD <| zD <| zB <| g_u (zC rfl rfl) <| g_u (y_ rfl rfl rfl) <| g_u (zC rfl rfl) <| yP (t := 8) rfl ?_
  rintro (hb1 | hb1)
  · rw [hb1]
    have hn0 : n < 0 := of_decide_eq_true hb1
    refine zP rfl rfl rfl <| zP rfl rfl rfl <| zP rfl rfl rfl <| zP rfl rfl rfl <| zP rfl rfl rfl <| g_u (zk rfl rfl rfl) <| zF <| zA <| zy rfl <| zD <| zB <| g_u (zE rfl rfl) <| zF <| zA <| zM <| zL ?_
    exact ⟨⟨(rfl : toAV (Al.look _ _) = some _).trans (congrArg some (by (exact congrArg iv (by rw [leftV_F, if_pos hn0])))), rfl⟩, trivial⟩
  · rw [hb1]
    have hn0 : ¬ n < 0 := of_decide_eq_false hb1
    refine zf rfl rfl (zG rfl rfl fa70_1 rfl) <| zf rfl rfl (zH rfl rfl rfl tA9 tS9 rfl rfl) <| zf rfl rfl (yf rfl rfl Tryz.underlying9) <| zf rfl rfl (zC rfl rfl) <| zf rfl rfl (xu rfl rfl rfl) <| g_u (zr rfl rfl rfl) <| zF <| zA ?_
    refine zN rfl (fun hb2 => ?_) (fun hb2 => ?_)
    · have ht0 : (v.text.size : Int) > n := of_decide_eq_true hb2
      refine zD <| zB <| g_u (zE rfl rfl) <| zF <| zA <| zM <| zL ?_
      exact ⟨⟨(rfl : toAV (Al.look _ _) = some _).trans (congrArg some (by (exact congrArg iv (by rw [leftV_F, if_neg hn0]; unfold leftF; rw [if_neg (by omega)])))), rfl⟩, trivial⟩
    · have ht0 : ¬ (v.text.size : Int) > n := of_decide_eq_false hb2
      have hL : -1 ≤ n - 1 - v.text.size := by omega
      refine zO <| zA <| zD <| zB <| g_u (zC rfl rfl) <| g_u (vB rfl rfl rfl) <| g_u (zG rfl rfl fa70_1 rfl) <| g_u (zH rfl rfl rfl tA9 tS9 rfl rfl) <| g_u (yf rfl rfl Tryz.underlying9) <| g_u (vB rfl rfl rfl) <| g_u (zE rfl rfl) <| zF <| zA <| zD <| zD <| zB <| g_u (zE rfl rfl) <| zF <| zA <| zV ?_
      refine zu (fun i : Nat => [(2, .ptr 1002 0), (1002, .box 70 (.imm v.av)), (1, .imm (iv (leftF (n - 1 - v.text.size) (wtVs (v.list.take i))))), (5, .imm (iv (i : Int)))]) (fun i => i ≤ v.list.length) (fun i => v.list.length - i) (0) ?_ ⟨rfl, rfl, zZ rfl (by rw [show wtVs (v.list.take 0) = 0 from rfl, leftF_zero hL, zK (n := n - 1) (by omega) (by omega), zK (by omega) (by omega)]), rfl, trivial⟩ ?_
      · exact Nat.zero_le _
      · rintro i h1; have h1 : i ≤ v.list.length := h1; have bd := leftF_bd hL (wtVs (v.list.take i))
        refine zD <| zD <| zB <| g_u (zC rfl rfl) <| g_u (zG rfl rfl fa70_4 rfl) <| g_u (zH rfl rfl rfl tA68 tS68 rfl rfl) <| g_u (yJ rfl rfl Tryz.underlying68) <| g_u (y_ rfl rfl rfl) <| g_u (zC rfl rfl) <| yP (t := 26) rfl ?_
        rintro (hb3 | hb3)
        · rw [hb3]
          have hiv : i < v.list.length := by have := of_decide_eq_true hb3; (try simp only [List.length_map] at this); omega
          refine zf rfl rfl (zC rfl rfl) <| zf rfl rfl (s_geI rfl rfl rfl) <| g_u (zk rfl rfl rfl) <| zF <| zA ?_
          refine zN rfl (fun hb4 => ?_) (fun hb4 => ?_)
          · have hs : 0 ≤ leftF (n - 1 - v.text.size) (wtVs (v.list.take i)) := of_decide_eq_true hb4
            have hi9 := leftV_len hs h1
            refine zO <| zA <| zD <| zV <| zB <| g_u (zG rfl rfl fa70_4 rfl) <| g_u (zH rfl rfl rfl tA68 tS68 rfl rfl) <| g_u (zC rfl rfl) ?_
            refine g_u (zR rfl rfl rfl Tryz.underlying68 tS70 (by omega) (ixV hiv)) ?_
            refine g_u (z_ rfl rfl tA70 tS70 rfl rfl) <| g_u (zC rfl rfl) ?_
            refine g_u (zQ (ih _ (nthV_mem hiv) _ ⟨bd.1, by have := bd.2; omega⟩) rfl rfl) ?_
            refine g_u (zE rfl rfl) <| zF <| zY <| zA <| zB <| g_u (zC rfl rfl) <| g_u (zz rfl rfl rfl) <| g_u (zE rfl rfl) <| zF <| zA ?_
            refine ⟨i + 1, hiv, ⟨rfl, rfl, zZ rfl (leftV_step hiv hs), zZ rfl (by rw [zK (by omega) (by omega)]; rfl), trivial⟩, by (try dsimp only); omega⟩
          · have hs : ¬ 0 ≤ leftF (n - 1 - v.text.size) (wtVs (v.list.take i)) := of_decide_eq_false hb4
            refine z7 <| zT <| zT <| zq <| zA <| zD <| zB <| g_u (zG rfl rfl fa70_5 rfl) <| g_u (zH rfl rfl rfl tA44 tS44 rfl rfl) <| g_u (zC rfl rfl) ?_
            refine g_u (zQ (ihm _ ⟨bd.1, by have := bd.2; omega⟩) rfl rfl) ?_
            refine g_u (zE rfl rfl) <| zF <| zA <| zM ?_
            exact ⟨⟨(rfl : toAV (Al.look _ _) = some _).trans (congrArg some (by (exact congrArg iv (leftV_fin hn0 ht0 (by first | exact .inl hivn | exact .inr (by omega)))))), rfl⟩, trivial⟩
        · rw [hb3]
          have hivn : i = v.list.length := by have := of_decide_eq_false hb3; (try simp only [List.length_map] at this); omega
          refine zP rfl rfl rfl <| zP rfl rfl rfl <| g_u (zr rfl rfl rfl) <| zF <| zA <| z8 rfl <| z7 <| zT <| zT <| zq <| zA <| zD <| zB <| g_u (zG rfl rfl fa70_5 rfl) <| g_u (zH rfl rfl rfl tA44 tS44 rfl rfl) <| g_u (zC rfl rfl) ?_
          refine g_u (zQ (ihm _ ⟨bd.1, by have := bd.2; omega⟩) rfl rfl) ?_
          refine g_u (zE rfl rfl) <| zF <| zA <| zM ?_
          exact ⟨⟨(rfl : toAV (Al.look _ _) = some _).trans (congrArg some (by (exact congrArg iv (leftV_fin hn0 ht0 (by first | exact .inl hivn | exact .inr (by omega)))))), rfl⟩, trivial⟩
theorem leftAs_st (l : List GA) (n : Int) (hn : -1000000000000 ≤ n ∧ n ≤ 1000000000) (ih : ∀ a ∈ l, ∀ n : Int, -1 ≤ n ∧ n ≤ 1000000000 → zs Tryz.prog Γ0 45 [a.val.av, iv n] [iv (leftV a.val n)]) : zs Tryz.prog Γ0 22 [.sl 7 (l.map avA), iv n] [iv (yK l n)] := by
  refine zd Tryz.func22 rfl Tryz.ntmps22 (by kernel_rfl) rfl fun w0 I0 G0 => ?_
  refine zD <| zB <| g_u (zE rfl rfl) <| zF <| zA <| zD <| zD <| zB <| g_u (zE rfl rfl) <| zF <| zA <| zV ?_
  refine zu (fun i : Nat => [(0, .imm (.sl 7 (l.map avA))), (1, .imm (iv (yK (l.take i) n))), (5, .imm (iv (i : Int)))]) (fun i => i ≤ l.length) (fun i => l.length - i) (0) ?_ ⟨rfl, zZ rfl (leftAs_zero l).symm, rfl, trivial⟩ ?_
  · exact Nat.zero_le _
  · rintro i h1; have h1 : i ≤ l.length := h1; have bd := wG (l.take i) n
    refine zD <| zD <| zB <| g_u (zC rfl rfl) <| g_u (zC rfl rfl) <| g_u (yJ rfl rfl Tryz.underlying44) <| g_u (y_ rfl rfl rfl) <| g_u (zC rfl rfl) <| yP (t := 10) rfl ?_
    rintro (hb1 | hb1)
    · rw [hb1]
      have hia : i < l.length := by have := of_decide_eq_true hb1; (try simp only [List.length_map] at this); omega
      refine zf rfl rfl (zC rfl rfl) <| zf rfl rfl (s_geI rfl rfl rfl) <| g_u (zk rfl rfl rfl) <| zF <| zA ?_
      refine zN rfl (fun hb2 => ?_) (fun hb2 => ?_)
      · have hs : 0 ≤ yK (l.take i) n := of_decide_eq_true hb2
        have hi9 := leftAs_len hs h1
        refine zO <| zA <| zD <| zV <| zD <| zD <| zB <| g_u (zC rfl rfl) <| g_u (zC rfl rfl) ?_
        refine g_u (zR rfl rfl rfl Tryz.underlying44 tS72 (by omega) (ixA hia)) ?_
        refine g_u (zW rfl rfl fa72_0 rfl rfl) <| g_u (z_ rfl rfl tA9 tS9 rfl rfl) <| g_u (yf rfl rfl Tryz.underlying9) <| g_u (zC rfl rfl) <| g_u (xu rfl rfl rfl) <| zF <| zA ?_
        refine zN rfl (fun hb3 => ?_) (fun hb3 => ?_)
        · have hk : ((nthA l i).key.size : Int) > yK (l.take i) n := of_decide_eq_true hb3
          refine zD <| zB <| g_u (zE rfl rfl) <| zF <| zA <| zM <| zL <| zt <| zL <| zL <| zt <| zL ?_
          exact ⟨⟨(rfl : toAV (Al.look _ _) = some _).trans (congrArg some (by (exact congrArg iv (leftAs_out hia hs hk)))), rfl⟩, trivial⟩
        · have hk : ¬ ((nthA l i).key.size : Int) > yK (l.take i) n := of_decide_eq_false hb3
          have ew : IntKind.i64.wrap (yK (l.take i) n - (nthA l i).key.size) = yK (l.take i) n - (nthA l i).key.size := zK (by omega) (by omega)
          refine zO <| zA <| yX xb <| g_u (zC rfl rfl) <| g_u (zC rfl rfl) ?_
          refine g_u (zR rfl rfl rfl Tryz.underlying44 tS72 (by omega) (ixA hia)) ?_
          refine g_u (zW rfl rfl fa72_1 rfl rfl) <| g_u (z_ rfl rfl tA70 tS70 rfl rfl) <| g_u (zC rfl rfl) <| g_u (zC rfl rfl) <| g_u (zC rfl rfl) ?_
          refine g_u (zR rfl rfl rfl Tryz.underlying44 tS72 (by omega) (ixA hia)) ?_
          refine g_u (zW rfl rfl fa72_0 rfl rfl) <| g_u (z_ rfl rfl tA9 tS9 rfl rfl) <| g_u (yf rfl rfl Tryz.underlying9) <| g_u (vB rfl rfl rfl) ?_
          refine g_u (zQ ((show zs Tryz.prog Γ0 45 [(nthA l i).val.av, iv (IntKind.i64.wrap (yK (l.take i) n - (nthA l i).key.size))] [iv (leftV (nthA l i).val (yK (l.take i) n - (nthA l i).key.size))] from by rw [ew]; exact ih _ (xZ hia) _ ⟨by omega, by omega⟩)) rfl rfl) ?_
          refine g_u (zE rfl rfl) ?_
          refine zF ⟨by kernel_rfl, ?_⟩
          refine zY <| zA <| zB <| g_u (zC rfl rfl) <| g_u (zz rfl rfl rfl) <| g_u (zE rfl rfl) <| zF <| zA ?_
          refine ⟨i + 1, hia, ⟨rfl, zZ rfl (leftAs_step hia hs hk), zZ rfl (by rw [zK (by omega) (by omega)]; rfl), trivial⟩, by (try dsimp only); omega⟩
      · have hs : ¬ 0 ≤ yK (l.take i) n := of_decide_eq_false hb2
        refine z7 <| zT <| zT <| zq <| zA <| zD <| zB <| g_u (zC rfl rfl) <| g_u (zE rfl rfl) <| zF <| zA <| zM ?_
        exact ⟨⟨(rfl : toAV (Al.look _ _) = some _).trans (congrArg some (by (exact congrArg iv (leftAs_fin (by first | exact .inl hian | exact .inr (by omega)))))), rfl⟩, trivial⟩
    · rw [hb1]
      have hian : i = l.length := by have := of_decide_eq_false hb1; (try simp only [List.length_map] at this); omega
      refine zP rfl rfl rfl <| zP rfl rfl rfl <| g_u (zr rfl rfl rfl) <| zF <| zA <| z8 rfl <| z7 <| zT <| zT <| zq <| zA <| zD <| zB <| g_u (zC rfl rfl) <| g_u (zE rfl rfl) <| zF <| zA <| zM ?_
      exact ⟨⟨(rfl : toAV (Al.look _ _) = some _).trans (congrArg some (by (exact congrArg iv (leftAs_fin (by first | exact .inl hian | exact .inr (by omega)))))), rfl⟩, trivial⟩
theorem leftV_c (v : GV) : ∀ n : Int, -1 ≤ n ∧ n ≤ 1000000000 → zs Tryz.prog Γ0 45 [v.av, iv n] [iv (leftV v n)] := by
  refine GV.ind (P := fun v => ∀ n : Int, -1 ≤ n ∧ n ≤ 1000000000 → zs Tryz.prog Γ0 45 [v.av, iv n] [iv (leftV v n)]) ?_ v
  intro v h1 h2 n hn
  exact leftV_st v n hn h1 fun n hn => leftAs_st v.map n (by omega) h2
theorem leftAs_c (l : List GA) (n : Int) (hn : -1000000000000 ≤ n ∧ n ≤ 1000000000) : zs Tryz.prog Γ0 22 [.sl 7 (l.map avA), iv n] [iv (yK l n)] := leftAs_st l n hn fun a _ => leftV_c a.val
end Go.Proofs
namespace Go.Proofs
open Go Go.Al
set_option maxRecDepth 10000
theorem z63_w : AV.width z63 = 42 := by kernel_rfl
end Go.Proofs
namespace Go.Proofs
open Go Go.Al
set_option maxRecDepth 10000
theorem cmp165 : cmpFn Tryz.prog 165 := ⟨_, Tryz.func165, by kernel_rfl, rfl, by kernel_rfl, by kernel_rfl⟩
theorem cmp_156_c (s t : ByteArray) : zs Tryz.prog Γ0 156 [sv s, sv t] [iv (cmpK s t)] := by
  refine zd Tryz.func156 rfl Tryz.ntmps156 (by kernel_rfl) rfl fun w0 I0 G0 => ?_
  refine zD <| zB <| g_u (zE rfl rfl) <| zF <| zA <| zD <| zB <| g_u (zC rfl rfl) <| g_u (zC rfl rfl) <| g_u (s_cmpS cmp165 rfl rfl rfl) <| g_u (zE rfl rfl) <| zF <| zA <| zM ?_
  exact ⟨⟨(rfl : toAV (Al.look _ _) = some _).trans (congrArg some (by rfl)), rfl⟩, trivial⟩
theorem cmp_143_c (s t : ByteArray) : zs Tryz.prog Γ0 143 [sv s, sv t] [iv (cmpK s t)] := by
  refine zd Tryz.func143 rfl Tryz.ntmps143 (by kernel_rfl) rfl fun w0 I0 G0 => ?_
  refine zD <| zB <| g_u (zE rfl rfl) <| zF <| zA <| zD <| zB <| g_u (zC rfl rfl) <| g_u (zC rfl rfl) <| g_u (zQ (cmp_156_c _ _) rfl rfl) <| g_u (zE rfl rfl) <| zF <| zA <| zM ?_
  exact ⟨⟨(rfl : toAV (Al.look _ _) = some _).trans (congrArg some (by rfl)), rfl⟩, trivial⟩
theorem cmpA_c (a : GA) (k : ByteArray) : zs Tryz.prog Γ0 142 [a.av, sv k] [iv (cmpK a.key k)] := by
  refine zd Tryz.func142 rfl Tryz.ntmps142 (by kernel_rfl) rfl fun w0 I0 G0 => ?_
  refine zD <| zB <| g_uG (zp 1002 rfl rfl rfl rfl) rfl <| g_u (zE rfl rfl) <| zF <| zA <| zD <| zB <| g_u (zG rfl rfl fa72_0 rfl) <| g_u (zH rfl rfl rfl tA9 tS9 rfl rfl) <| g_u (zC rfl rfl) <| g_u (zQ (cmp_143_c _ _) rfl rfl) <| g_u (zE rfl rfl) <| zF <| zA <| zM ?_
  exact ⟨⟨(rfl : toAV (Al.look _ _) = some _).trans (congrArg some (by rfl)), rfl⟩, trivial⟩
theorem bsf_c (l : List GA) (k : ByteArray) (hr : risA none l) (hl : l.length ≤ 1000000000000) : zs Tryz.prog Γ0 141 [.sl 7 (l.map avA), sv k, .fn (.func 142) [] []] [iv (posA l k : Nat), bv (hasA l k)] := by
  refine zd Tryz.func141 rfl Tryz.ntmps141 (by kernel_rfl) rfl fun w0 I0 G0 => ?_
  refine zD <| zB <| g_u (zE rfl rfl) <| g_u (zE rfl rfl) <| zF <| zA <| zD <| zB <| g_u (zC rfl rfl) <| g_u (yJ rfl rfl Tryz.underlying44) <| g_u (zE rfl rfl) <| zF <| zA <| zD <| zB <| g_u (zC rfl rfl) <| g_u (zE rfl rfl) <| g_u (zE rfl rfl) <| zF <| zA <| zD <| zV ?_
  refine zu (fun j : Nat × Nat => [(0, .imm (.sl 7 (l.map avA))), (1, .imm (sv k)), (2, .imm (.fn (.func 142) [] [])), (8, .imm (iv (l.length : Int))), (9, .imm (iv (j.1 : Int))), (10, .imm (iv (j.2 : Int)))]) (fun j => j.1 ≤ j.2 ∧ j.2 ≤ l.length ∧ (∀ i, i < j.1 → ltB (nthA l i).key k = true) ∧ (∀ i, j.2 ≤ i → i < l.length → ltB (nthA l i).key k = false)) (fun j => j.2 - j.1) (⟨0, l.length⟩) ?_ ⟨rfl, rfl, rfl, zZ rfl (by rw [List.length_map]), rfl, zZ rfl (by rw [List.length_map]), trivial⟩ ?_
  · exact ⟨Nat.zero_le _, Nat.le_refl _, fun i h => absurd h (Nat.not_lt_zero _), fun i h1 h2 => absurd h2 (Nat.not_lt.2 h1)⟩
  · rintro ⟨lo, hi⟩ ⟨h1, h2, h3, h4⟩; dsimp only at h1 h2 h3 h4
    have em : IntKind.i64.wrap ((IntKind.u64.wrap (IntKind.i64.wrap ((lo : Int) + (hi : Int)))).fdiv (2 ^ (min (1 : Int).toNat IntKind.u64.bits))) = (((lo + hi) / 2 : Nat) : Int) := by rw [zK (n := (lo : Int) + (hi : Int)) (by omega) (by omega), xT (by omega) (by omega), Int.fdiv_eq_ediv_of_nonneg _ (by decide), show (2 : Int) ^ (min (1 : Int).toNat IntKind.u64.bits) = 2 from by decide, zK (by omega) (by omega)]; omega
    refine zD <| zD <| zB <| g_u (zC rfl rfl) <| g_u (zC rfl rfl) <| g_u (y_ rfl rfl rfl) <| zF <| zA ?_
    refine zN rfl (fun hb1 => ?_) (fun hb1 => ?_)
    · have hmid : (lo + hi) / 2 < l.length := by have := of_decide_eq_true hb1; omega
      refine zO <| zA <| zV <| zD <| zB <| g_u (zC rfl rfl) <| g_u (zC rfl rfl) <| g_u (zz rfl rfl rfl) <| g_u (xG rfl rfl Tryz.underlying3 Tryz.underlying192) ?_
      refine g_u (s_shr rfl rfl rfl (by first | decide | omega | (((try simp only [decide_eq_true_eq, decide_eq_false_iff_not, qc, ne_eq, beq_iff_eq, qd, beq_eq_false_iff_ne, Bool.not_eq_true', Bool.not_eq_false', gt_iff_lt, ge_iff_le] at *); (repeat simp (disch := omega) only [zK, za] at *)); omega))) ?_
      refine g_u (xG rfl rfl Tryz.underlying192 Tryz.underlying3) <| g_u (zE rfl rfl) <| zF <| zA <| zD <| zB <| g_u (zC rfl rfl) <| g_u (zC rfl rfl) <| g_u (zC rfl rfl) ?_
      refine g_u (zR rfl rfl rfl Tryz.underlying44 tS72 (by erw [em]; omega) ((congrArg (fun z : Int => (l.map avA)[z.toNat]?) em).trans (ixA hmid))) ?_
      refine g_u (z_ rfl rfl tA72 tS72 rfl rfl) <| g_u (zC rfl rfl) <| g_u (s_callv1 (cmpA_c _ _) rfl rfl rfl) <| g_u (y_ rfl rfl rfl) <| zF <| zA ?_
      refine zN rfl (fun hb2 => ?_) (fun hb2 => ?_)
      · have hk : ltB (nthA l ((lo + hi) / 2)).key k = true := (cmpK_lt _ _).1 (of_decide_eq_true hb2)
        refine zB <| g_u (zC rfl rfl) <| g_u (zz rfl rfl rfl) <| g_u (zE rfl rfl) <| zF <| zY <| zA ?_
        have hlt : lo < hi := by have := of_decide_eq_true hb1; omega
        first
          | exact ⟨⟨(lo + hi) / 2 + 1, hi⟩, ⟨by dsimp only; omega, h2, fun i hi1 => ris_left hr hmid hk (by dsimp only at hi1; omega), h4⟩, ⟨rfl, rfl, rfl, rfl, zZ rfl (by erw [em]; rw [zK (by omega) (by omega)]; rfl), rfl, trivial⟩, by dsimp only; omega⟩
          | exact ⟨⟨lo, (lo + hi) / 2⟩, ⟨by dsimp only; omega, by dsimp only; omega, h3, fun i hi1 hi2 => ris_right hr hk hi1 hi2⟩, ⟨rfl, rfl, rfl, rfl, rfl, zZ rfl em, trivial⟩, by dsimp only; omega⟩
      · have hk : ltB (nthA l ((lo + hi) / 2)).key k = false := by cases hq : ltB (nthA l ((lo + hi) / 2)).key k; rfl; exact absurd ((cmpK_lt _ _).2 hq) (of_decide_eq_false hb2)
        refine zB <| g_u (zC rfl rfl) <| g_u (zE rfl rfl) <| zF <| zY <| zA ?_
        have hlt : lo < hi := by have := of_decide_eq_true hb1; omega
        first
          | exact ⟨⟨(lo + hi) / 2 + 1, hi⟩, ⟨by dsimp only; omega, h2, fun i hi1 => ris_left hr hmid hk (by dsimp only at hi1; omega), h4⟩, ⟨rfl, rfl, rfl, rfl, zZ rfl (by erw [em]; rw [zK (by omega) (by omega)]; rfl), rfl, trivial⟩, by dsimp only; omega⟩
          | exact ⟨⟨lo, (lo + hi) / 2⟩, ⟨by dsimp only; omega, by dsimp only; omega, h3, fun i hi1 hi2 => ris_right hr hk hi1 hi2⟩, ⟨rfl, rfl, rfl, rfl, rfl, zZ rfl em, trivial⟩, by dsimp only; omega⟩
    · have hlo : lo = hi := by have := of_decide_eq_false hb1; omega
      have hp : lo = posA l k := posA_spec l k lo (by omega) h3 (fun i hi1 hi2 => h4 i (by omega) hi2)
      refine z7 <| zT <| zT <| zq <| zA <| zD <| zB <| g_u (zC rfl rfl) <| g_u (zC rfl rfl) <| g_u (zC rfl rfl) <| g_u (y_ rfl rfl rfl) <| g_u (zC rfl rfl) <| yP (t := 39) rfl ?_
      rintro (hb3 | hb3)
      · rw [hb3]
        have hll : lo < l.length := by have := of_decide_eq_true hb3; (try simp only [List.length_map] at this); omega
        refine zf rfl rfl (zC rfl rfl) <| zf rfl rfl (zC rfl rfl) <| zf rfl rfl (zC rfl rfl) ?_
        refine zf rfl rfl (zR rfl rfl rfl Tryz.underlying44 tS72 (by omega) (ixA hll)) ?_
        refine zf rfl rfl (z_ rfl rfl tA72 tS72 rfl rfl) <| zf rfl rfl (zC rfl rfl) <| zf rfl rfl (s_callv1 (cmpA_c _ _) rfl rfl rfl) <| zf rfl rfl (yy rfl rfl rfl) <| g_u (zk rfl rfl rfl) <| g_u (zE rfl rfl) <| g_u (zE rfl rfl) <| zF <| zA <| zM ?_
        exact ⟨⟨(rfl : toAV (Al.look _ _) = some _).trans (congrArg (fun n : Nat => some (iv n)) hp), rfl⟩, ⟨(rfl : toAV (Al.look _ _) = some _).trans (congrArg (fun b => some (bv b)) (by rw [hasA, ← hp, decide_eq_true hll, Bool.true_and, ← Bool.coe_iff_coe]; simp only [beq_iff_eq, decide_eq_true_eq]; exact cmpK_eq _ _)), rfl⟩, trivial⟩
      · rw [hb3]
        have hll : ¬ lo < l.length := by have := of_decide_eq_false hb3; (try simp only [List.length_map] at this); omega
        refine zP rfl rfl rfl <| zP rfl rfl rfl <| zP rfl rfl rfl <| zP rfl rfl rfl <| zP rfl rfl rfl <| zP rfl rfl rfl <| zP rfl rfl rfl <| zP rfl rfl rfl <| g_u (zr rfl rfl rfl) <| g_u (zE rfl rfl) <| g_u (zE rfl rfl) <| zF <| zA <| zM ?_
        exact ⟨⟨(rfl : toAV (Al.look _ _) = some _).trans (congrArg (fun n : Nat => some (iv n)) hp), rfl⟩, ⟨(rfl : toAV (Al.look _ _) = some _).trans (congrArg (fun b => some (bv b)) (by rw [hasA, ← hp, decide_eq_false hll, Bool.false_and])), rfl⟩, trivial⟩
theorem find_c (l : List GA) (k : ByteArray) (hr : risA none l) (hl : l.length ≤ 1000000000000) : zs Tryz.prog Γ0 119 [.sl 7 (l.map avA), sv k] [iv (posA l k : Nat), bv (hasA l k)] := by
  refine zd Tryz.func119 rfl Tryz.ntmps119 (by kernel_rfl) rfl fun w0 I0 G0 => ?_
  refine zD <| zB <| g_u (zE rfl rfl) <| g_u (zE rfl rfl) <| zF <| zA <| zD <| zB <| g_u (zC rfl rfl) <| g_u (zC rfl rfl) <| g_u (s_call2 (bsf_c l k hr hl) rfl rfl) <| g_u (zl rfl rfl rfl rfl) <| g_u (zl rfl rfl rfl rfl) <| g_u (zE rfl rfl) <| g_u (zE rfl rfl) <| zF <| zA <| zM ?_
  exact ⟨⟨(rfl : toAV (Al.look _ _) = some _).trans (congrArg some (by rfl)), rfl⟩, ⟨(rfl : toAV (Al.look _ _) = some _).trans (congrArg some (by rfl)), rfl⟩, trivial⟩
theorem get_c (l : List GA) (k : ByteArray) (hr : risA none l) (hl : l.length ≤ 1000000000000) : zs Tryz.prog Γ0 87 [.sl 7 (l.map avA), sv k] [((getA l k).getD zeroV).av, bv (getA l k).isSome] := by
  refine zd Tryz.func87 rfl Tryz.ntmps87 (by kernel_rfl) rfl fun w0 I0 G0 => ?_
  refine zD <| zB <| g_uG (yR 1004 rfl rfl rfl tZ70) rfl <| g_u (zE rfl rfl) <| zF <| zA <| zD <| zD <| zB <| g_u (zC rfl rfl) <| g_u (zC rfl rfl) <| g_u (s_call2 (find_c l k hr hl) rfl rfl) <| g_u (wa rfl rfl) <| g_u (zl rfl rfl rfl rfl) <| g_u (zl rfl rfl rfl rfl) <| g_u (zE rfl rfl) <| g_u (zE rfl rfl) <| zF <| zA <| zD <| zB <| g_u (zC rfl rfl) <| zF <| zA ?_
  refine zN rfl (fun hb1 => ?_) (fun hb1 => ?_)
  · have hh : hasA l k = true := hb1
    have hll : posA l k < l.length := by unfold hasA at hh; simp at hh; exact hh.1
    refine zD <| zB <| g_u (zC rfl rfl) <| g_u (zC rfl rfl) ?_
    refine g_u (zR rfl rfl rfl Tryz.underlying44 tS72 (by omega) (ixA hll)) ?_
    refine g_u (zW rfl rfl fa72_1 rfl rfl) <| g_u (z_ rfl rfl tA70 tS70 rfl rfl) <| g_u (zg rfl rfl rfl tS70 rfl rfl) <| g_u (zE rfl rfl) <| zF <| zA <| zM <| zL ?_
    exact ⟨⟨_, _, _, _, _, _, _, rfl, rfl, tA70, tS70, rfl, rfl, (rfl : toAV _ = some _).trans (congrArg some (by (rw [getA_pos hr k, if_pos hh]; rfl)))⟩, ⟨(rfl : toAV (Al.look _ _) = some _).trans (congrArg some (by (rw [getA_pos hr k, if_pos hh]; rfl))), rfl⟩, trivial⟩
  · have hh : hasA l k = false := hb1
    refine zO <| zA <| zD <| zB <| g_u (yh rfl tU70 us70 pl70 rfl rfl rfl rfl) <| g_u (zg rfl rfl rfl tS70 rfl rfl) <| g_u (zE rfl rfl) <| zF <| zA <| zM ?_
    exact ⟨⟨_, _, _, _, _, _, _, rfl, rfl, tA70, tS70, rfl, rfl, (rfl : toAV _ = some _).trans (congrArg some (by (rw [getA_pos hr k, if_neg (by rw [hh]; decide)]; rfl)))⟩, ⟨(rfl : toAV (Al.look _ _) = some _).trans (congrArg some (by (rw [getA_pos hr k, if_neg (by rw [hh]; decide)]; rfl))), rfl⟩, trivial⟩
theorem getA_ok {l : List GA} (k : ByteArray) (h : ∀ a ∈ l, a.ok) : ((getA l k).getD zeroV).ok ∧ ((getA l k).getD zeroV).wt ≤ 1 + wtAs l := by
  cases hg : getA l k with
  | none => exact ⟨by simp only [Option.getD_none]; rw [GV.ok_iff]; exact ⟨by decide, by decide, by decide, by decide, fun x hx => absurd hx (by simp [zeroV, GV.list]), fun x hx => absurd hx (by simp [zeroV, GV.map])⟩, by simp only [Option.getD_none]; rw [GV.wt_eq]; simp [zeroV, GV.list, GV.map, GV.text, wtVs, wtAs]; exact Nat.zero_le _⟩
  | some v =>
    obtain ⟨a, ha, rfl, _⟩ := getA_mem hg
    have := wZ ha
    have := a.wt_eq
    exact ⟨((GA.ok_iff a).1 (h a ha)).2, by simp only [Option.getD_some]; omega⟩
theorem textA_c (l : List GA) (k : ByteArray) (hr : risA none l) (hl : l.length ≤ 1000000000000) (ho : ∀ a ∈ l, a.ok) (hw : wtAs l ≤ 9000000) : zs Tryz.prog Γ0 54 [.sl 7 (l.map avA), sv k] [sv (textA l k)] := by
  refine zd Tryz.func54 rfl Tryz.ntmps54 (by kernel_rfl) rfl fun w0 I0 G0 => ?_
  refine zD <| zB <| g_u (zE rfl rfl) <| zF <| zA <| zD <| zB <| g_u (zC rfl rfl) <| g_u (zC rfl rfl) <| g_u (s_call2 (get_c l k hr hl) rfl rfl) <| g_u (wa rfl rfl) <| g_u (zl rfl rfl rfl rfl) <| g_u (zl rfl rfl rfl rfl) <| g_uG (yR 1005 rfl rfl rfl tZ70) rfl <| g_u (zg rfl rfl rfl tS70 rfl rfl) <| g_u (zE rfl rfl) <| zF <| zA <| zD <| zB <| g_u (yn rfl rfl rfl tA70 tS70 rfl rfl) ?_
  refine g_u (zQ (text_c _ (getA_ok k ho).1 (by have := (getA_ok k ho).2; omega)) rfl rfl) ?_
  refine g_u (zE rfl rfl) <| zF <| zA <| zM ?_
  exact ⟨⟨(rfl : toAV (Al.look _ _) = some _).trans (congrArg some (by rfl)), rfl⟩, trivial⟩
theorem rget_c (l : List GA) (k : ByteArray) (hl : l.length ≤ 1000000000000) : zs Tryz.prog Γ0 122 [.sl 7 (l.map avA), sv k] [((getA l k).getD zeroV).av, bv (getA l k).isSome] := by
  refine zd Tryz.func122 rfl Tryz.ntmps122 (by kernel_rfl) rfl fun w0 I0 G0 => ?_
  refine zD <| zB <| g_uG (yR 1004 rfl rfl rfl tZ70) rfl <| g_u (zE rfl rfl) <| zF <| zA <| zD <| zD <| zB <| g_u (zE rfl rfl) <| zF <| zA <| zV ?_
  refine zu (fun i : Nat => [(0, .imm (.sl 7 (l.map avA))), (1, .imm (sv k)), (4, .ptr 1004 0), (1004, .box 70 (.imm z70)), (5, .imm (bv false)), (6, .imm (iv (i : Int)))]) (fun i => i ≤ l.length ∧ getA l k = getA (l.drop i) k) (fun i => l.length - i) (0) ?_ ⟨rfl, rfl, rfl, rfl, rfl, rfl, trivial⟩ ?_
  · exact ⟨Nat.zero_le _, rfl⟩
  · rintro i ⟨h1, h2⟩; (try dsimp only at h1 h2)
    refine zD <| zD <| zB <| g_u (zC rfl rfl) <| g_u (zC rfl rfl) <| g_u (yJ rfl rfl Tryz.underlying44) <| g_u (y_ rfl rfl rfl) <| zF <| zA ?_
    refine zN rfl (fun hb1 => ?_) (fun hb1 => ?_)
    · have hi : i < l.length := by have := of_decide_eq_true hb1; (try simp only [List.length_map] at this); omega
      refine zO <| zA <| zD <| zV <| zD <| zB <| g_u (zC rfl rfl) <| g_u (zC rfl rfl) ?_
      refine g_u (zR rfl rfl rfl Tryz.underlying44 tS72 (by omega) (ixA hi)) ?_
      refine g_u (zW rfl rfl fa72_0 rfl rfl) <| g_u (z_ rfl rfl tA9 tS9 rfl rfl) <| g_u (zC rfl rfl) <| g_u (s_eqS rfl rfl rfl) <| zF <| zA ?_
      refine zN rfl (fun hb2 => ?_) (fun hb2 => ?_)
      · have hke : (nthA l i).key = k := by have e := hb2; rw [yZ] at e; exact of_decide_eq_true e
        refine zD <| zB <| g_u (zC rfl rfl) <| g_u (zC rfl rfl) ?_
        refine g_u (zR rfl rfl rfl Tryz.underlying44 tS72 (by omega) (ixA hi)) ?_
        refine g_u (zW rfl rfl fa72_1 rfl rfl) <| g_u (z_ rfl rfl tA70 tS70 rfl rfl) <| g_u (zg rfl rfl rfl tS70 rfl rfl) <| g_u (zE rfl rfl) <| zF <| zA <| zM <| zt <| zL <| zL <| zt <| zL ?_
        exact ⟨⟨_, _, _, _, _, _, _, rfl, rfl, tA70, tS70, rfl, rfl, (rfl : toAV _ = some _).trans (congrArg some (by (rw [h2, getA_drop hi, if_pos hke]; rfl)))⟩, ⟨(rfl : toAV (Al.look _ _) = some _).trans (congrArg some (by (rw [h2, getA_drop hi, if_pos hke]; rfl))), rfl⟩, trivial⟩
      · have hke : ¬ (nthA l i).key = k := by have e := hb2; rw [yZ] at e; exact of_decide_eq_false e
        refine zO <| zY <| zA <| zB <| g_u (zC rfl rfl) <| g_u (zz rfl rfl rfl) <| g_u (zE rfl rfl) <| zF <| zA ?_
        refine ⟨i + 1, ⟨hi, by rw [h2, getA_drop hi, if_neg hke]⟩, ⟨rfl, rfl, rfl, rfl, rfl, zZ rfl (by rw [zK (by omega) (by omega)]; rfl), trivial⟩, by (try dsimp only); omega⟩
    · have hin : i = l.length := by have := of_decide_eq_false hb1; (try simp only [List.length_map] at this); omega
      refine z7 <| zT <| zT <| zq <| zA <| zD <| zB <| g_u (yh rfl tU70 us70 pl70 rfl rfl rfl rfl) <| g_u (zg rfl rfl rfl tS70 rfl rfl) <| g_u (zE rfl rfl) <| zF <| zA <| zM ?_
      exact ⟨⟨_, _, _, _, _, _, _, rfl, rfl, tA70, tS70, rfl, rfl, (rfl : toAV _ = some _).trans (congrArg some (by (rw [h2, hin, List.drop_length]; rfl)))⟩, ⟨(rfl : toAV (Al.look _ _) = some _).trans (congrArg some (by (rw [h2, hin, List.drop_length]; rfl))), rfl⟩, trivial⟩
theorem rtextA_c (l : List GA) (k : ByteArray) (ho : ∀ a ∈ l, a.ok) (hw : wtAs l ≤ 9000000) : zs Tryz.prog Γ0 90 [.sl 7 (l.map avA), sv k] [sv (textA l k)] := by
  have q1 := y5 l
  refine zd Tryz.func90 rfl Tryz.ntmps90 (by kernel_rfl) rfl fun w0 I0 G0 => ?_
  refine zD <| zB <| g_u (zE rfl rfl) <| zF <| zA <| zD <| zB <| g_u (zC rfl rfl) <| g_u (zC rfl rfl) ?_
  refine g_u (s_call2 (rget_c _ _ (by first | assumption | omega)) rfl rfl) ?_
  refine g_u (wa rfl rfl) <| g_u (zl rfl rfl rfl rfl) <| g_u (zl rfl rfl rfl rfl) <| g_uG (yR 1005 rfl rfl rfl tZ70) rfl <| g_u (zg rfl rfl rfl tS70 rfl rfl) <| g_u (zE rfl rfl) <| zF <| zA <| zD <| zB <| g_u (yn rfl rfl rfl tA70 tS70 rfl rfl) ?_
  refine g_u (zQ (rtext_c _ (getA_ok k ho).1 (by have := (getA_ok k ho).2; omega)) rfl rfl) ?_
  refine g_u (zE rfl rfl) <| zF <| zA <| zM ?_
  exact ⟨⟨(rfl : toAV (Al.look _ _) = some _).trans (congrArg some (by rfl)), rfl⟩, trivial⟩
theorem rservice_c (r : GRes) (ho : ∀ a ∈ r.attrs, a.ok) (hw : wtAs r.attrs ≤ 9000000) : zs Tryz.prog Γ0 57 [r.av] [sv (zx r)] := by
  refine zd Tryz.func57 rfl Tryz.ntmps57 (by kernel_rfl) rfl fun w0 I0 G0 => ?_
  refine zD <| zB <| g_uG (zp 1001 rfl rfl rfl rfl) rfl <| g_u (zE rfl rfl) <| zF <| zA <| zD <| zB <| g_u (zG rfl rfl fa47_0 rfl) <| g_u (zH rfl rfl rfl tA44 tS44 rfl rfl) <| g_u (zQ (rtextA_c r.attrs skey ho hw) rfl rfl) <| g_u (zE rfl rfl) <| zF <| zA <| zM ?_
  exact ⟨⟨(rfl : toAV (Al.look _ _) = some _).trans (congrArg some (by rfl)), rfl⟩, trivial⟩
theorem service_c (r : GRes) (ho : ∀ a ∈ r.attrs, a.ok) (hw : wtAs r.attrs ≤ 9000000) (hr : risA none r.attrs) : zs Tryz.prog Γ0 30 [r.av] [sv (zx r)] := by
  have q1 := y5 r.attrs
  refine zd Tryz.func30 rfl Tryz.ntmps30 (by kernel_rfl) rfl fun w0 I0 G0 => ?_
  refine zD <| zB <| g_uG (zp 1001 rfl rfl rfl rfl) rfl <| g_u (zE rfl rfl) <| zF <| zA <| zD <| zB <| g_u (zG rfl rfl fa47_0 rfl) <| g_u (zH rfl rfl rfl tA44 tS44 rfl rfl) ?_
  refine g_u (zQ (textA_c r.attrs skey hr (by omega) ho hw) rfl rfl) ?_
  refine g_u (zE rfl rfl) <| zF <| zA <| zM ?_
  exact ⟨⟨(rfl : toAV (Al.look _ _) = some _).trans (congrArg some (by rfl)), rfl⟩, trivial⟩
end Go.Proofs
namespace Go.Proofs
open Go Go.Al
set_option maxRecDepth 10000
theorem rattrs_c (l : List GA) (ho : ∀ a ∈ l, a.ok) (hw : wtAs l ≤ 10000000) : zs Tryz.prog Γ0 55 [.sl 7 (l.map avA)] [iv (yb l : Nat)] := by
  have q0 := attrsW_le l
  have qs := attrsW_sum l
  have ql := y5 l
  refine zd Tryz.func55 rfl Tryz.ntmps55 (by kernel_rfl) rfl fun w0 I0 G0 => ?_
  refine zD <| zB <| g_u (zE rfl rfl) <| zF <| zA <| zD <| zB <| g_u (zE rfl rfl) <| zF <| zA <| zD <| zD <| zB <| g_u (zE rfl rfl) <| zF <| zA <| zV ?_
  refine zu (fun i : Nat => [(0, .imm (.sl 7 (l.map avA))), (3, .imm (iv (zh attrW (l.take i) : Nat))), (4, .imm (iv (i : Int)))]) (fun i => i ≤ l.length) (fun i => l.length - i) (0) ?_ ⟨rfl, rfl, rfl, trivial⟩ ?_
  · exact Nat.zero_le _
  · rintro i h1; have h1 : i ≤ l.length := h1; have hs0 := wH attrW l i
    refine zD <| zD <| zB <| g_u (zC rfl rfl) <| g_u (zC rfl rfl) <| g_u (yJ rfl rfl Tryz.underlying44) <| g_u (y_ rfl rfl rfl) <| zF <| zA ?_
    refine zN rfl (fun hb1 => ?_) (fun hb1 => ?_)
    · have hi : i < l.length := by have := of_decide_eq_true hb1; (try simp only [List.length_map] at this); omega
      have hx : (nthA l i).val.wt ≤ 10000000 := by have := wZ (xZ hi); have := (nthA l i).wt_eq; omega
      have hy := textM_le (nthA l i).val
      have hz := wZ (xZ hi)
      have hz2 := (nthA l i).wt_eq
      refine zO <| zA <| zD <| zV <| yX xb <| g_u (zC rfl rfl) <| g_u (zz rfl rfl rfl) <| g_u (zC rfl rfl) <| g_u (zC rfl rfl) ?_
      refine g_u (zR rfl rfl rfl Tryz.underlying44 tS72 (by omega) (ixA hi)) ?_
      refine g_u (zW rfl rfl fa72_0 rfl rfl) <| g_u (z_ rfl rfl tA9 tS9 rfl rfl) <| g_u (yf rfl rfl Tryz.underlying9) <| g_u (s_mul rfl rfl rfl) <| g_u (zz rfl rfl rfl) <| g_u (zC rfl rfl) <| g_u (zC rfl rfl) ?_
      refine g_u (zR rfl rfl rfl Tryz.underlying44 tS72 (by omega) (ixA hi)) ?_
      refine g_u (zW rfl rfl fa72_1 rfl rfl) <| g_u (z_ rfl rfl tA70 tS70 rfl rfl) <| g_u (zQ (rtext_c _ ((GA.ok_iff _).1 (ho _ (xZ hi))).2 hx) rfl rfl) <| g_u (yf rfl rfl Tryz.underlying9) <| g_u (s_mul rfl rfl rfl) <| g_u (zz rfl rfl rfl) <| g_u (zE rfl rfl) ?_
      refine zF ⟨by kernel_rfl, ?_⟩
      refine zY <| zA <| zB <| g_u (zC rfl rfl) <| g_u (zz rfl rfl rfl) <| g_u (zE rfl rfl) <| zF <| zA ?_
      have q1 := xc (F := attrW) (d := a0) hi
      have q2 := sumBy_nth (F := attrW) (d := a0) hi
      refine ⟨i + 1, hi, ⟨rfl, zZ rfl (by rw [q2]; have qa : attrW (nth l i a0) = 64 + 6 * (nthA l i).key.size + 12 * (xM (nthA l i).val).size := rfl; (try dsimp only); ((try simp only [decide_eq_true_eq, decide_eq_false_iff_not, qc, ne_eq, beq_iff_eq, qd, beq_eq_false_iff_ne, Bool.not_eq_true', Bool.not_eq_false', gt_iff_lt, ge_iff_le] at *); (repeat simp (disch := omega) only [zK, za] at *)); omega), zZ rfl (by rw [zK (by omega) (by omega)]; rfl), trivial⟩, by (try dsimp only); omega⟩
    · have hin : i = l.length := by have := of_decide_eq_false hb1; (try simp only [List.length_map] at this); omega
      refine z7 <| zT <| zT <| zq <| zA <| zD <| zB <| g_u (zC rfl rfl) <| g_u (zE rfl rfl) <| zF <| zA <| zM ?_
      exact ⟨⟨(rfl : toAV (Al.look _ _) = some _).trans (congrArg some (by (exact congrArg iv (by rw [hin, List.take_length, ← attrsW_sum])))), rfl⟩, trivial⟩
theorem rspanW_c (s : GSpan) (t : ByteArray) (ho : s.ok) (hw : s.wt ≤ 1000000) (ht : t.size ≤ 10000000) : zs Tryz.prog Γ0 89 [s.av, sv t] [iv (ww s t : Nat)] := by
  have q0 := spanW_le s t ht
  have qe := spanW_eq s t
  have qw : s.wt = 1 + s.state.size + s.name.size + s.note.size + wtAs s.attrs + zh GE.wt s.events + zh GL.wt s.links := rfl
  have ql := yo GE.wt (fun e => by unfold GE.wt; omega) s.events
  have qm := yo GL.wt (fun e => by unfold GL.wt; omega) s.links
  refine zd Tryz.func89 rfl Tryz.ntmps89 (by kernel_rfl) rfl fun w0 I0 G0 => ?_
  refine zD <| zB <| g_uG (zp 1002 rfl rfl rfl rfl) rfl <| g_u (zE rfl rfl) <| zF <| zA <| zD <| yX xb <| g_u (zC rfl rfl) <| g_u (zG rfl rfl fa63_3 rfl) <| g_u (zH rfl rfl rfl tA9 tS9 rfl rfl) ?_
  refine g_u (yv rfl rfl rfl (by show _ ≤ (9223372036854775807 : Int); (try dsimp only); (try simp only [zj]); omega)) ?_
  refine g_u (zG rfl rfl fa63_4 rfl) <| g_u (zH rfl rfl rfl tA9 tS9 rfl rfl) ?_
  refine g_u (yv rfl rfl rfl (by show _ ≤ (9223372036854775807 : Int); (try dsimp only); (try simp only [zj]); omega)) ?_
  refine g_u (zG rfl rfl fa63_11 rfl) <| g_u (zG rfl rfl fa61_1 rfl) <| g_u (zH rfl rfl rfl tA9 tS9 rfl rfl) ?_
  refine g_u (yv rfl rfl rfl (by show _ ≤ (9223372036854775807 : Int); (try dsimp only); (try simp only [zj]); omega)) ?_
  refine g_u (yf rfl rfl Tryz.underlying9) <| g_u (s_mul rfl rfl rfl) <| g_u (zz rfl rfl rfl) <| g_u (zG rfl rfl fa63_8 rfl) <| g_u (zH rfl rfl rfl tA44 tS44 rfl rfl) ?_
  refine g_u (zQ (rattrs_c _ ho.2.2.2.1 (by omega)) rfl rfl) ?_
  refine g_u (zz rfl rfl rfl) <| g_u (zE rfl rfl) ?_
  refine zF ⟨by kernel_rfl, ?_⟩
  refine zA <| zD <| zD <| zB <| g_u (zE rfl rfl) <| zF <| zA <| zV ?_
  refine zu (fun i : Nat => [(2, .ptr 1002 0), (1002, .box 63 (.imm s.av)), (5, .imm (iv (((512 + 6 * (t.size + s.state.size + s.name.size + s.note.size) + yb s.attrs) + zh evW (s.events.take i) : Nat) : Int))), (6, .imm (iv (i : Int)))]) (fun i => i ≤ s.events.length) (fun i => s.events.length - i) (0) ?_ ⟨rfl, rfl, zZ rfl (by simp only [zj]; rw [show zh evW (s.events.take 0) = 0 from rfl]; ((try simp only [decide_eq_true_eq, decide_eq_false_iff_not, qc, ne_eq, beq_iff_eq, qd, beq_eq_false_iff_ne, Bool.not_eq_true', Bool.not_eq_false', gt_iff_lt, ge_iff_le] at *); (repeat simp (disch := omega) only [zK, za] at *)); omega), rfl, trivial⟩ ?_
  · exact Nat.zero_le _
  · rintro i h1; have h1 : i ≤ s.events.length := h1; have hs0 := wH evW s.events i
    refine zD <| zD <| zB <| g_u (zC rfl rfl) <| g_u (zG rfl rfl fa63_9 rfl) <| g_u (zH rfl rfl rfl tA58 tS58 rfl rfl) <| g_u (yJ rfl rfl Tryz.underlying58) <| g_u (y_ rfl rfl rfl) <| zF <| zA ?_
    refine zN rfl (fun hb1 => ?_) (fun hb1 => ?_)
    · have hi : i < s.events.length := by have := of_decide_eq_true hb1; (try simp only [List.length_map] at this); omega
      have q3 := xc (F := evW) (d := ge0) hi
      have qa : evW (nth s.events i ge0) = 64 + 6 * (nthE s.events i).name.size + yb (nthE s.events i).attrs := rfl
      have hx : wtAs (nthE s.events i).attrs ≤ 10000000 := by have h5 := yg GE.wt (nthE_mem hi); have h6 : (nthE s.events i).wt = 1 + (nthE s.events i).name.size + wtAs (nthE s.events i).attrs := rfl; omega
      refine zO <| zA <| zD <| zV <| yX xb <| g_u (zC rfl rfl) <| g_u (zz rfl rfl rfl) <| g_u (zG rfl rfl fa63_9 rfl) <| g_u (zH rfl rfl rfl tA58 tS58 rfl rfl) <| g_u (zC rfl rfl) ?_
      refine g_u (zR rfl rfl rfl Tryz.underlying58 tS92 (by omega) (ixE hi)) ?_
      refine g_u (zW rfl rfl fa92_1 rfl rfl) <| g_u (z_ rfl rfl tA9 tS9 rfl rfl) <| g_u (yf rfl rfl Tryz.underlying9) <| g_u (s_mul rfl rfl rfl) <| g_u (zz rfl rfl rfl) <| g_u (zG rfl rfl fa63_9 rfl) <| g_u (zH rfl rfl rfl tA58 tS58 rfl rfl) <| g_u (zC rfl rfl) ?_
      refine g_u (zR rfl rfl rfl Tryz.underlying58 tS92 (by omega) (ixE hi)) ?_
      refine g_u (zW rfl rfl fa92_2 rfl rfl) <| g_u (z_ rfl rfl tA44 tS44 rfl rfl) <| g_u (zQ (rattrs_c _ (ho.2.2.2.2.1 _ (nthE_mem hi)).2.2 hx) rfl rfl) <| g_u (zz rfl rfl rfl) <| g_u (zE rfl rfl) ?_
      refine zF ⟨by kernel_rfl, ?_⟩
      refine zY <| zA <| zB <| g_u (zC rfl rfl) <| g_u (zz rfl rfl rfl) <| g_u (zE rfl rfl) <| zF <| zA ?_
      have q1 : zh evW (s.events.take i) + (64 + 6 * (nthE s.events i).name.size + yb (nthE s.events i).attrs) ≤ zh evW s.events := xc (F := evW) (d := ge0) hi
      have q2 : zh evW (s.events.take (i + 1)) = zh evW (s.events.take i) + (64 + 6 * (nthE s.events i).name.size + yb (nthE s.events i).attrs) := sumBy_nth (F := evW) (d := ge0) hi
      refine ⟨i + 1, hi, ⟨rfl, rfl, zZ rfl (by rw [q2]; ((try simp only [decide_eq_true_eq, decide_eq_false_iff_not, qc, ne_eq, beq_iff_eq, qd, beq_eq_false_iff_ne, Bool.not_eq_true', Bool.not_eq_false', gt_iff_lt, ge_iff_le] at *); (repeat simp (disch := omega) only [zK, za] at *)); omega), zZ rfl (by rw [zK (by omega) (by omega)]; rfl), trivial⟩, by (try dsimp only); omega⟩
    · have hin : i = s.events.length := by have := of_decide_eq_false hb1; (try simp only [List.length_map] at this); omega
      refine z7 <| zT <| zT <| zq <| zA <| zD <| zD <| zB <| g_u (zE rfl rfl) <| zF <| zA <| zV ?_
      refine zu (fun i : Nat => [(2, .ptr 1002 0), (1002, .box 63 (.imm s.av)), (5, .imm (iv ((((512 + 6 * (t.size + s.state.size + s.name.size + s.note.size) + yb s.attrs) + zh evW s.events) + zh lkW (s.links.take i) : Nat) : Int))), (7, .imm (iv (i : Int)))]) (fun i => i ≤ s.links.length) (fun i => s.links.length - i) (0) ?_ ⟨rfl, rfl, zZ rfl (by rw [hin, List.take_length, show zh lkW (s.links.take 0) = 0 from rfl]; rfl), rfl, trivial⟩ ?_
      · exact Nat.zero_le _
      · rintro i h1; have h1 : i ≤ s.links.length := h1; have hs0 := wH lkW s.links i
        refine zD <| zD <| zB <| g_u (zC rfl rfl) <| g_u (zG rfl rfl fa63_10 rfl) <| g_u (zH rfl rfl rfl tA59 tS59 rfl rfl) <| g_u (yJ rfl rfl Tryz.underlying59) <| g_u (y_ rfl rfl rfl) <| zF <| zA ?_
        refine zN rfl (fun hb2 => ?_) (fun hb2 => ?_)
        · have hi : i < s.links.length := by have := of_decide_eq_true hb2; (try simp only [List.length_map] at this); omega
          have q3 := xc (F := lkW) (d := gl0) hi
          have qa : lkW (nth s.links i gl0) = 64 + 6 * (nthL s.links i).state.size + yb (nthL s.links i).attrs := rfl
          have hx : wtAs (nthL s.links i).attrs ≤ 10000000 := by have h5 := yg GL.wt (nthL_mem hi); have h6 : (nthL s.links i).wt = 1 + (nthL s.links i).state.size + wtAs (nthL s.links i).attrs := rfl; omega
          refine zO <| zA <| zD <| zV <| yX xb <| g_u (zC rfl rfl) <| g_u (zz rfl rfl rfl) <| g_u (zG rfl rfl fa63_10 rfl) <| g_u (zH rfl rfl rfl tA59 tS59 rfl rfl) <| g_u (zC rfl rfl) ?_
          refine g_u (zR rfl rfl rfl Tryz.underlying59 tS94 (by omega) (ixL hi)) ?_
          refine g_u (zW rfl rfl fa94_2 rfl rfl) <| g_u (z_ rfl rfl tA9 tS9 rfl rfl) <| g_u (yf rfl rfl Tryz.underlying9) <| g_u (s_mul rfl rfl rfl) <| g_u (zz rfl rfl rfl) <| g_u (zG rfl rfl fa63_10 rfl) <| g_u (zH rfl rfl rfl tA59 tS59 rfl rfl) <| g_u (zC rfl rfl) ?_
          refine g_u (zR rfl rfl rfl Tryz.underlying59 tS94 (by omega) (ixL hi)) ?_
          refine g_u (zW rfl rfl fa94_3 rfl rfl) <| g_u (z_ rfl rfl tA44 tS44 rfl rfl) <| g_u (zQ (rattrs_c _ (ho.2.2.2.2.2 _ (nthL_mem hi)).2.2.2 hx) rfl rfl) <| g_u (zz rfl rfl rfl) <| g_u (zE rfl rfl) ?_
          refine zF ⟨by kernel_rfl, ?_⟩
          refine zY <| zA <| zB <| g_u (zC rfl rfl) <| g_u (zz rfl rfl rfl) <| g_u (zE rfl rfl) <| zF <| zA ?_
          have q1 : zh lkW (s.links.take i) + (64 + 6 * (nthL s.links i).state.size + yb (nthL s.links i).attrs) ≤ zh lkW s.links := xc (F := lkW) (d := gl0) hi
          have q2 : zh lkW (s.links.take (i + 1)) = zh lkW (s.links.take i) + (64 + 6 * (nthL s.links i).state.size + yb (nthL s.links i).attrs) := sumBy_nth (F := lkW) (d := gl0) hi
          refine ⟨i + 1, hi, ⟨rfl, rfl, zZ rfl (by rw [q2]; ((try simp only [decide_eq_true_eq, decide_eq_false_iff_not, qc, ne_eq, beq_iff_eq, qd, beq_eq_false_iff_ne, Bool.not_eq_true', Bool.not_eq_false', gt_iff_lt, ge_iff_le] at *); (repeat simp (disch := omega) only [zK, za] at *)); omega), zZ rfl (by rw [zK (by omega) (by omega)]; rfl), trivial⟩, by (try dsimp only); omega⟩
        · have hin2 : i = s.links.length := by have := of_decide_eq_false hb2; (try simp only [List.length_map] at this); omega
          refine z7 <| zT <| zT <| zq <| zA <| zD <| zB <| g_u (zC rfl rfl) <| g_u (zE rfl rfl) <| zF <| zA <| zM ?_
          exact ⟨⟨(rfl : toAV (Al.look _ _) = some _).trans (congrArg some (by (exact congrArg iv (by rw [hin2, List.take_length, qe])))), rfl⟩, trivial⟩
end Go.Proofs
namespace Go.Proofs
open Go Go.Al
set_option maxRecDepth 10000
theorem rscopeW_c (s : GScope) (t : ByteArray) (ho : s.ok) (hw : s.wt ≤ 1000000) (ht : t.size ≤ 10000000) : zs Tryz.prog Γ0 56 [s.av, sv t] [iv (wX s t : Nat)] := by
  have q0 := scopeW_le s t ht
  have qe : wX s t = 64 + 6 * (s.name.size + s.version.size) + zh (fun x => ww x t) s.spans := rfl
  have qw : s.wt = 1 + s.name.size + s.version.size + zh GSpan.wt s.spans := rfl
  have ql := yo GSpan.wt (fun e => by unfold GSpan.wt; omega) s.spans
  refine zd Tryz.func56 rfl Tryz.ntmps56 (by kernel_rfl) rfl fun w0 I0 G0 => ?_
  refine zD <| zB <| g_uG (zp 1002 rfl rfl rfl rfl) rfl <| g_u (zE rfl rfl) <| zF <| zA <| zD <| zB <| g_u (zG rfl rfl fa51_0 rfl) <| g_u (zH rfl rfl rfl tA9 tS9 rfl rfl) <| g_u (zG rfl rfl fa51_1 rfl) <| g_u (zH rfl rfl rfl tA9 tS9 rfl rfl) ?_
  refine g_u (yv rfl rfl rfl (by show _ ≤ (9223372036854775807 : Int); (try dsimp only); (try simp only [zj]); omega)) ?_
  refine g_u (yf rfl rfl Tryz.underlying9) <| g_u (s_mul rfl rfl rfl) <| g_u (zz rfl rfl rfl) <| g_u (zE rfl rfl) <| zF <| zA <| zD <| zD <| zB <| g_u (zE rfl rfl) <| zF <| zA <| zV ?_
  refine zu (fun i : Nat => [(2, .ptr 1002 0), (1002, .box 51 (.imm s.av)), (1, .imm (sv t)), (5, .imm (iv (((64 + 6 * (s.name.size + s.version.size)) + zh (fun x => ww x t) (s.spans.take i) : Nat) : Int))), (6, .imm (iv (i : Int)))]) (fun i => i ≤ s.spans.length) (fun i => s.spans.length - i) (0) ?_ ⟨rfl, rfl, rfl, zZ rfl (by simp only [zj]; rw [show zh (fun x => ww x t) (s.spans.take 0) = 0 from rfl]; ((try simp only [decide_eq_true_eq, decide_eq_false_iff_not, qc, ne_eq, beq_iff_eq, qd, beq_eq_false_iff_ne, Bool.not_eq_true', Bool.not_eq_false', gt_iff_lt, ge_iff_le] at *); (repeat simp (disch := omega) only [zK, za] at *)); omega), rfl, trivial⟩ ?_
  · exact Nat.zero_le _
  · rintro i h1; have h1 : i ≤ s.spans.length := h1; have hs0 := wH (fun x => ww x t) s.spans i
    refine zD <| zD <| zB <| g_u (zC rfl rfl) <| g_u (zG rfl rfl fa51_2 rfl) <| g_u (zH rfl rfl rfl tA49 tS49 rfl rfl) <| g_u (yJ rfl rfl Tryz.underlying49) <| g_u (y_ rfl rfl rfl) <| zF <| zA ?_
    refine zN rfl (fun hb1 => ?_) (fun hb1 => ?_)
    · have hi : i < s.spans.length := by have := of_decide_eq_true hb1; (try simp only [List.length_map] at this); omega
      have hx : (nthS s.spans i).wt ≤ 1000000 := by have h5 := yg GSpan.wt (nthS_mem hi); omega
      refine zO <| zA <| zD <| zV <| zB <| g_u (zC rfl rfl) <| g_u (zG rfl rfl fa51_2 rfl) <| g_u (zH rfl rfl rfl tA49 tS49 rfl rfl) <| g_u (zC rfl rfl) ?_
      refine g_u (zR rfl rfl rfl Tryz.underlying49 tS63 (by omega) (ixS hi)) ?_
      refine g_u (z_ rfl rfl tA63 tS63 rfl (by first | exact getS_w (GSpan.width _) rfl | rfl)) ?_
      refine g_u (zC rfl rfl) <| g_u (zQ (rspanW_c _ t (ho.2.2 _ (nthS_mem hi)) hx ht) rfl rfl) <| g_u (zz rfl rfl rfl) <| g_u (zE rfl rfl) <| zF <| zY <| zA <| zB <| g_u (zC rfl rfl) <| g_u (zz rfl rfl rfl) <| g_u (zE rfl rfl) <| zF <| zA ?_
      have q1 : zh (fun x => ww x t) (s.spans.take i) + ww (nthS s.spans i) t ≤ zh (fun x => ww x t) s.spans := xc (F := (fun x => ww x t)) (d := gs0) hi
      have q2 : zh (fun x => ww x t) (s.spans.take (i + 1)) = zh (fun x => ww x t) (s.spans.take i) + ww (nthS s.spans i) t := sumBy_nth (F := (fun x => ww x t)) (d := gs0) hi
      refine ⟨i + 1, hi, ⟨rfl, rfl, rfl, zZ rfl (by rw [q2]; ((try simp only [decide_eq_true_eq, decide_eq_false_iff_not, qc, ne_eq, beq_iff_eq, qd, beq_eq_false_iff_ne, Bool.not_eq_true', Bool.not_eq_false', gt_iff_lt, ge_iff_le] at *); (repeat simp (disch := omega) only [zK, za] at *)); omega), zZ rfl (by rw [zK (by omega) (by omega)]; rfl), trivial⟩, by (try dsimp only); omega⟩
    · have hin : i = s.spans.length := by have := of_decide_eq_false hb1; (try simp only [List.length_map] at this); omega
      refine z7 <| zT <| zT <| zq <| zA <| zD <| zB <| g_u (zC rfl rfl) <| g_u (zE rfl rfl) <| zF <| zA <| zM ?_
      exact ⟨⟨(rfl : toAV (Al.look _ _) = some _).trans (congrArg some (by (exact congrArg iv (by rw [hin, List.take_length, qe])))), rfl⟩, trivial⟩
def fitR (r : GRes) : Prop := wtAs r.attrs ≤ 1000000 ∧ r.scopes.length ≤ 1000000 ∧ (zx r).size ≤ 10000000 ∧ ∀ c ∈ r.scopes, c.wt ≤ 1000000
theorem fit_small {r : GRes} (h : r.wt ≤ 60000) : fitR r := by
  have h1 := serviceM_le r
  have h2 : r.wt = 1 + wtAs r.attrs + zh GScope.wt r.scopes := rfl
  have h3 := yo GScope.wt (fun e => by unfold GScope.wt; omega) r.scopes
  exact ⟨by omega, by omega, by omega, fun c hc => by have := yg GScope.wt hc; omega⟩
def fitB (b : List GRes) : Prop := wtB b ≤ 3000000 ∧ ∀ r ∈ b, fitR r
theorem fitB_small {b : List GRes} (h : wtB b ≤ 60000) : fitB b := ⟨by omega, fun r hr => fit_small (by have := yg GRes.wt hr; unfold wtB at h; omega)⟩
theorem rresWX_c (r : GRes) (ho : r.ok) (hw : r.wt ≤ 3000000) (hf : fitR r) : zs Tryz.prog Γ0 31 [r.av] [iv (resW r : Nat)] := by
  have ht : (zx r).size ≤ 10000000 := hf.2.2.1
  have q0 := resW_le r ht
  have qe : resW r = 64 + yb r.attrs + zh (fun s => wX s (zx r)) r.scopes := rfl
  have qw : r.wt = 1 + wtAs r.attrs + zh GScope.wt r.scopes := rfl
  have ql := yo GScope.wt (fun e => by unfold GScope.wt; omega) r.scopes
  refine zd Tryz.func31 rfl Tryz.ntmps31 (by kernel_rfl) rfl fun w0 I0 G0 => ?_
  refine zD <| zB <| g_uG (zp 1001 rfl rfl rfl rfl) rfl <| g_u (zE rfl rfl) <| zF <| zA <| zD <| zB <| g_u (zG rfl rfl fa47_0 rfl) <| g_u (zH rfl rfl rfl tA44 tS44 rfl rfl) ?_
  refine g_u (zQ (rattrs_c _ ho.1 (by omega)) rfl rfl) ?_
  refine g_u (zz rfl rfl rfl) <| g_u (zE rfl rfl) <| zF <| zA <| zD <| zD <| zB <| g_u (zE rfl rfl) <| zF <| zA <| zV ?_
  refine zu (fun i : Nat => [(1, .ptr 1001 0), (1001, .box 47 (.imm r.av)), (3, .imm (iv (((64 + yb r.attrs) + zh (fun s => wX s (zx r)) (r.scopes.take i) : Nat) : Int))), (4, .imm (iv (i : Int)))]) (fun i => i ≤ r.scopes.length) (fun i => r.scopes.length - i) (0) ?_ ⟨rfl, rfl, zZ rfl (by rw [show zh (fun s => wX s (zx r)) (r.scopes.take 0) = 0 from rfl]; ((try simp only [decide_eq_true_eq, decide_eq_false_iff_not, qc, ne_eq, beq_iff_eq, qd, beq_eq_false_iff_ne, Bool.not_eq_true', Bool.not_eq_false', gt_iff_lt, ge_iff_le] at *); (repeat simp (disch := omega) only [zK, za] at *)); omega), rfl, trivial⟩ ?_
  · exact Nat.zero_le _
  · rintro i h1; have h1 : i ≤ r.scopes.length := h1; have hs0 := wH (fun s => wX s (zx r)) r.scopes i
    refine zD <| zD <| zB <| g_u (zC rfl rfl) <| g_u (zG rfl rfl wq rfl) <| g_u (zH rfl rfl rfl tA45 tS45 rfl rfl) <| g_u (yJ rfl rfl Tryz.underlying45) <| g_u (y_ rfl rfl rfl) <| zF <| zA ?_
    refine zN rfl (fun hb1 => ?_) (fun hb1 => ?_)
    · have hi : i < r.scopes.length := by have := of_decide_eq_true hb1; (try simp only [List.length_map] at this); omega
      have hx : (nthC r.scopes i).wt ≤ 1000000 := hf.2.2.2 _ (nthC_mem hi)
      refine zO <| zA <| zD <| zV <| yX xb <| g_u (zC rfl rfl) <| g_u (zG rfl rfl wq rfl) <| g_u (zH rfl rfl rfl tA45 tS45 rfl rfl) <| g_u (zC rfl rfl) ?_
      refine g_u (zR rfl rfl rfl Tryz.underlying45 tS51 (by omega) (ixC hi)) ?_
      refine g_u (z_ rfl rfl tA51 tS51 rfl rfl) <| g_u (zH rfl rfl rfl tA47 tS47 rfl rfl) ?_
      refine g_u (zQ (rservice_c r ho.1 (by omega)) rfl rfl) ?_
      refine g_u (zQ (rscopeW_c _ _ (ho.2 _ (nthC_mem hi)) hx ht) rfl rfl) <| g_u (zz rfl rfl rfl) <| g_u (zE rfl rfl) ?_
      refine zF ⟨by kernel_rfl, ?_⟩
      refine zY <| zA <| zB <| g_u (zC rfl rfl) <| g_u (zz rfl rfl rfl) <| g_u (zE rfl rfl) <| zF <| zA ?_
      have q1 : zh (fun s => wX s (zx r)) (r.scopes.take i) + wX (nthC r.scopes i) (zx r) ≤ zh (fun s => wX s (zx r)) r.scopes := xc (F := (fun s => wX s (zx r))) (d := gc0) hi
      have q2 : zh (fun s => wX s (zx r)) (r.scopes.take (i + 1)) = zh (fun s => wX s (zx r)) (r.scopes.take i) + wX (nthC r.scopes i) (zx r) := sumBy_nth (F := (fun s => wX s (zx r))) (d := gc0) hi
      refine ⟨i + 1, hi, ⟨rfl, rfl, zZ rfl (by rw [q2]; ((try simp only [decide_eq_true_eq, decide_eq_false_iff_not, qc, ne_eq, beq_iff_eq, qd, beq_eq_false_iff_ne, Bool.not_eq_true', Bool.not_eq_false', gt_iff_lt, ge_iff_le] at *); (repeat simp (disch := omega) only [zK, za] at *)); omega), zZ rfl (by rw [zK (by omega) (by omega)]; rfl), trivial⟩, by (try dsimp only); omega⟩
    · have hin : i = r.scopes.length := by have := of_decide_eq_false hb1; (try simp only [List.length_map] at this); omega
      refine z7 <| zT <| zT <| zq <| zA <| zD <| zB <| g_u (zC rfl rfl) <| g_u (zE rfl rfl) <| zF <| zA <| zM ?_
      exact ⟨⟨(rfl : toAV (Al.look _ _) = some _).trans (congrArg some (by (exact congrArg iv (by rw [hin, List.take_length, qe])))), rfl⟩, trivial⟩
theorem sumBy_le3 {α : Type} {F G : α → Nat} {k : Nat} : ∀ (l : List α), (∀ x ∈ l, F x ≤ k * G x) → zh F l ≤ k * zh G l
  | [], _ => by simp [zh]
  | x :: xs, h => by simp only [zh, Nat.mul_add]; have := h x List.mem_cons_self; have := sumBy_le3 xs (fun y hy => h y (List.mem_cons_of_mem _ hy)); omega
theorem rbatchWX_c (b : List GRes) (ho : okB b) (hf : fitB b) : zs Tryz.prog Γ0 10 [yr b] [iv (batchW b : Nat)] := by
  have hw := hf.1
  have ql := yo GRes.wt (fun e => by unfold GRes.wt; omega) b
  have q0 : zh resW b ≤ 100000000 * 3000000 := by have h5 := sumBy_le3 (F := resW) (k := 100000000) (G := GRes.wt) b (fun r hr => resW_le r (hf.2 r hr).2.2.1); unfold wtB at hw; omega
  have qe : batchW b = 16 + zh resW b := rfl
  have qw : wtB b = zh GRes.wt b := rfl
  refine zd Tryz.func10 rfl Tryz.ntmps10 (by kernel_rfl) rfl fun w0 I0 G0 => ?_
  refine zD <| zB <| g_uG (zp 1001 rfl rfl rfl rfl) rfl <| g_u (zE rfl rfl) <| zF <| zA <| zD <| zB <| g_u (zE rfl rfl) <| zF <| zA <| zD <| zD <| zB <| g_u (zE rfl rfl) <| zF <| zA <| zV ?_
  refine zu (fun i : Nat => [(1, .ptr 1001 0), (1001, .box 24 (.imm (yr b))), (3, .imm (iv ((16 + zh resW (b.take i) : Nat) : Int))), (4, .imm (iv (i : Int)))]) (fun i => i ≤ b.length) (fun i => b.length - i) (0) ?_ ⟨rfl, rfl, rfl, rfl, trivial⟩ ?_
  · exact Nat.zero_le _
  · rintro i h1; have h1 : i ≤ b.length := h1; have hs0 := wH resW b i
    refine zD <| zD <| zB <| g_u (zC rfl rfl) <| g_u (zG rfl rfl fa24_0 rfl) <| g_u (zH rfl rfl rfl tA22 tS22 rfl rfl) <| g_u (yJ rfl rfl Tryz.underlying22) <| g_u (y_ rfl rfl rfl) <| zF <| zA ?_
    refine zN rfl (fun hb1 => ?_) (fun hb1 => ?_)
    · have hi : i < b.length := by have := of_decide_eq_true hb1; (try simp only [List.length_map] at this); omega
      have hx : (nthR b i).wt ≤ 3000000 := by have h5 := yg GRes.wt (nthR_mem hi); omega
      refine zO <| zA <| zD <| zV <| zB <| g_u (zC rfl rfl) <| g_u (zG rfl rfl fa24_0 rfl) <| g_u (zH rfl rfl rfl tA22 tS22 rfl rfl) <| g_u (zC rfl rfl) ?_
      refine g_u (zR rfl rfl rfl Tryz.underlying22 tS47 (by omega) (ixR hi)) ?_
      refine g_u (z_ rfl rfl tA47 tS47 rfl rfl) <| g_u (zQ (rresWX_c _ (ho _ (nthR_mem hi)) hx (hf.2 _ (nthR_mem hi))) rfl rfl) <| g_u (zz rfl rfl rfl) <| g_u (zE rfl rfl) <| zF <| zY <| zA <| zB <| g_u (zC rfl rfl) <| g_u (zz rfl rfl rfl) <| g_u (zE rfl rfl) <| zF <| zA ?_
      have q1 : zh resW (b.take i) + resW (nthR b i) ≤ zh resW b := xc (F := resW) (d := gr0) hi
      have q2 : zh resW (b.take (i + 1)) = zh resW (b.take i) + resW (nthR b i) := sumBy_nth (F := resW) (d := gr0) hi
      refine ⟨i + 1, hi, ⟨rfl, rfl, zZ rfl (by rw [q2]; ((try simp only [decide_eq_true_eq, decide_eq_false_iff_not, qc, ne_eq, beq_iff_eq, qd, beq_eq_false_iff_ne, Bool.not_eq_true', Bool.not_eq_false', gt_iff_lt, ge_iff_le] at *); (repeat simp (disch := omega) only [zK, za] at *)); omega), zZ rfl (by rw [zK (by omega) (by omega)]; rfl), trivial⟩, by (try dsimp only); omega⟩
    · have hin : i = b.length := by have := of_decide_eq_false hb1; (try simp only [List.length_map] at this); omega
      refine z7 <| zT <| zT <| zq <| zA <| zD <| zB <| g_u (zC rfl rfl) <| g_u (zE rfl rfl) <| zF <| zA <| zM ?_
      exact ⟨⟨(rfl : toAV (Al.look _ _) = some _).trans (congrArg some (by (exact congrArg iv (by rw [hin, List.take_length, qe])))), rfl⟩, trivial⟩
end Go.Proofs
namespace Go.Proofs
open Go Go.Al
set_option maxRecDepth 10000
end Go.Proofs
namespace Go.Proofs
open Go Go.Al
set_option maxRecDepth 10000
theorem textB_plain (v : GV) : xM (wR v) = xM v := by
  have h : ¬ ((wR v).kind = 6 ∨ (wR v).kind = 7) := by simp [wR, GV.kind]
  rw [textE h, simp1 (by rfl)]; rfl
theorem plainV_ok {v : GV} (ho : v.ok) (hw : v.wt ≤ 1000000) : (wR v).ok := by
  rw [GV.ok_iff]
  have := textM_le v
  refine ⟨⟨by show (0 : Int) ≤ 1; decide, by show (1 : Int) < 256; decide⟩, ?_, ⟨by show (-9223372036854775808 : Int) ≤ 0; decide, by show (0 : Int) < 9223372036854775808; decide⟩, ⟨by show (0 : Int) ≤ 0; decide, by show (0 : Int) < 18446744073709551616; decide⟩, fun x hx => absurd hx (by simp [wR, GV.list]), fun x hx => absurd hx (by simp [wR, GV.map])⟩
  show (xM v).size ≤ maxLen
  unfold maxLen; omega
end Go.Proofs
namespace Go.Proofs
open Go Go.Al
set_option maxRecDepth 10000
end Go.Proofs
namespace Go.Proofs
open Go Go.Al
set_option maxRecDepth 10000
end Go.Proofs
namespace Go.Proofs
open Go Go.Al
set_option maxRecDepth 10000
end Go.Proofs
namespace Go.Proofs
open Go Go.Al
set_option maxRecDepth 10000
set_option maxHeartbeats 4000000 in
theorem leftS_c (s : GSpan) (n : Int) (hn : -1000000000000 ≤ n ∧ n ≤ 1000000000) : zs Tryz.prog Γ0 23 [s.av, iv n] [iv (leftS s n)] := by
  refine zd Tryz.func23 rfl Tryz.ntmps23 (by kernel_rfl) rfl fun w0 I0 G0 => ?_
  refine zD <| zB <| g_uG (zp 1002 rfl rfl rfl rfl) rfl <| g_u (zE rfl rfl) <| zF <| zA <| zD <| zD <| zB <| g_u (zC rfl rfl) <| g_u (y_ rfl rfl rfl) <| g_u (zC rfl rfl) <| yP (t := 9) rfl ?_
  rintro (hb1 | hb1)
  · rw [hb1]
    have z1 : n < 0 := of_decide_eq_true hb1
    refine zP rfl rfl rfl <| zP rfl rfl rfl <| zP rfl rfl rfl <| zP rfl rfl rfl <| zP rfl rfl rfl <| g_u (zk rfl rfl rfl) <| g_u (zC rfl rfl) <| zP rfl rfl rfl <| zP rfl rfl rfl <| zP rfl rfl rfl <| zP rfl rfl rfl <| zP rfl rfl rfl <| g_u (zk rfl rfl rfl) <| g_u (zC rfl rfl) <| zP rfl rfl rfl <| zP rfl rfl rfl <| zP rfl rfl rfl <| zP rfl rfl rfl <| zP rfl rfl rfl <| zP rfl rfl rfl <| g_u (zk rfl rfl rfl) <| zF <| zA <| zy rfl <| zD <| zB <| g_u (zE rfl rfl) <| zF <| zA <| zM <| zL ?_
    exact ⟨⟨(rfl : toAV (Al.look _ _) = some _).trans (congrArg some (by (exact congrArg iv (by unfold leftS; first | (rw [if_pos (by omega)]; done) | (rw [if_neg (by omega), g4, gfin]; done) | (rw [if_neg (by omega), g4, wC hi2 (by omega) hk2]; done) | (rw [if_neg (by omega), h4, wB hi (by omega) hk]; exact (xJ _ (by omega)).symm))))), rfl⟩, trivial⟩
  · rw [hb1]
    have z1 : ¬ n < 0 := of_decide_eq_false hb1
    refine zf rfl rfl (zG rfl rfl fa63_3 rfl) <| zf rfl rfl (zH rfl rfl rfl tA9 tS9 rfl rfl) <| zf rfl rfl (yf rfl rfl Tryz.underlying9) <| zf rfl rfl (zC rfl rfl) <| zf rfl rfl (xu rfl rfl rfl) <| g_u (zr rfl rfl rfl) <| g_u (zC rfl rfl) <| yP (t := 16) rfl ?_
    rintro (hb2 | hb2)
    · rw [hb2]
      have z2 : (s.state.size : Int) > n := of_decide_eq_true hb2
      refine zP rfl rfl rfl <| zP rfl rfl rfl <| zP rfl rfl rfl <| zP rfl rfl rfl <| zP rfl rfl rfl <| g_u (zk rfl rfl rfl) <| g_u (zC rfl rfl) <| zP rfl rfl rfl <| zP rfl rfl rfl <| zP rfl rfl rfl <| zP rfl rfl rfl <| zP rfl rfl rfl <| zP rfl rfl rfl <| g_u (zk rfl rfl rfl) <| zF <| zA <| zy rfl <| zD <| zB <| g_u (zE rfl rfl) <| zF <| zA <| zM <| zL ?_
      exact ⟨⟨(rfl : toAV (Al.look _ _) = some _).trans (congrArg some (by (exact congrArg iv (by unfold leftS; first | (rw [if_pos (by omega)]; done) | (rw [if_neg (by omega), g4, gfin]; done) | (rw [if_neg (by omega), g4, wC hi2 (by omega) hk2]; done) | (rw [if_neg (by omega), h4, wB hi (by omega) hk]; exact (xJ _ (by omega)).symm))))), rfl⟩, trivial⟩
    · rw [hb2]
      have z2 : ¬ (s.state.size : Int) > n := of_decide_eq_false hb2
      refine zf rfl rfl (zG rfl rfl fa63_4 rfl) <| zf rfl rfl (zH rfl rfl rfl tA9 tS9 rfl rfl) <| zf rfl rfl (yf rfl rfl Tryz.underlying9) <| zf rfl rfl (zC rfl rfl) <| zf rfl rfl (xu rfl rfl rfl) <| g_u (zr rfl rfl rfl) <| g_u (zC rfl rfl) <| yP (t := 23) rfl ?_
      rintro (hb3 | hb3)
      · rw [hb3]
        have z3 : (s.name.size : Int) > n := of_decide_eq_true hb3
        refine zP rfl rfl rfl <| zP rfl rfl rfl <| zP rfl rfl rfl <| zP rfl rfl rfl <| zP rfl rfl rfl <| zP rfl rfl rfl <| g_u (zk rfl rfl rfl) <| zF <| zA <| zy rfl <| zD <| zB <| g_u (zE rfl rfl) <| zF <| zA <| zM <| zL ?_
        exact ⟨⟨(rfl : toAV (Al.look _ _) = some _).trans (congrArg some (by (exact congrArg iv (by unfold leftS; first | (rw [if_pos (by omega)]; done) | (rw [if_neg (by omega), g4, gfin]; done) | (rw [if_neg (by omega), g4, wC hi2 (by omega) hk2]; done) | (rw [if_neg (by omega), h4, wB hi (by omega) hk]; exact (xJ _ (by omega)).symm))))), rfl⟩, trivial⟩
      · rw [hb3]
        have z3 : ¬ (s.name.size : Int) > n := of_decide_eq_false hb3
        refine zf rfl rfl (zG rfl rfl fa63_11 rfl) <| zf rfl rfl (zG rfl rfl fa61_1 rfl) <| zf rfl rfl (zH rfl rfl rfl tA9 tS9 rfl rfl) <| zf rfl rfl (yf rfl rfl Tryz.underlying9) <| zf rfl rfl (zC rfl rfl) <| zf rfl rfl (xu rfl rfl rfl) <| g_u (zr rfl rfl rfl) <| zF <| zA ?_
        refine zN rfl (fun hb4 => ?_) (fun hb4 => ?_)
        · have z4 : (s.note.size : Int) > n := of_decide_eq_true hb4
          refine zD <| zB <| g_u (zE rfl rfl) <| zF <| zA <| zM <| zL ?_
          exact ⟨⟨(rfl : toAV (Al.look _ _) = some _).trans (congrArg some (by (exact congrArg iv (by unfold leftS; first | (rw [if_pos (by omega)]; done) | (rw [if_neg (by omega), g4, gfin]; done) | (rw [if_neg (by omega), g4, wC hi2 (by omega) hk2]; done) | (rw [if_neg (by omega), h4, wB hi (by omega) hk]; exact (xJ _ (by omega)).symm))))), rfl⟩, trivial⟩
        · have z4 : ¬ (s.note.size : Int) > n := of_decide_eq_false hb4
          have bm := wG s.attrs (n - 1 - s.state.size - s.name.size - s.note.size)
          have ew : yK s.attrs (IntKind.i64.wrap (IntKind.i64.wrap (IntKind.i64.wrap (IntKind.i64.wrap (n - 1) - s.state.size) - s.name.size) - s.note.size)) = yK s.attrs (n - 1 - s.state.size - s.name.size - s.note.size) := by rw [zK (n := n - 1) (by omega) (by omega), zK (n := n - 1 - s.state.size) (by omega) (by omega), zK (n := n - 1 - s.state.size - s.name.size) (by omega) (by omega), zK (by omega) (by omega)]
          refine zO <| zA <| zD <| zB <| g_u (zG rfl rfl fa63_8 rfl) <| g_u (zH rfl rfl rfl tA44 tS44 rfl rfl) <| g_u (zC rfl rfl) <| g_u (vB rfl rfl rfl) <| g_u (zG rfl rfl fa63_3 rfl) <| g_u (zH rfl rfl rfl tA9 tS9 rfl rfl) <| g_u (yf rfl rfl Tryz.underlying9) <| g_u (vB rfl rfl rfl) <| g_u (zG rfl rfl fa63_4 rfl) <| g_u (zH rfl rfl rfl tA9 tS9 rfl rfl) <| g_u (yf rfl rfl Tryz.underlying9) <| g_u (vB rfl rfl rfl) <| g_u (zG rfl rfl fa63_11 rfl) <| g_u (zG rfl rfl fa61_1 rfl) <| g_u (zH rfl rfl rfl tA9 tS9 rfl rfl) <| g_u (yf rfl rfl Tryz.underlying9) <| g_u (vB rfl rfl rfl) ?_
          refine g_u (zQ (leftAs_c _ _ ⟨by ((try simp only [decide_eq_true_eq, decide_eq_false_iff_not, qc, ne_eq, beq_iff_eq, qd, beq_eq_false_iff_ne, Bool.not_eq_true', Bool.not_eq_false', gt_iff_lt, ge_iff_le] at *); (repeat simp (disch := omega) only [zK, za] at *)); omega, by ((try simp only [decide_eq_true_eq, decide_eq_false_iff_not, qc, ne_eq, beq_iff_eq, qd, beq_eq_false_iff_ne, Bool.not_eq_true', Bool.not_eq_false', gt_iff_lt, ge_iff_le] at *); (repeat simp (disch := omega) only [zK, za] at *)); omega⟩) rfl rfl) ?_
          refine g_u (zE rfl rfl) <| zF <| zA <| zD <| zD <| zB <| g_u (zE rfl rfl) <| zF <| zA <| zV ?_
          refine zu (fun j : Nat × Int => [(2, .ptr 1002 0), (1002, .box 63 (.imm s.av)), (1, .imm (iv j.2)), (5, .imm (iv (j.1 : Int)))]) (fun j => j.1 ≤ s.events.length ∧ (-1000000000000 ≤ j.2 ∧ j.2 ≤ 1000000000) ∧ ((j.1 : Int) ≤ yK s.attrs (n - 1 - s.state.size - s.name.size - s.note.size) - j.2) ∧ leftE s.events (yK s.attrs (n - 1 - s.state.size - s.name.size - s.note.size)) = leftE (s.events.drop j.1) j.2) (fun j => s.events.length - j.1) (⟨0, yK s.attrs (n - 1 - s.state.size - s.name.size - s.note.size)⟩) ?_ ⟨rfl, rfl, zZ rfl (by rw [ew]), rfl, trivial⟩ ?_
          · exact ⟨Nat.zero_le _, ⟨by have := bm.2.1; omega, by omega⟩, by simp, rfl⟩
          · rintro ⟨i, m⟩ ⟨h1, h2, h3, h4⟩; dsimp only at h1 h2 h3 h4
            refine zD <| zD <| zB <| g_u (zC rfl rfl) <| g_u (zG rfl rfl fa63_9 rfl) <| g_u (zH rfl rfl rfl tA58 tS58 rfl rfl) <| g_u (yJ rfl rfl Tryz.underlying58) <| g_u (y_ rfl rfl rfl) <| g_u (zC rfl rfl) <| yP (t := 54) rfl ?_
            rintro (hb5 | hb5)
            · rw [hb5]
              have hi : i < s.events.length := by have := of_decide_eq_true hb5; (try simp only [List.length_map] at this); omega
              refine zf rfl rfl (zC rfl rfl) <| zf rfl rfl (s_geI rfl rfl rfl) <| g_u (zk rfl rfl rfl) <| zF <| zA ?_
              refine zN rfl (fun hb6 => ?_) (fun hb6 => ?_)
              · have hs : ¬ m < 0 := by have := of_decide_eq_true hb6; omega
                refine zO <| zA <| zD <| zV <| zD <| zD <| zB <| g_u (zG rfl rfl fa63_9 rfl) <| g_u (zH rfl rfl rfl tA58 tS58 rfl rfl) <| g_u (zC rfl rfl) ?_
                refine g_u (zR rfl rfl rfl Tryz.underlying58 tS92 (by omega) (ixE hi)) ?_
                refine g_u (zW rfl rfl fa92_1 rfl rfl) <| g_u (z_ rfl rfl tA9 tS9 rfl rfl) <| g_u (yf rfl rfl Tryz.underlying9) <| g_u (zC rfl rfl) <| g_u (xu rfl rfl rfl) <| zF <| zA ?_
                refine zN rfl (fun hb7 => ?_) (fun hb7 => ?_)
                · have hk : ((nthE s.events i).name.size : Int) > m := of_decide_eq_true hb7
                  refine zD <| zB <| g_u (zE rfl rfl) <| zF <| zA <| zM <| zL <| zt <| zL <| zL <| zt <| zL ?_
                  exact ⟨⟨(rfl : toAV (Al.look _ _) = some _).trans (congrArg some (by (exact congrArg iv (by unfold leftS; first | (rw [if_pos (by omega)]; done) | (rw [if_neg (by omega), g4, gfin]; done) | (rw [if_neg (by omega), g4, wC hi2 (by omega) hk2]; done) | (rw [if_neg (by omega), h4, wB hi (by omega) hk]; exact (xJ _ (by omega)).symm))))), rfl⟩, trivial⟩
                · have hk : ¬ ((nthE s.events i).name.size : Int) > m := of_decide_eq_false hb7
                  refine zO <| zA <| yX xb <| g_u (zG rfl rfl fa63_9 rfl) <| g_u (zH rfl rfl rfl tA58 tS58 rfl rfl) <| g_u (zC rfl rfl) ?_
                  refine g_u (zR rfl rfl rfl Tryz.underlying58 tS92 (by omega) (ixE hi)) ?_
                  refine g_u (zW rfl rfl fa92_2 rfl rfl) <| g_u (z_ rfl rfl tA44 tS44 rfl rfl) <| g_u (zC rfl rfl) <| g_u (vB rfl rfl rfl) <| g_u (zG rfl rfl fa63_9 rfl) <| g_u (zH rfl rfl rfl tA58 tS58 rfl rfl) <| g_u (zC rfl rfl) ?_
                  refine g_u (zR rfl rfl rfl Tryz.underlying58 tS92 (by omega) (ixE hi)) ?_
                  refine g_u (zW rfl rfl fa92_1 rfl rfl) <| g_u (z_ rfl rfl tA9 tS9 rfl rfl) <| g_u (yf rfl rfl Tryz.underlying9) <| g_u (vB rfl rfl rfl) ?_
                  refine g_u (zQ (leftAs_c _ _ ⟨by ((try simp only [decide_eq_true_eq, decide_eq_false_iff_not, qc, ne_eq, beq_iff_eq, qd, beq_eq_false_iff_ne, Bool.not_eq_true', Bool.not_eq_false', gt_iff_lt, ge_iff_le] at *); (repeat simp (disch := omega) only [zK, za] at *)); omega, by ((try simp only [decide_eq_true_eq, decide_eq_false_iff_not, qc, ne_eq, beq_iff_eq, qd, beq_eq_false_iff_ne, Bool.not_eq_true', Bool.not_eq_false', gt_iff_lt, ge_iff_le] at *); (repeat simp (disch := omega) only [zK, za] at *)); omega⟩) rfl rfl) ?_
                  refine g_u (zE rfl rfl) ?_
                  refine zF ⟨by kernel_rfl, ?_⟩
                  refine zY <| zA <| zB <| g_u (zC rfl rfl) <| g_u (zz rfl rfl rfl) <| g_u (zE rfl rfl) <| zF <| zA ?_
                  have ed := leftE_drop (m := m) hi (by omega) hk
                  have bl := wG (nthE s.events i).attrs (m - 1 - (nthE s.events i).name.size)
                  refine ⟨⟨i + 1, yK (nthE s.events i).attrs (m - 1 - (nthE s.events i).name.size)⟩, ⟨hi, ⟨by dsimp only; omega, by dsimp only; omega⟩, by dsimp only; omega, by dsimp only; rw [h4, ed]⟩, ⟨rfl, rfl, zZ rfl (by dsimp only; rw [zK (n := m - 1) (by omega) (by omega), zK (by omega) (by omega)]), zZ rfl (by rw [zK (by omega) (by omega)]; rfl), trivial⟩, by dsimp only; omega⟩
              · have hs : m < 0 := by have := of_decide_eq_false hb6; omega
                have hm : leftE s.events (yK s.attrs (n - 1 - s.state.size - s.name.size - s.note.size)) = m := by rw [h4]; exact leftE_neg _ hs
                refine z7 <| zT <| zT <| zq <| zA <| zD <| zD <| zB <| g_u (zE rfl rfl) <| zF <| zA <| zV ?_
                refine zu (fun j : Nat × Int => [(2, .ptr 1002 0), (1002, .box 63 (.imm s.av)), (1, .imm (iv j.2)), (6, .imm (iv (j.1 : Int)))]) (fun j => j.1 ≤ s.links.length ∧ (-1000000000000 ≤ j.2 ∧ j.2 ≤ 1000000000) ∧ ((j.1 : Int) ≤ leftE s.events (yK s.attrs (n - 1 - s.state.size - s.name.size - s.note.size)) - j.2) ∧ leftL s.links (leftE s.events (yK s.attrs (n - 1 - s.state.size - s.name.size - s.note.size))) = leftL (s.links.drop j.1) j.2) (fun j => s.links.length - j.1) (⟨0, m⟩) ?_ ⟨rfl, rfl, rfl, rfl, trivial⟩ ?_
                · exact ⟨Nat.zero_le _, h2, by rw [hm]; simp, by rw [hm]; rfl⟩
                · rintro ⟨i2, m2⟩ ⟨g1, g2, g3, g4⟩; dsimp only at g1 g2 g3 g4
                  refine zD <| zD <| zB <| g_u (zC rfl rfl) <| g_u (zG rfl rfl fa63_10 rfl) <| g_u (zH rfl rfl rfl tA59 tS59 rfl rfl) <| g_u (yJ rfl rfl Tryz.underlying59) <| g_u (y_ rfl rfl rfl) <| g_u (zC rfl rfl) <| yP (t := 91) rfl ?_
                  rintro (hb8 | hb8)
                  · rw [hb8]
                    have hi2 : i2 < s.links.length := by have := of_decide_eq_true hb8; (try simp only [List.length_map] at this); omega
                    refine zf rfl rfl (zC rfl rfl) <| zf rfl rfl (s_geI rfl rfl rfl) <| g_u (zk rfl rfl rfl) <| zF <| zA ?_
                    refine zN rfl (fun hb9 => ?_) (fun hb9 => ?_)
                    · have hs2 : ¬ m2 < 0 := by have := of_decide_eq_true hb9; omega
                      refine zO <| zA <| zD <| zV <| zD <| zD <| zB <| g_u (zG rfl rfl fa63_10 rfl) <| g_u (zH rfl rfl rfl tA59 tS59 rfl rfl) <| g_u (zC rfl rfl) ?_
                      refine g_u (zR rfl rfl rfl Tryz.underlying59 tS94 (by omega) (ixL hi2)) ?_
                      refine g_u (zW rfl rfl fa94_2 rfl rfl) <| g_u (z_ rfl rfl tA9 tS9 rfl rfl) <| g_u (yf rfl rfl Tryz.underlying9) <| g_u (zC rfl rfl) <| g_u (xu rfl rfl rfl) <| zF <| zA ?_
                      refine zN rfl (fun hb10 => ?_) (fun hb10 => ?_)
                      · have hk2 : ((nthL s.links i2).state.size : Int) > m2 := of_decide_eq_true hb10
                        refine zD <| zB <| g_u (zE rfl rfl) <| zF <| zA <| zM <| zL <| zt <| zL <| zL <| zt <| zL ?_
                        exact ⟨⟨(rfl : toAV (Al.look _ _) = some _).trans (congrArg some (by (exact congrArg iv (by unfold leftS; first | (rw [if_pos (by omega)]; done) | (rw [if_neg (by omega), g4, gfin]; done) | (rw [if_neg (by omega), g4, wC hi2 (by omega) hk2]; done) | (rw [if_neg (by omega), h4, wB hi (by omega) hk]; exact (xJ _ (by omega)).symm))))), rfl⟩, trivial⟩
                      · have hk2 : ¬ ((nthL s.links i2).state.size : Int) > m2 := of_decide_eq_false hb10
                        refine zO <| zA <| yX xb <| g_u (zG rfl rfl fa63_10 rfl) <| g_u (zH rfl rfl rfl tA59 tS59 rfl rfl) <| g_u (zC rfl rfl) ?_
                        refine g_u (zR rfl rfl rfl Tryz.underlying59 tS94 (by omega) (ixL hi2)) ?_
                        refine g_u (zW rfl rfl fa94_3 rfl rfl) <| g_u (z_ rfl rfl tA44 tS44 rfl rfl) <| g_u (zC rfl rfl) <| g_u (vB rfl rfl rfl) <| g_u (zG rfl rfl fa63_10 rfl) <| g_u (zH rfl rfl rfl tA59 tS59 rfl rfl) <| g_u (zC rfl rfl) ?_
                        refine g_u (zR rfl rfl rfl Tryz.underlying59 tS94 (by omega) (ixL hi2)) ?_
                        refine g_u (zW rfl rfl fa94_2 rfl rfl) <| g_u (z_ rfl rfl tA9 tS9 rfl rfl) <| g_u (yf rfl rfl Tryz.underlying9) <| g_u (vB rfl rfl rfl) ?_
                        refine g_u (zQ (leftAs_c _ _ ⟨by ((try simp only [decide_eq_true_eq, decide_eq_false_iff_not, qc, ne_eq, beq_iff_eq, qd, beq_eq_false_iff_ne, Bool.not_eq_true', Bool.not_eq_false', gt_iff_lt, ge_iff_le] at *); (repeat simp (disch := omega) only [zK, za] at *)); omega, by ((try simp only [decide_eq_true_eq, decide_eq_false_iff_not, qc, ne_eq, beq_iff_eq, qd, beq_eq_false_iff_ne, Bool.not_eq_true', Bool.not_eq_false', gt_iff_lt, ge_iff_le] at *); (repeat simp (disch := omega) only [zK, za] at *)); omega⟩) rfl rfl) ?_
                        refine g_u (zE rfl rfl) ?_
                        refine zF ⟨by kernel_rfl, ?_⟩
                        refine zY <| zA <| zB <| g_u (zC rfl rfl) <| g_u (zz rfl rfl rfl) <| g_u (zE rfl rfl) <| zF <| zA ?_
                        have ed := leftL_drop (m := m2) hi2 (by omega) hk2
                        have bl := wG (nthL s.links i2).attrs (m2 - 1 - (nthL s.links i2).state.size)
                        refine ⟨⟨i2 + 1, yK (nthL s.links i2).attrs (m2 - 1 - (nthL s.links i2).state.size)⟩, ⟨hi2, ⟨by dsimp only; omega, by dsimp only; omega⟩, by dsimp only; omega, by dsimp only; rw [g4, ed]⟩, ⟨rfl, rfl, zZ rfl (by dsimp only; rw [zK (n := m2 - 1) (by omega) (by omega), zK (by omega) (by omega)]), zZ rfl (by rw [zK (by omega) (by omega)]; rfl), trivial⟩, by dsimp only; omega⟩
                    · have hs2 : m2 < 0 := by have := of_decide_eq_false hb9; omega
                      have gfin : leftL (s.links.drop i2) m2 = m2 := xJ _ hs2
                      refine z7 <| zT <| zT <| zq <| zA <| zD <| zB <| g_u (zC rfl rfl) <| g_u (zE rfl rfl) <| zF <| zA <| zM ?_
                      exact ⟨⟨(rfl : toAV (Al.look _ _) = some _).trans (congrArg some (by (exact congrArg iv (by unfold leftS; first | (rw [if_pos (by omega)]; done) | (rw [if_neg (by omega), g4, gfin]; done) | (rw [if_neg (by omega), g4, wC hi2 (by omega) hk2]; done) | (rw [if_neg (by omega), h4, wB hi (by omega) hk]; exact (xJ _ (by omega)).symm))))), rfl⟩, trivial⟩
                  · rw [hb8]
                    have hin2 : i2 = s.links.length := by have := of_decide_eq_false hb8; (try simp only [List.length_map] at this); omega
                    have gfin : leftL (s.links.drop i2) m2 = m2 := by rw [hin2, List.drop_length]; rfl
                    refine zP rfl rfl rfl <| zP rfl rfl rfl <| g_u (zr rfl rfl rfl) <| zF <| zA <| z8 rfl <| z7 <| zT <| zT <| zq <| zA <| zD <| zB <| g_u (zC rfl rfl) <| g_u (zE rfl rfl) <| zF <| zA <| zM ?_
                    exact ⟨⟨(rfl : toAV (Al.look _ _) = some _).trans (congrArg some (by (exact congrArg iv (by unfold leftS; first | (rw [if_pos (by omega)]; done) | (rw [if_neg (by omega), g4, gfin]; done) | (rw [if_neg (by omega), g4, wC hi2 (by omega) hk2]; done) | (rw [if_neg (by omega), h4, wB hi (by omega) hk]; exact (xJ _ (by omega)).symm))))), rfl⟩, trivial⟩
            · rw [hb5]
              have hin : i = s.events.length := by have := of_decide_eq_false hb5; (try simp only [List.length_map] at this); omega
              have hm : leftE s.events (yK s.attrs (n - 1 - s.state.size - s.name.size - s.note.size)) = m := by rw [h4, hin, List.drop_length]; rfl
              refine zP rfl rfl rfl <| zP rfl rfl rfl <| g_u (zr rfl rfl rfl) <| zF <| zA <| z8 rfl <| z7 <| zT <| zT <| zq <| zA <| zD <| zD <| zB <| g_u (zE rfl rfl) <| zF <| zA <| zV ?_
              refine zu (fun j : Nat × Int => [(2, .ptr 1002 0), (1002, .box 63 (.imm s.av)), (1, .imm (iv j.2)), (6, .imm (iv (j.1 : Int)))]) (fun j => j.1 ≤ s.links.length ∧ (-1000000000000 ≤ j.2 ∧ j.2 ≤ 1000000000) ∧ ((j.1 : Int) ≤ leftE s.events (yK s.attrs (n - 1 - s.state.size - s.name.size - s.note.size)) - j.2) ∧ leftL s.links (leftE s.events (yK s.attrs (n - 1 - s.state.size - s.name.size - s.note.size))) = leftL (s.links.drop j.1) j.2) (fun j => s.links.length - j.1) (⟨0, m⟩) ?_ ⟨rfl, rfl, rfl, rfl, trivial⟩ ?_
              · exact ⟨Nat.zero_le _, h2, by rw [hm]; simp, by rw [hm]; rfl⟩
              · rintro ⟨i2, m2⟩ ⟨g1, g2, g3, g4⟩; dsimp only at g1 g2 g3 g4
                refine zD <| zD <| zB <| g_u (zC rfl rfl) <| g_u (zG rfl rfl fa63_10 rfl) <| g_u (zH rfl rfl rfl tA59 tS59 rfl rfl) <| g_u (yJ rfl rfl Tryz.underlying59) <| g_u (y_ rfl rfl rfl) <| g_u (zC rfl rfl) <| yP (t := 91) rfl ?_
                rintro (hb11 | hb11)
                · rw [hb11]
                  have hi2 : i2 < s.links.length := by have := of_decide_eq_true hb11; (try simp only [List.length_map] at this); omega
                  refine zf rfl rfl (zC rfl rfl) <| zf rfl rfl (s_geI rfl rfl rfl) <| g_u (zk rfl rfl rfl) <| zF <| zA ?_
                  refine zN rfl (fun hb12 => ?_) (fun hb12 => ?_)
                  · have hs2 : ¬ m2 < 0 := by have := of_decide_eq_true hb12; omega
                    refine zO <| zA <| zD <| zV <| zD <| zD <| zB <| g_u (zG rfl rfl fa63_10 rfl) <| g_u (zH rfl rfl rfl tA59 tS59 rfl rfl) <| g_u (zC rfl rfl) ?_
                    refine g_u (zR rfl rfl rfl Tryz.underlying59 tS94 (by omega) (ixL hi2)) ?_
                    refine g_u (zW rfl rfl fa94_2 rfl rfl) <| g_u (z_ rfl rfl tA9 tS9 rfl rfl) <| g_u (yf rfl rfl Tryz.underlying9) <| g_u (zC rfl rfl) <| g_u (xu rfl rfl rfl) <| zF <| zA ?_
                    refine zN rfl (fun hb13 => ?_) (fun hb13 => ?_)
                    · have hk2 : ((nthL s.links i2).state.size : Int) > m2 := of_decide_eq_true hb13
                      refine zD <| zB <| g_u (zE rfl rfl) <| zF <| zA <| zM <| zL <| zt <| zL <| zL <| zt <| zL ?_
                      exact ⟨⟨(rfl : toAV (Al.look _ _) = some _).trans (congrArg some (by (exact congrArg iv (by unfold leftS; first | (rw [if_pos (by omega)]; done) | (rw [if_neg (by omega), g4, gfin]; done) | (rw [if_neg (by omega), g4, wC hi2 (by omega) hk2]; done) | (rw [if_neg (by omega), h4, wB hi (by omega) hk]; exact (xJ _ (by omega)).symm))))), rfl⟩, trivial⟩
                    · have hk2 : ¬ ((nthL s.links i2).state.size : Int) > m2 := of_decide_eq_false hb13
                      refine zO <| zA <| yX xb <| g_u (zG rfl rfl fa63_10 rfl) <| g_u (zH rfl rfl rfl tA59 tS59 rfl rfl) <| g_u (zC rfl rfl) ?_
                      refine g_u (zR rfl rfl rfl Tryz.underlying59 tS94 (by omega) (ixL hi2)) ?_
                      refine g_u (zW rfl rfl fa94_3 rfl rfl) <| g_u (z_ rfl rfl tA44 tS44 rfl rfl) <| g_u (zC rfl rfl) <| g_u (vB rfl rfl rfl) <| g_u (zG rfl rfl fa63_10 rfl) <| g_u (zH rfl rfl rfl tA59 tS59 rfl rfl) <| g_u (zC rfl rfl) ?_
                      refine g_u (zR rfl rfl rfl Tryz.underlying59 tS94 (by omega) (ixL hi2)) ?_
                      refine g_u (zW rfl rfl fa94_2 rfl rfl) <| g_u (z_ rfl rfl tA9 tS9 rfl rfl) <| g_u (yf rfl rfl Tryz.underlying9) <| g_u (vB rfl rfl rfl) ?_
                      refine g_u (zQ (leftAs_c _ _ ⟨by ((try simp only [decide_eq_true_eq, decide_eq_false_iff_not, qc, ne_eq, beq_iff_eq, qd, beq_eq_false_iff_ne, Bool.not_eq_true', Bool.not_eq_false', gt_iff_lt, ge_iff_le] at *); (repeat simp (disch := omega) only [zK, za] at *)); omega, by ((try simp only [decide_eq_true_eq, decide_eq_false_iff_not, qc, ne_eq, beq_iff_eq, qd, beq_eq_false_iff_ne, Bool.not_eq_true', Bool.not_eq_false', gt_iff_lt, ge_iff_le] at *); (repeat simp (disch := omega) only [zK, za] at *)); omega⟩) rfl rfl) ?_
                      refine g_u (zE rfl rfl) ?_
                      refine zF ⟨by kernel_rfl, ?_⟩
                      refine zY <| zA <| zB <| g_u (zC rfl rfl) <| g_u (zz rfl rfl rfl) <| g_u (zE rfl rfl) <| zF <| zA ?_
                      have ed := leftL_drop (m := m2) hi2 (by omega) hk2
                      have bl := wG (nthL s.links i2).attrs (m2 - 1 - (nthL s.links i2).state.size)
                      refine ⟨⟨i2 + 1, yK (nthL s.links i2).attrs (m2 - 1 - (nthL s.links i2).state.size)⟩, ⟨hi2, ⟨by dsimp only; omega, by dsimp only; omega⟩, by dsimp only; omega, by dsimp only; rw [g4, ed]⟩, ⟨rfl, rfl, zZ rfl (by dsimp only; rw [zK (n := m2 - 1) (by omega) (by omega), zK (by omega) (by omega)]), zZ rfl (by rw [zK (by omega) (by omega)]; rfl), trivial⟩, by dsimp only; omega⟩
                  · have hs2 : m2 < 0 := by have := of_decide_eq_false hb12; omega
                    have gfin : leftL (s.links.drop i2) m2 = m2 := xJ _ hs2
                    refine z7 <| zT <| zT <| zq <| zA <| zD <| zB <| g_u (zC rfl rfl) <| g_u (zE rfl rfl) <| zF <| zA <| zM ?_
                    exact ⟨⟨(rfl : toAV (Al.look _ _) = some _).trans (congrArg some (by (exact congrArg iv (by unfold leftS; first | (rw [if_pos (by omega)]; done) | (rw [if_neg (by omega), g4, gfin]; done) | (rw [if_neg (by omega), g4, wC hi2 (by omega) hk2]; done) | (rw [if_neg (by omega), h4, wB hi (by omega) hk]; exact (xJ _ (by omega)).symm))))), rfl⟩, trivial⟩
                · rw [hb11]
                  have hin2 : i2 = s.links.length := by have := of_decide_eq_false hb11; (try simp only [List.length_map] at this); omega
                  have gfin : leftL (s.links.drop i2) m2 = m2 := by rw [hin2, List.drop_length]; rfl
                  refine zP rfl rfl rfl <| zP rfl rfl rfl <| g_u (zr rfl rfl rfl) <| zF <| zA <| z8 rfl <| z7 <| zT <| zT <| zq <| zA <| zD <| zB <| g_u (zC rfl rfl) <| g_u (zE rfl rfl) <| zF <| zA <| zM ?_
                  exact ⟨⟨(rfl : toAV (Al.look _ _) = some _).trans (congrArg some (by (exact congrArg iv (by unfold leftS; first | (rw [if_pos (by omega)]; done) | (rw [if_neg (by omega), g4, gfin]; done) | (rw [if_neg (by omega), g4, wC hi2 (by omega) hk2]; done) | (rw [if_neg (by omega), h4, wB hi (by omega) hk]; exact (xJ _ (by omega)).symm))))), rfl⟩, trivial⟩
end Go.Proofs
namespace Go.Proofs
open Go Go.Al
theorem leftE_bd : ∀ (es : List GE) (m : Int), leftE es m ≤ m ∧ (0 ≤ m → -1 ≤ leftE es m)
  | [], m => ⟨Int.le_refl _, fun h => by simp only [leftE]; omega⟩
  | e :: es, m => by
    rw [leftE]
    split
    · exact ⟨Int.le_refl _, fun h => by omega⟩
    split
    · exact ⟨by omega, fun h => by omega⟩
    rename_i h1 h2
    have b := wG e.attrs (m - 1 - e.name.size)
    have c := leftE_bd es (yK e.attrs (m - 1 - e.name.size))
    refine ⟨by omega, fun h => ?_⟩
    rcases Int.lt_or_le (yK e.attrs (m - 1 - e.name.size)) 0 with h3 | h3
    · rw [leftE_neg _ h3]; omega
    · exact c.2 h3
theorem leftL_bd : ∀ (es : List GL) (m : Int), leftL es m ≤ m ∧ (0 ≤ m → -1 ≤ leftL es m)
  | [], m => ⟨Int.le_refl _, fun h => by simp only [leftL]; omega⟩
  | e :: es, m => by
    rw [leftL]
    split
    · exact ⟨Int.le_refl _, fun h => by omega⟩
    split
    · exact ⟨by omega, fun h => by omega⟩
    rename_i h1 h2
    have b := wG e.attrs (m - 1 - e.state.size)
    have c := leftL_bd es (yK e.attrs (m - 1 - e.state.size))
    refine ⟨by omega, fun h => ?_⟩
    rcases Int.lt_or_le (yK e.attrs (m - 1 - e.state.size)) 0 with h3 | h3
    · rw [xJ _ h3]; omega
    · exact c.2 h3
theorem leftS_bd (s : GSpan) {n : Int} (h : 0 ≤ n) : leftS s n ≤ n - 1 ∧ -(2 * n) - 1 ≤ leftS s n := by
  unfold leftS
  split
  · omega
  rename_i h1
  have a := wG s.attrs (n - 1 - s.state.size - s.name.size - s.note.size)
  generalize yK s.attrs (n - 1 - s.state.size - s.name.size - s.note.size) = m at a ⊢
  have b := leftE_bd s.events m
  have b2 := fun h => leftE_neg s.events (m := m) h
  generalize leftE s.events m = p at b b2 ⊢
  have c := leftL_bd s.links p
  have c2 := fun h => xJ s.links (m := p) h
  generalize leftL s.links p = q at c c2 ⊢
  omega
theorem leftSp_bd : ∀ (es : List GSpan) (m : Int), wK es m ≤ m ∧ (0 ≤ m → -(2 * m) - 1 ≤ wK es m)
  | [], m => ⟨Int.le_refl _, fun h => by simp only [wK]; omega⟩
  | e :: es, m => by
    rw [wK]
    split
    · exact ⟨Int.le_refl _, fun h => by omega⟩
    rename_i h1
    have b := leftS_bd e (n := m) (by omega)
    have c := leftSp_bd es (leftS e m)
    have d := fun h => leftSp_neg es (m := leftS e m) h
    generalize wK es (leftS e m) = q at *
    omega
theorem leftC_bd : ∀ (es : List GScope) (m : Int), leftC es m ≤ m ∧ (0 ≤ m → -(2 * m) - 1 ≤ leftC es m)
  | [], m => ⟨Int.le_refl _, fun h => by simp only [leftC]; omega⟩
  | e :: es, m => by
    rw [leftC]
    split
    · exact ⟨Int.le_refl _, fun h => by omega⟩
    split
    · exact ⟨by omega, fun h => by omega⟩
    rename_i h1 h2
    have b := leftSp_bd e.spans (m - 1 - e.name.size - e.version.size)
    have b2 := fun h => leftSp_neg e.spans (m := m - 1 - e.name.size - e.version.size) h
    generalize wK e.spans (m - 1 - e.name.size - e.version.size) = p at *
    have c := leftC_bd es p
    have d := fun h => leftC_neg es (m := p) h
    generalize leftC es p = q at *
    omega
theorem leftR_le {b : List GRes} {n : Int} (h : ¬ leftR b n < 0) : (wtB b : Int) ≤ n := by have := leftR_wt b (m := n) (by omega); omega
end Go.Proofs
