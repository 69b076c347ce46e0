/- Texts that the proofs of this claim share, part 4: the abstract logic, plain Lean on values and batches, and walks. No condition but those typed in each lemma. -/
import Derived.Test.YtiolofgnkkhjoaaGreatDoorR3
set_option linter.unusedSimpArgs false
set_option linter.unusedVariables false
set_option maxHeartbeats 400000
namespace Go.Proofs
open Go Go.Al
set_option maxRecDepth 10000
theorem rquote_c (s : ByteArray) (hs : s.size ≤ 100000000000) : zn Tryz.prog Γ0 135 [sv s] [sv (yF (vZ (lst s)))] := by
  have hz := yE s
  have c1 : (ByteArray.mk #[92]).size = 1 := rfl
  have c4 : (ByteArray.mk #[92, 117, 48, 48]).size = 4 := rfl
  have c0 : (ByteArray.mk #[34]).size = 1 := rfl
  refine z_ Tryz.func135 rfl Tryz.ntmps135 (by kernel_rfl) rfl fun w0 I0 G0 => ?_
  refine zD <| zB <| g_u (zE rfl rfl) <| zH <| zA <| zD <| zB <| g_u (zE rfl rfl) <| zH <| zA <| zD <| zD <| zB <| g_u (zE rfl rfl) <| zH <| zA <| zU ?_
  refine zw (fun j : Nat × ByteArray => [(0, .imm (sv s)), (3, .imm (sv j.2)), (4, .imm (iv (j.1 : Int)))]) (fun j => j.1 ≤ s.size ∧ lst j.2 = 34 :: escs ((lst s).take j.1)) (fun j => s.size - j.1) (⟨0, ⟨#[34]⟩⟩) ?_ ⟨rfl, rfl, rfl, trivial⟩ ?_
  · exact ⟨Nat.zero_le _, rfl⟩
  · rintro ⟨i, t⟩ ⟨h1, h2⟩; dsimp only at h1 h2; have hlen : t.size ≤ 1 + 6 * s.size := by have := tn ((lst s).take i); rw [← yE t, h2, List.length_cons]; rw [List.length_take] at this; omega
    have e2 : i < s.size → (IntKind.i64.wrap ((i : Int) + 1)).toNat = i + 1 := fun h => by rw [zO (by omega) (by omega)]; omega
    have hx : (i : Int) < (s.size : Int) → (s.extract (i : Int).toNat (IntKind.i64.wrap ((i : Int) + 1)).toNat).size = 1 := fun h => by rw [e2 (by omega), Int.toNat_natCast]; exact ex1_size (by omega)
    refine zD <| zD <| zB <| g_u (zC rfl rfl) <| g_u (zC rfl rfl) <| g_u (yp rfl rfl Tryz.underlying9) <| g_u (ye rfl rfl rfl) <| zH <| zA ?_
    refine zN rfl (fun hb1 => ?_) (fun hb1 => ?_)
    · refine zQ ?_
      refine zA <| zD <| zU <| zD <| zD <| zB <| g_u (zC rfl rfl) <| g_u (zC rfl rfl) ?_
      refine g_u (sN rfl rfl rfl Tryz.underlying9 (by ((try simp only [decide_eq_true_eq, decide_eq_false_iff_not, bne_iff_ne, ne_eq, beq_iff_eq, qd, beq_eq_false_iff_ne, Bool.not_eq_true', Bool.not_eq_false', gt_iff_lt, ge_iff_le] at *); (repeat simp (disch := omega) only [zO, zi] at *)); omega)) ?_
      refine g_u (yz rfl rfl rfl) <| g_u (zC rfl rfl) <| yB (t := 15) rfl ?_
      rintro (hb2 | hb2)
      · rw [hb2]
        refine zI rfl rfl rfl <| zI rfl rfl rfl <| zI rfl rfl rfl <| zI rfl rfl rfl <| g_u (zZ rfl rfl rfl) <| zH <| zA <| zs rfl <| zB <| g_u (zC rfl rfl) ?_
        refine g_u (y5 rfl rfl rfl (by show _ ≤ (9223372036854775807 : Int); (try dsimp only); first | (simp only [zo, c0, c1, c4]; omega) | (have q := hx (of_decide_eq_true hb1); simp only [zo, ze, yG, yE, q, c1, c4]; omega))) ?_
        refine g_u (zE rfl rfl) <| zH <| zA <| zD <| zB <| g_u (zC rfl rfl) <| g_u (zC rfl rfl) ?_
        refine g_u (sN rfl rfl rfl Tryz.underlying9 (by ((try simp only [decide_eq_true_eq, decide_eq_false_iff_not, bne_iff_ne, ne_eq, beq_iff_eq, qd, beq_eq_false_iff_ne, Bool.not_eq_true', Bool.not_eq_false', gt_iff_lt, ge_iff_le] at *); (repeat simp (disch := omega) only [zO, zi] at *)); omega)) ?_
        refine g_u (ye rfl rfl rfl) <| zH <| zA ?_
        refine zN rfl (fun hb3 => ?_) (fun hb3 => ?_)
        · refine zB ?_
          refine g_u (zC rfl rfl) ?_
          refine g_u (y5 rfl rfl rfl (by show _ ≤ (9223372036854775807 : Int); (try dsimp only); first | (simp only [zo, c0, c1, c4]; omega) | (have q := hx (of_decide_eq_true hb1); simp only [zo, ze, yG, yE, q, c1, c4]; omega))) ?_
          refine g_u (zC rfl rfl) <| g_u (zC rfl rfl) <| g_u (zC rfl rfl) <| g_u (z0 rfl rfl rfl) ?_
          refine g_u (jc rfl rfl rfl rfl Tryz.underlying9 (by ((try simp only [decide_eq_true_eq, decide_eq_false_iff_not, bne_iff_ne, ne_eq, beq_iff_eq, qd, beq_eq_false_iff_ne, Bool.not_eq_true', Bool.not_eq_false', gt_iff_lt, ge_iff_le] at *); (repeat simp (disch := omega) only [zO, zi] at *)); omega)) ?_
          refine g_u (zP (rhex_c _ (by have q := hx (of_decide_eq_true hb1); (try dsimp only); omega)) rfl rfl) ?_
          refine g_u (y5 rfl rfl rfl (by show _ ≤ (9223372036854775807 : Int); (try dsimp only); first | (simp only [zo, c0, c1, c4]; omega) | (have q := hx (of_decide_eq_true hb1); simp only [zo, ze, yG, yE, q, c1, c4]; omega))) ?_
          refine g_u (zE rfl rfl) <| zH <| zW <| zA <| zB <| g_u (zC rfl rfl) <| g_u (z0 rfl rfl rfl) <| g_u (zE rfl rfl) <| zH <| zA ?_
          change decide ((i : Int) < (s.size : Int)) = true at hb1
          have hi : i < s.size := by have := of_decide_eq_true hb1; omega
          obtain ⟨c, hc1, hc2⟩ := vj s i hi
          refine ⟨⟨i + 1, _⟩, ⟨hi, ?_⟩, ⟨rfl, rfl, zX rfl (by rw [zO (by omega) (by omega)]; rfl), trivial⟩, by dsimp only; omega⟩
          dsimp only at *
          rw [yO hc1, wx, ← List.cons_append, ← h2, e2 hi, Int.toNat_natCast]
          simp only [beq_iff_eq, beq_eq_false_iff_ne, ne_eq, decide_eq_true_eq, decide_eq_false_iff_not] at *
          first | (exfalso; omega) | exact resc1 hc1 (.inl (by omega)) | exact resc1 hc1 (.inr (by omega)) | exact resc2 hc1 (by omega) (by omega) (by omega) | exact resc3 hc1 (by omega) (by omega) (by omega)
        · refine zB ?_
          refine g_u (zC rfl rfl) <| g_u (zC rfl rfl) <| g_u (zC rfl rfl) <| g_u (zC rfl rfl) <| g_u (z0 rfl rfl rfl) ?_
          refine g_u (jc rfl rfl rfl rfl Tryz.underlying9 (by ((try simp only [decide_eq_true_eq, decide_eq_false_iff_not, bne_iff_ne, ne_eq, beq_iff_eq, qd, beq_eq_false_iff_ne, Bool.not_eq_true', Bool.not_eq_false', gt_iff_lt, ge_iff_le] at *); (repeat simp (disch := omega) only [zO, zi] at *)); omega)) ?_
          refine g_u (y5 rfl rfl rfl (by show _ ≤ (9223372036854775807 : Int); (try dsimp only); first | (simp only [zo, c0, c1, c4]; omega) | (have q := hx (of_decide_eq_true hb1); simp only [zo, ze, yG, yE, q, c1, c4]; omega))) ?_
          refine g_u (zE rfl rfl) <| zH <| zW <| zA <| zB <| g_u (zC rfl rfl) <| g_u (z0 rfl rfl rfl) <| g_u (zE rfl rfl) <| zH <| zA ?_
          change decide ((i : Int) < (s.size : Int)) = true at hb1
          have hi : i < s.size := by have := of_decide_eq_true hb1; omega
          obtain ⟨c, hc1, hc2⟩ := vj s i hi
          refine ⟨⟨i + 1, _⟩, ⟨hi, ?_⟩, ⟨rfl, rfl, zX rfl (by rw [zO (by omega) (by omega)]; rfl), trivial⟩, by dsimp only; omega⟩
          dsimp only at *
          rw [yO hc1, wx, ← List.cons_append, ← h2, e2 hi, Int.toNat_natCast]
          simp only [beq_iff_eq, beq_eq_false_iff_ne, ne_eq, decide_eq_true_eq, decide_eq_false_iff_not] at *
          first | (exfalso; omega) | exact resc1 hc1 (.inl (by omega)) | exact resc1 hc1 (.inr (by omega)) | exact resc2 hc1 (by omega) (by omega) (by omega) | exact resc3 hc1 (by omega) (by omega) (by omega)
      · rw [hb2]
        refine zY rfl rfl (zC rfl rfl) <| zY rfl rfl (zC rfl rfl) ?_
        refine zY rfl rfl (sN rfl rfl rfl Tryz.underlying9 (by ((try simp only [decide_eq_true_eq, decide_eq_false_iff_not, bne_iff_ne, ne_eq, beq_iff_eq, qd, beq_eq_false_iff_ne, Bool.not_eq_true', Bool.not_eq_false', gt_iff_lt, ge_iff_le] at *); (repeat simp (disch := omega) only [zO, zi] at *)); omega)) ?_
        refine zY rfl rfl (yz rfl rfl rfl) <| g_u (zh rfl rfl rfl) <| zH <| zA ?_
        refine zN rfl (fun hb4 => ?_) (fun hb4 => ?_)
        · refine zB ?_
          refine g_u (zC rfl rfl) ?_
          refine g_u (y5 rfl rfl rfl (by show _ ≤ (9223372036854775807 : Int); (try dsimp only); first | (simp only [zo, c0, c1, c4]; omega) | (have q := hx (of_decide_eq_true hb1); simp only [zo, ze, yG, yE, q, c1, c4]; omega))) ?_
          refine g_u (zE rfl rfl) <| zH <| zA <| zD <| zB <| g_u (zC rfl rfl) <| g_u (zC rfl rfl) ?_
          refine g_u (sN rfl rfl rfl Tryz.underlying9 (by ((try simp only [decide_eq_true_eq, decide_eq_false_iff_not, bne_iff_ne, ne_eq, beq_iff_eq, qd, beq_eq_false_iff_ne, Bool.not_eq_true', Bool.not_eq_false', gt_iff_lt, ge_iff_le] at *); (repeat simp (disch := omega) only [zO, zi] at *)); omega)) ?_
          refine g_u (ye rfl rfl rfl) <| zH <| zA ?_
          refine zN rfl (fun hb5 => ?_) (fun hb5 => ?_)
          · refine zB ?_
            refine g_u (zC rfl rfl) ?_
            refine g_u (y5 rfl rfl rfl (by show _ ≤ (9223372036854775807 : Int); (try dsimp only); first | (simp only [zo, c0, c1, c4]; omega) | (have q := hx (of_decide_eq_true hb1); simp only [zo, ze, yG, yE, q, c1, c4]; omega))) ?_
            refine g_u (zC rfl rfl) <| g_u (zC rfl rfl) <| g_u (zC rfl rfl) <| g_u (z0 rfl rfl rfl) ?_
            refine g_u (jc rfl rfl rfl rfl Tryz.underlying9 (by ((try simp only [decide_eq_true_eq, decide_eq_false_iff_not, bne_iff_ne, ne_eq, beq_iff_eq, qd, beq_eq_false_iff_ne, Bool.not_eq_true', Bool.not_eq_false', gt_iff_lt, ge_iff_le] at *); (repeat simp (disch := omega) only [zO, zi] at *)); omega)) ?_
            refine g_u (zP (rhex_c _ (by have q := hx (of_decide_eq_true hb1); (try dsimp only); omega)) rfl rfl) ?_
            refine g_u (y5 rfl rfl rfl (by show _ ≤ (9223372036854775807 : Int); (try dsimp only); first | (simp only [zo, c0, c1, c4]; omega) | (have q := hx (of_decide_eq_true hb1); simp only [zo, ze, yG, yE, q, c1, c4]; omega))) ?_
            refine g_u (zE rfl rfl) <| zH <| zW <| zA <| zB <| g_u (zC rfl rfl) <| g_u (z0 rfl rfl rfl) <| g_u (zE rfl rfl) <| zH <| zA ?_
            change decide ((i : Int) < (s.size : Int)) = true at hb1
            have hi : i < s.size := by have := of_decide_eq_true hb1; omega
            obtain ⟨c, hc1, hc2⟩ := vj s i hi
            refine ⟨⟨i + 1, _⟩, ⟨hi, ?_⟩, ⟨rfl, rfl, zX rfl (by rw [zO (by omega) (by omega)]; rfl), trivial⟩, by dsimp only; omega⟩
            dsimp only at *
            rw [yO hc1, wx, ← List.cons_append, ← h2, e2 hi, Int.toNat_natCast]
            simp only [beq_iff_eq, beq_eq_false_iff_ne, ne_eq, decide_eq_true_eq, decide_eq_false_iff_not] at *
            first | (exfalso; omega) | exact resc1 hc1 (.inl (by omega)) | exact resc1 hc1 (.inr (by omega)) | exact resc2 hc1 (by omega) (by omega) (by omega) | exact resc3 hc1 (by omega) (by omega) (by omega)
          · refine zB ?_
            refine g_u (zC rfl rfl) <| g_u (zC rfl rfl) <| g_u (zC rfl rfl) <| g_u (zC rfl rfl) <| g_u (z0 rfl rfl rfl) ?_
            refine g_u (jc rfl rfl rfl rfl Tryz.underlying9 (by ((try simp only [decide_eq_true_eq, decide_eq_false_iff_not, bne_iff_ne, ne_eq, beq_iff_eq, qd, beq_eq_false_iff_ne, Bool.not_eq_true', Bool.not_eq_false', gt_iff_lt, ge_iff_le] at *); (repeat simp (disch := omega) only [zO, zi] at *)); omega)) ?_
            refine g_u (y5 rfl rfl rfl (by show _ ≤ (9223372036854775807 : Int); (try dsimp only); first | (simp only [zo, c0, c1, c4]; omega) | (have q := hx (of_decide_eq_true hb1); simp only [zo, ze, yG, yE, q, c1, c4]; omega))) ?_
            refine g_u (zE rfl rfl) <| zH <| zW <| zA <| zB <| g_u (zC rfl rfl) <| g_u (z0 rfl rfl rfl) <| g_u (zE rfl rfl) <| zH <| zA ?_
            change decide ((i : Int) < (s.size : Int)) = true at hb1
            have hi : i < s.size := by have := of_decide_eq_true hb1; omega
            obtain ⟨c, hc1, hc2⟩ := vj s i hi
            refine ⟨⟨i + 1, _⟩, ⟨hi, ?_⟩, ⟨rfl, rfl, zX rfl (by rw [zO (by omega) (by omega)]; rfl), trivial⟩, by dsimp only; omega⟩
            dsimp only at *
            rw [yO hc1, wx, ← List.cons_append, ← h2, e2 hi, Int.toNat_natCast]
            simp only [beq_iff_eq, beq_eq_false_iff_ne, ne_eq, decide_eq_true_eq, decide_eq_false_iff_not] at *
            first | (exfalso; omega) | exact resc1 hc1 (.inl (by omega)) | exact resc1 hc1 (.inr (by omega)) | exact resc2 hc1 (by omega) (by omega) (by omega) | exact resc3 hc1 (by omega) (by omega) (by omega)
        · refine zQ ?_
          refine zA <| zD <| zB <| g_u (zC rfl rfl) <| g_u (zC rfl rfl) ?_
          refine g_u (sN rfl rfl rfl Tryz.underlying9 (by ((try simp only [decide_eq_true_eq, decide_eq_false_iff_not, bne_iff_ne, ne_eq, beq_iff_eq, qd, beq_eq_false_iff_ne, Bool.not_eq_true', Bool.not_eq_false', gt_iff_lt, ge_iff_le] at *); (repeat simp (disch := omega) only [zO, zi] at *)); omega)) ?_
          refine g_u (ye rfl rfl rfl) <| zH <| zA ?_
          refine zN rfl (fun hb6 => ?_) (fun hb6 => ?_)
          · refine zB ?_
            refine g_u (zC rfl rfl) ?_
            refine g_u (y5 rfl rfl rfl (by show _ ≤ (9223372036854775807 : Int); (try dsimp only); first | (simp only [zo, c0, c1, c4]; omega) | (have q := hx (of_decide_eq_true hb1); simp only [zo, ze, yG, yE, q, c1, c4]; omega))) ?_
            refine g_u (zC rfl rfl) <| g_u (zC rfl rfl) <| g_u (zC rfl rfl) <| g_u (z0 rfl rfl rfl) ?_
            refine g_u (jc rfl rfl rfl rfl Tryz.underlying9 (by ((try simp only [decide_eq_true_eq, decide_eq_false_iff_not, bne_iff_ne, ne_eq, beq_iff_eq, qd, beq_eq_false_iff_ne, Bool.not_eq_true', Bool.not_eq_false', gt_iff_lt, ge_iff_le] at *); (repeat simp (disch := omega) only [zO, zi] at *)); omega)) ?_
            refine g_u (zP (rhex_c _ (by have q := hx (of_decide_eq_true hb1); (try dsimp only); omega)) rfl rfl) ?_
            refine g_u (y5 rfl rfl rfl (by show _ ≤ (9223372036854775807 : Int); (try dsimp only); first | (simp only [zo, c0, c1, c4]; omega) | (have q := hx (of_decide_eq_true hb1); simp only [zo, ze, yG, yE, q, c1, c4]; omega))) ?_
            refine g_u (zE rfl rfl) <| zH <| zW <| zA <| zB <| g_u (zC rfl rfl) <| g_u (z0 rfl rfl rfl) <| g_u (zE rfl rfl) <| zH <| zA ?_
            change decide ((i : Int) < (s.size : Int)) = true at hb1
            have hi : i < s.size := by have := of_decide_eq_true hb1; omega
            obtain ⟨c, hc1, hc2⟩ := vj s i hi
            refine ⟨⟨i + 1, _⟩, ⟨hi, ?_⟩, ⟨rfl, rfl, zX rfl (by rw [zO (by omega) (by omega)]; rfl), trivial⟩, by dsimp only; omega⟩
            dsimp only at *
            rw [yO hc1, wx, ← List.cons_append, ← h2, e2 hi, Int.toNat_natCast]
            simp only [beq_iff_eq, beq_eq_false_iff_ne, ne_eq, decide_eq_true_eq, decide_eq_false_iff_not] at *
            first | (exfalso; omega) | exact resc1 hc1 (.inl (by omega)) | exact resc1 hc1 (.inr (by omega)) | exact resc2 hc1 (by omega) (by omega) (by omega) | exact resc3 hc1 (by omega) (by omega) (by omega)
          · refine zB ?_
            refine g_u (zC rfl rfl) <| g_u (zC rfl rfl) <| g_u (zC rfl rfl) <| g_u (zC rfl rfl) <| g_u (z0 rfl rfl rfl) ?_
            refine g_u (jc rfl rfl rfl rfl Tryz.underlying9 (by ((try simp only [decide_eq_true_eq, decide_eq_false_iff_not, bne_iff_ne, ne_eq, beq_iff_eq, qd, beq_eq_false_iff_ne, Bool.not_eq_true', Bool.not_eq_false', gt_iff_lt, ge_iff_le] at *); (repeat simp (disch := omega) only [zO, zi] at *)); omega)) ?_
            refine g_u (y5 rfl rfl rfl (by show _ ≤ (9223372036854775807 : Int); (try dsimp only); first | (simp only [zo, c0, c1, c4]; omega) | (have q := hx (of_decide_eq_true hb1); simp only [zo, ze, yG, yE, q, c1, c4]; omega))) ?_
            refine g_u (zE rfl rfl) <| zH <| zW <| zA <| zB <| g_u (zC rfl rfl) <| g_u (z0 rfl rfl rfl) <| g_u (zE rfl rfl) <| zH <| zA ?_
            change decide ((i : Int) < (s.size : Int)) = true at hb1
            have hi : i < s.size := by have := of_decide_eq_true hb1; omega
            obtain ⟨c, hc1, hc2⟩ := vj s i hi
            refine ⟨⟨i + 1, _⟩, ⟨hi, ?_⟩, ⟨rfl, rfl, zX rfl (by rw [zO (by omega) (by omega)]; rfl), trivial⟩, by dsimp only; omega⟩
            dsimp only at *
            rw [yO hc1, wx, ← List.cons_append, ← h2, e2 hi, Int.toNat_natCast]
            simp only [beq_iff_eq, beq_eq_false_iff_ne, ne_eq, decide_eq_true_eq, decide_eq_false_iff_not] at *
            first | (exfalso; omega) | exact resc1 hc1 (.inl (by omega)) | exact resc1 hc1 (.inr (by omega)) | exact resc2 hc1 (by omega) (by omega) (by omega) | exact resc3 hc1 (by omega) (by omega) (by omega)
    · refine zz ?_
      refine zT <| zT <| zq <| zA <| zD <| zB <| g_u (zC rfl rfl) ?_
      refine g_u (y5 rfl rfl rfl (by show _ ≤ (9223372036854775807 : Int); (try dsimp only); first | (simp only [zo, c0, c1, c4]; omega) | (have q := hx (of_decide_eq_true hb1); simp only [zo, ze, yG, yE, q, c1, c4]; omega))) ?_
      refine g_u (zE rfl rfl) <| zH <| zA <| zL ?_
      change decide ((i : Int) < (s.size : Int)) = false at hb1
      have hi : i = s.size := by have := of_decide_eq_false hb1; omega
      exact ⟨⟨(rfl : toAV (Al.look _ _) = some _).trans (congrArg (fun z => some (sv z)) (uw (by show lst (t ++ ⟨#[34]⟩) = _; rw [x_, h2, hi, List.take_of_length_le (Nat.le_of_eq hz)]; rfl))), rfl⟩, trivial⟩
theorem rcomma_c (i : Nat) : zn Tryz.prog Γ0 136 [iv (i : Int)] [sv (yF (sk (i == 0)))] := by
  refine z_ Tryz.func136 rfl Tryz.ntmps136 (by kernel_rfl) rfl fun w0 I0 G0 => ?_
  refine zD <| zB <| g_u (zE rfl rfl) <| zH <| zA <| zD <| zD <| zB <| g_u (zC rfl rfl) <| g_u (yz rfl rfl rfl) <| zH <| zA ?_
  refine zN rfl (fun hb1 => ?_) (fun hb1 => ?_)
  · refine zD ?_
    refine zB <| g_u (zE rfl rfl) <| zH <| zA <| zL <| zK ?_
    exact ⟨⟨(rfl : toAV (Al.look _ _) = some _).trans (congrArg some (by (have e : i = 0 := (by have : (i : Int) = 0 := (by simpa using hb1); omega); rw [e]; rfl))), rfl⟩, trivial⟩
  · refine zQ ?_
    refine zA <| zD <| zB <| g_u (zE rfl rfl) <| zH <| zA <| zL ?_
    exact ⟨⟨(rfl : toAV (Al.look _ _) = some _).trans (congrArg some (by (have e : i ≠ 0 := (by have : (i : Int) ≠ 0 := (by simpa using hb1); omega); rw [show (i == 0) = false from by simpa using e]; rfl))), rfl⟩, trivial⟩
theorem sj (v : GV) (ho : v.ok) (hw : v.wt ≤ 10000000) : zn Tryz.prog Γ0 106 [v.av] [sv (yF (wE v))] := by
  have lv := xh v.list
  have la := yv v.map
  have ek := v.wt_eq
  have ok := v.ok_iff.1 ho
  have sl := yr v
  have jl := yb v
  refine z_ Tryz.func106 rfl Tryz.ntmps106 (by kernel_rfl) rfl fun w0 I0 G0 => ?_
  refine zD <| zB <| g_uG (zk 1001 rfl rfl rfl rfl) rfl <| g_u (zE rfl rfl) <| zH <| zA <| zD <| zD <| zB <| g_u (zF rfl rfl xI rfl) <| g_u (zG rfl rfl rfl tA5 tS5 rfl rfl) <| g_u (yz rfl rfl rfl) <| zH <| zA ?_
  refine zN rfl (fun hb1 => ?_) (fun hb1 => ?_)
  · refine zD ?_
    refine zB <| g_u (zF rfl rfl sc rfl) <| g_u (zG rfl rfl rfl tA9 tS9 rfl rfl) <| g_u (zE rfl rfl) <| zH <| zA <| zL <| zK ?_
    exact ⟨⟨(rfl : toAV (Al.look _ _) = some _).trans (congrArg some (by (simp only [beq_iff_eq, beq_eq_false_iff_ne, ne_eq, decide_eq_true_eq, decide_eq_false_iff_not] at *; first | (exfalso; omega) | exact congrArg sv (re (by omega)).symm | (rw [simp2 (by omega) (by omega)]; rfl) | (rw [tO (by omega) (by omega)]; rfl) | (rw [simp3 (by omega)]) | (rw [simp4 (by omega), yN]; rfl) | (rw [simp5 (by omega)]) | (rw [r6 (by omega)]; rfl)))), rfl⟩, trivial⟩
  · refine zQ ?_
    refine zA <| zD <| zD <| zB <| g_u (zF rfl rfl xI rfl) <| g_u (zG rfl rfl rfl tA5 tS5 rfl rfl) <| g_u (yz rfl rfl rfl) <| g_u (zC rfl rfl) <| yB (t := 11) rfl ?_
    rintro (hb2 | hb2)
    · rw [hb2]
      refine zY rfl rfl (zF rfl rfl rP rfl) <| zY rfl rfl (zG rfl rfl rfl tA3 tS3 rfl rfl) <| zY rfl rfl (yz rfl rfl rfl) <| g_u (zZ rfl rfl rfl) <| zH <| zA ?_
      refine zN rfl (fun hb3 => ?_) (fun hb3 => ?_)
      · refine zD ?_
        refine zB <| g_u (zE rfl rfl) <| zH <| zA <| zL <| zK ?_
        exact ⟨⟨(rfl : toAV (Al.look _ _) = some _).trans (congrArg some (by (simp only [beq_iff_eq, beq_eq_false_iff_ne, ne_eq, decide_eq_true_eq, decide_eq_false_iff_not] at *; first | (exfalso; omega) | exact congrArg sv (re (by omega)).symm | (rw [simp2 (by omega) (by omega)]; rfl) | (rw [tO (by omega) (by omega)]; rfl) | (rw [simp3 (by omega)]) | (rw [simp4 (by omega), yN]; rfl) | (rw [simp5 (by omega)]) | (rw [r6 (by omega)]; rfl)))), rfl⟩, trivial⟩
      · refine zQ ?_
        refine zA <| zD <| zD <| zB <| g_u (zF rfl rfl xI rfl) <| g_u (zG rfl rfl rfl tA5 tS5 rfl rfl) <| g_u (yz rfl rfl rfl) <| zH <| zA ?_
        refine zN rfl (fun hb4 => ?_) (fun hb4 => ?_)
        · refine zD ?_
          refine zB <| g_u (zE rfl rfl) <| zH <| zA <| zL <| zK ?_
          exact ⟨⟨(rfl : toAV (Al.look _ _) = some _).trans (congrArg some (by (simp only [beq_iff_eq, beq_eq_false_iff_ne, ne_eq, decide_eq_true_eq, decide_eq_false_iff_not] at *; first | (exfalso; omega) | exact congrArg sv (re (by omega)).symm | (rw [simp2 (by omega) (by omega)]; rfl) | (rw [tO (by omega) (by omega)]; rfl) | (rw [simp3 (by omega)]) | (rw [simp4 (by omega), yN]; rfl) | (rw [simp5 (by omega)]) | (rw [r6 (by omega)]; rfl)))), rfl⟩, trivial⟩
        · refine zQ ?_
          refine zA <| zD <| zD <| zB <| g_u (zF rfl rfl xI rfl) <| g_u (zG rfl rfl rfl tA5 tS5 rfl rfl) <| g_u (yz rfl rfl rfl) <| zH <| zA ?_
          refine zN rfl (fun hb5 => ?_) (fun hb5 => ?_)
          · refine zD ?_
            refine zB <| g_u (zF rfl rfl rP rfl) <| g_u (zG rfl rfl rfl tA3 tS3 rfl rfl) <| g_u (zP (rdec_c _ ok.2.2.1) rfl rfl) <| g_u (zE rfl rfl) <| zH <| zA <| zL <| zK ?_
            exact ⟨⟨(rfl : toAV (Al.look _ _) = some _).trans (congrArg some (by (simp only [beq_iff_eq, beq_eq_false_iff_ne, ne_eq, decide_eq_true_eq, decide_eq_false_iff_not] at *; first | (exfalso; omega) | exact congrArg sv (re (by omega)).symm | (rw [simp2 (by omega) (by omega)]; rfl) | (rw [tO (by omega) (by omega)]; rfl) | (rw [simp3 (by omega)]) | (rw [simp4 (by omega), yN]; rfl) | (rw [simp5 (by omega)]) | (rw [r6 (by omega)]; rfl)))), rfl⟩, trivial⟩
          · refine zQ ?_
            refine zA <| zD <| zD <| zB <| g_u (zF rfl rfl xI rfl) <| g_u (zG rfl rfl rfl tA5 tS5 rfl rfl) <| g_u (yz rfl rfl rfl) <| zH <| zA ?_
            refine zN rfl (fun hb6 => ?_) (fun hb6 => ?_)
            · refine zD ?_
              refine zB <| g_u (zF rfl rfl fa70_3 rfl) <| g_u (zG rfl rfl rfl tA57 tS57 rfl rfl) <| g_u (zP (rhigh_c _ ok.2.2.2.1) rfl rfl) ?_
              refine g_u (zP (rhex_c _ (by first | omega | (rw [ze, wC]; omega))) rfl rfl) ?_
              refine g_u (y5 rfl rfl rfl (by show _ ≤ (9223372036854775807 : Int); simp only [ze, yG, yN, wC]; first | omega | (show 2 + _ ≤ _; omega) | (have c1 : (ByteArray.mk #[48, 120]).size = 2 := rfl; omega))) ?_
              refine g_u (zE rfl rfl) <| zH <| zA <| zL <| zK ?_
              exact ⟨⟨(rfl : toAV (Al.look _ _) = some _).trans (congrArg some (by (simp only [beq_iff_eq, beq_eq_false_iff_ne, ne_eq, decide_eq_true_eq, decide_eq_false_iff_not] at *; first | (exfalso; omega) | exact congrArg sv (re (by omega)).symm | (rw [simp2 (by omega) (by omega)]; rfl) | (rw [tO (by omega) (by omega)]; rfl) | (rw [simp3 (by omega)]) | (rw [simp4 (by omega), yN]; rfl) | (rw [simp5 (by omega)]) | (rw [r6 (by omega)]; rfl)))), rfl⟩, trivial⟩
            · refine zQ ?_
              refine zA <| zD <| zD <| zB <| g_u (zF rfl rfl xI rfl) <| g_u (zG rfl rfl rfl tA5 tS5 rfl rfl) <| g_u (yz rfl rfl rfl) <| zH <| zA ?_
              refine zN rfl (fun hb7 => ?_) (fun hb7 => ?_)
              · refine zD ?_
                refine zB <| g_u (zF rfl rfl sc rfl) <| g_u (zG rfl rfl rfl tA9 tS9 rfl rfl) ?_
                refine g_u (zP (rhex_c _ (by first | omega | (rw [ze, wC]; omega))) rfl rfl) ?_
                refine g_u (zE rfl rfl) <| zH <| zA <| zL <| zK ?_
                exact ⟨⟨(rfl : toAV (Al.look _ _) = some _).trans (congrArg some (by (simp only [beq_iff_eq, beq_eq_false_iff_ne, ne_eq, decide_eq_true_eq, decide_eq_false_iff_not] at *; first | (exfalso; omega) | exact congrArg sv (re (by omega)).symm | (rw [simp2 (by omega) (by omega)]; rfl) | (rw [tO (by omega) (by omega)]; rfl) | (rw [simp3 (by omega)]) | (rw [simp4 (by omega), yN]; rfl) | (rw [simp5 (by omega)]) | (rw [r6 (by omega)]; rfl)))), rfl⟩, trivial⟩
              · refine zQ ?_
                refine zA <| zD <| zB <| g_u (zE rfl rfl) <| zH <| zA <| zL ?_
                exact ⟨⟨(rfl : toAV (Al.look _ _) = some _).trans (congrArg some (by (simp only [beq_iff_eq, beq_eq_false_iff_ne, ne_eq, decide_eq_true_eq, decide_eq_false_iff_not] at *; first | (exfalso; omega) | exact congrArg sv (re (by omega)).symm | (rw [simp2 (by omega) (by omega)]; rfl) | (rw [tO (by omega) (by omega)]; rfl) | (rw [simp3 (by omega)]) | (rw [simp4 (by omega), yN]; rfl) | (rw [simp5 (by omega)]) | (rw [r6 (by omega)]; rfl)))), rfl⟩, trivial⟩
    · rw [hb2]
      refine zI rfl rfl rfl <| zI rfl rfl rfl <| zI rfl rfl rfl <| g_u (zh rfl rfl rfl) <| zH <| zA <| yD rfl <| zQ <| zA <| zD <| zD <| zB <| g_u (zF rfl rfl xI rfl) <| g_u (zG rfl rfl rfl tA5 tS5 rfl rfl) <| g_u (yz rfl rfl rfl) <| zH <| zA ?_
      refine zN rfl (fun hb8 => ?_) (fun hb8 => ?_)
      · refine zD ?_
        refine zB <| g_u (zE rfl rfl) <| zH <| zA <| zL <| zK ?_
        exact ⟨⟨(rfl : toAV (Al.look _ _) = some _).trans (congrArg some (by (simp only [beq_iff_eq, beq_eq_false_iff_ne, ne_eq, decide_eq_true_eq, decide_eq_false_iff_not] at *; first | (exfalso; omega) | exact congrArg sv (re (by omega)).symm | (rw [simp2 (by omega) (by omega)]; rfl) | (rw [tO (by omega) (by omega)]; rfl) | (rw [simp3 (by omega)]) | (rw [simp4 (by omega), yN]; rfl) | (rw [simp5 (by omega)]) | (rw [r6 (by omega)]; rfl)))), rfl⟩, trivial⟩
      · refine zQ ?_
        refine zA <| zD <| zD <| zB <| g_u (zF rfl rfl xI rfl) <| g_u (zG rfl rfl rfl tA5 tS5 rfl rfl) <| g_u (yz rfl rfl rfl) <| zH <| zA ?_
        refine zN rfl (fun hb9 => ?_) (fun hb9 => ?_)
        · refine zD ?_
          refine zB <| g_u (zF rfl rfl rP rfl) <| g_u (zG rfl rfl rfl tA3 tS3 rfl rfl) <| g_u (zP (rdec_c _ ok.2.2.1) rfl rfl) <| g_u (zE rfl rfl) <| zH <| zA <| zL <| zK ?_
          exact ⟨⟨(rfl : toAV (Al.look _ _) = some _).trans (congrArg some (by (simp only [beq_iff_eq, beq_eq_false_iff_ne, ne_eq, decide_eq_true_eq, decide_eq_false_iff_not] at *; first | (exfalso; omega) | exact congrArg sv (re (by omega)).symm | (rw [simp2 (by omega) (by omega)]; rfl) | (rw [tO (by omega) (by omega)]; rfl) | (rw [simp3 (by omega)]) | (rw [simp4 (by omega), yN]; rfl) | (rw [simp5 (by omega)]) | (rw [r6 (by omega)]; rfl)))), rfl⟩, trivial⟩
        · refine zQ ?_
          refine zA <| zD <| zD <| zB <| g_u (zF rfl rfl xI rfl) <| g_u (zG rfl rfl rfl tA5 tS5 rfl rfl) <| g_u (yz rfl rfl rfl) <| zH <| zA ?_
          refine zN rfl (fun hb10 => ?_) (fun hb10 => ?_)
          · refine zD ?_
            refine zB <| g_u (zF rfl rfl fa70_3 rfl) <| g_u (zG rfl rfl rfl tA57 tS57 rfl rfl) <| g_u (zP (rhigh_c _ ok.2.2.2.1) rfl rfl) ?_
            refine g_u (zP (rhex_c _ (by first | omega | (rw [ze, wC]; omega))) rfl rfl) ?_
            refine g_u (y5 rfl rfl rfl (by show _ ≤ (9223372036854775807 : Int); simp only [ze, yG, yN, wC]; first | omega | (show 2 + _ ≤ _; omega) | (have c1 : (ByteArray.mk #[48, 120]).size = 2 := rfl; omega))) ?_
            refine g_u (zE rfl rfl) <| zH <| zA <| zL <| zK ?_
            exact ⟨⟨(rfl : toAV (Al.look _ _) = some _).trans (congrArg some (by (simp only [beq_iff_eq, beq_eq_false_iff_ne, ne_eq, decide_eq_true_eq, decide_eq_false_iff_not] at *; first | (exfalso; omega) | exact congrArg sv (re (by omega)).symm | (rw [simp2 (by omega) (by omega)]; rfl) | (rw [tO (by omega) (by omega)]; rfl) | (rw [simp3 (by omega)]) | (rw [simp4 (by omega), yN]; rfl) | (rw [simp5 (by omega)]) | (rw [r6 (by omega)]; rfl)))), rfl⟩, trivial⟩
          · refine zQ ?_
            refine zA <| zD <| zD <| zB <| g_u (zF rfl rfl xI rfl) <| g_u (zG rfl rfl rfl tA5 tS5 rfl rfl) <| g_u (yz rfl rfl rfl) <| zH <| zA ?_
            refine zN rfl (fun hb11 => ?_) (fun hb11 => ?_)
            · refine zD ?_
              refine zB <| g_u (zF rfl rfl sc rfl) <| g_u (zG rfl rfl rfl tA9 tS9 rfl rfl) ?_
              refine g_u (zP (rhex_c _ (by first | omega | (rw [ze, wC]; omega))) rfl rfl) ?_
              refine g_u (zE rfl rfl) <| zH <| zA <| zL <| zK ?_
              exact ⟨⟨(rfl : toAV (Al.look _ _) = some _).trans (congrArg some (by (simp only [beq_iff_eq, beq_eq_false_iff_ne, ne_eq, decide_eq_true_eq, decide_eq_false_iff_not] at *; first | (exfalso; omega) | exact congrArg sv (re (by omega)).symm | (rw [simp2 (by omega) (by omega)]; rfl) | (rw [tO (by omega) (by omega)]; rfl) | (rw [simp3 (by omega)]) | (rw [simp4 (by omega), yN]; rfl) | (rw [simp5 (by omega)]) | (rw [r6 (by omega)]; rfl)))), rfl⟩, trivial⟩
            · refine zQ ?_
              refine zA <| zD <| zB <| g_u (zE rfl rfl) <| zH <| zA <| zL ?_
              exact ⟨⟨(rfl : toAV (Al.look _ _) = some _).trans (congrArg some (by (simp only [beq_iff_eq, beq_eq_false_iff_ne, ne_eq, decide_eq_true_eq, decide_eq_false_iff_not] at *; first | (exfalso; omega) | exact congrArg sv (re (by omega)).symm | (rw [simp2 (by omega) (by omega)]; rfl) | (rw [tO (by omega) (by omega)]; rfl) | (rw [simp3 (by omega)]) | (rw [simp4 (by omega), yN]; rfl) | (rw [simp5 (by omega)]) | (rw [r6 (by omega)]; rfl)))), rfl⟩, trivial⟩
theorem rjson_step (v : GV) (ho : v.ok) (hw : v.wt ≤ 10000000) (ih : ∀ y ∈ v.list, zn Tryz.prog Γ0 105 [y.av] [sv (yF (xC y))]) (ihm : ∀ a ∈ v.map, zn Tryz.prog Γ0 105 [a.val.av] [sv (yF (xC a.val))]) : zn Tryz.prog Γ0 105 [v.av] [sv (yF (xC v))] := by
  have lv := xh v.list
  have la := yv v.map
  have ek := v.wt_eq
  have ok := v.ok_iff.1 ho
  have sl := yr v
  have jl := yb v
  have c1 : (ByteArray.mk #[91]).size = 1 := rfl
  have c2 : (ByteArray.mk #[93]).size = 1 := rfl
  have c3 : (ByteArray.mk #[123]).size = 1 := rfl
  have c4 : (ByteArray.mk #[125]).size = 1 := rfl
  have c5 : (ByteArray.mk #[58]).size = 1 := rfl
  refine z_ Tryz.func105 rfl Tryz.ntmps105 (by kernel_rfl) rfl fun w0 I0 G0 => ?_
  refine zD <| zB <| g_uG (zk 1001 rfl rfl rfl rfl) rfl <| g_u (zE rfl rfl) <| zH <| zA <| zD <| zD <| zB <| g_u (zF rfl rfl xI rfl) <| g_u (zG rfl rfl rfl tA5 tS5 rfl rfl) <| g_u (yz rfl rfl rfl) <| zH <| zA ?_
  refine zN rfl (fun hb1 => ?_) (fun hb1 => ?_)
  · refine zD ?_
    refine zB <| g_u (zE rfl rfl) <| zH <| zA <| zL <| zK ?_
    exact ⟨⟨(rfl : toAV (Al.look _ _) = some _).trans (congrArg some (by (simp only [beq_iff_eq, beq_eq_false_iff_ne, ne_eq, decide_eq_true_eq, decide_eq_false_iff_not] at *; rw [json0 (by omega)]; rfl))), rfl⟩, trivial⟩
  · refine zQ ?_
    refine zA <| zD <| zD <| zB <| g_u (zF rfl rfl xI rfl) <| g_u (zG rfl rfl rfl tA5 tS5 rfl rfl) <| g_u (yz rfl rfl rfl) <| g_u (zC rfl rfl) <| yB (t := 12) rfl ?_
    rintro (hb2 | hb2)
    · rw [hb2]
      refine zI rfl rfl rfl <| zI rfl rfl rfl <| zI rfl rfl rfl <| g_u (zZ rfl rfl rfl) <| g_u (zC rfl rfl) <| zI rfl rfl rfl <| zI rfl rfl rfl <| zI rfl rfl rfl <| g_u (zZ rfl rfl rfl) <| zH <| zA <| zs rfl <| zD <| zB <| g_u (zG rfl rfl rfl tA70 tS70 rfl rfl) <| g_u (zP (sj _ ho hw) rfl rfl) ?_
      refine g_u (zP (rquote_c _ (by first | exact hka | (rw [ze]; omega))) rfl rfl) ?_
      refine g_u (zE rfl rfl) <| zH <| zA <| zL <| zK ?_
      exact ⟨⟨(rfl : toAV (Al.look _ _) = some _).trans (congrArg some (by (simp only [beq_iff_eq, beq_eq_false_iff_ne, ne_eq, decide_eq_true_eq, decide_eq_false_iff_not] at *; rw [jsonS (by omega)]; rw [yN]))), rfl⟩, trivial⟩
    · rw [hb2]
      refine zY rfl rfl (zF rfl rfl xI rfl) <| zY rfl rfl (zG rfl rfl rfl tA5 tS5 rfl rfl) <| zY rfl rfl (yz rfl rfl rfl) <| g_u (zh rfl rfl rfl) <| g_u (zC rfl rfl) <| yB (t := 17) rfl ?_
      rintro (hb3 | hb3)
      · rw [hb3]
        refine zI rfl rfl rfl <| zI rfl rfl rfl <| zI rfl rfl rfl <| g_u (zZ rfl rfl rfl) <| zH <| zA <| zs rfl <| zD <| zB <| g_u (zG rfl rfl rfl tA70 tS70 rfl rfl) <| g_u (zP (sj _ ho hw) rfl rfl) ?_
        refine g_u (zP (rquote_c _ (by first | exact hka | (rw [ze]; omega))) rfl rfl) ?_
        refine g_u (zE rfl rfl) <| zH <| zA <| zL <| zK ?_
        exact ⟨⟨(rfl : toAV (Al.look _ _) = some _).trans (congrArg some (by (simp only [beq_iff_eq, beq_eq_false_iff_ne, ne_eq, decide_eq_true_eq, decide_eq_false_iff_not] at *; rw [jsonS (by omega)]; rw [yN]))), rfl⟩, trivial⟩
      · rw [hb3]
        refine zY rfl rfl (zF rfl rfl xI rfl) <| zY rfl rfl (zG rfl rfl rfl tA5 tS5 rfl rfl) <| zY rfl rfl (yz rfl rfl rfl) <| g_u (zh rfl rfl rfl) <| zH <| zA ?_
        refine zN rfl (fun hb4 => ?_) (fun hb4 => ?_)
        · refine zD ?_
          refine zB <| g_u (zG rfl rfl rfl tA70 tS70 rfl rfl) <| g_u (zP (sj _ ho hw) rfl rfl) ?_
          refine g_u (zP (rquote_c _ (by first | exact hka | (rw [ze]; omega))) rfl rfl) ?_
          refine g_u (zE rfl rfl) <| zH <| zA <| zL <| zK ?_
          exact ⟨⟨(rfl : toAV (Al.look _ _) = some _).trans (congrArg some (by (simp only [beq_iff_eq, beq_eq_false_iff_ne, ne_eq, decide_eq_true_eq, decide_eq_false_iff_not] at *; rw [jsonS (by omega)]; rw [yN]))), rfl⟩, trivial⟩
        · refine zQ ?_
          refine zA <| zD <| zB <| g_u (zE rfl rfl) <| zH <| zA <| zD <| zD <| zB <| g_u (zF rfl rfl xI rfl) <| g_u (zG rfl rfl rfl tA5 tS5 rfl rfl) <| g_u (yz rfl rfl rfl) <| zH <| zA ?_
          refine zN rfl (fun hb5 => ?_) (fun hb5 => ?_)
          · refine zD ?_
            refine zD <| zB <| g_u (zE rfl rfl) <| zH <| zA <| zU ?_
            refine zw (fun j : Nat × ByteArray => [(1, .ptr 1001 0), (1001, .box 70 (.imm v.av)), (3, .imm (sv j.2)), (4, .imm (iv (j.1 : Int)))]) (fun j => j.1 ≤ v.list.length ∧ lst j.2 = wu true (v.list.take j.1)) (fun j => v.list.length - j.1) (⟨0, ⟨#[]⟩⟩) ?_ ⟨rfl, rfl, rfl, rfl, trivial⟩ ?_
            · exact ⟨Nat.zero_le _, rfl⟩
            · rintro ⟨i, t⟩ ⟨h1, h2⟩; dsimp only at h1 h2; have hlen : t.size ≤ 150 * wtVs (v.list.take i) := by rw [← yE t, h2]; exact jsonVs_len _ _
              have htk := jB v.list i
              refine zD <| zD <| zB <| g_u (zC rfl rfl) <| g_u (zF rfl rfl rR rfl) <| g_u (zG rfl rfl rfl tA68 tS68 rfl rfl) <| g_u (z7 rfl rfl Tryz.underlying68) <| g_u (ye rfl rfl rfl) <| zH <| zA ?_
              refine zN rfl (fun hb6 => ?_) (fun hb6 => ?_)
              · have hiv : i < v.list.length := by have := of_decide_eq_true hb6; simp only [List.length_map] at this; omega
                refine zQ <| zA <| zD <| zU <| y_ xR <| g_u (zC rfl rfl) <| g_u (zC rfl rfl) <| g_u (zP (rcomma_c _) rfl rfl) ?_
                refine g_u (y5 rfl rfl rfl (by show _ ≤ (9223372036854775807 : Int); (try dsimp only); first | (have q1 := vF hiv; have q2 := yb (nthV v.list i); have q3 := yL (i == 0); simp only [zo, ze, c1, c2, c3, c4, c5]; omega) | (have q1 := yn hia; have q2 := wT (nthA v.map i); have q3 := yL (i == 0); have q4 := (nthA v.map i).wt_eq; have q5 := yA (lst (nthA v.map i).key); have q6 := yE (nthA v.map i).key; have q7 := yb (nthA v.map i).val; simp only [zo, ze, c1, c2, c3, c4, c5]; omega) | (simp only [zo, ze, c1, c2, c3, c4, c5]; omega))) ?_
                refine g_u (zF rfl rfl rR rfl) <| g_u (zG rfl rfl rfl tA68 tS68 rfl rfl) <| g_u (zC rfl rfl) ?_
                refine g_u (zR rfl rfl rfl Tryz.underlying68 tS70 (by omega) (ixV hiv)) ?_
                refine g_u (zd rfl rfl tA70 tS70 rfl rfl) ?_
                refine g_u (zP ((by first | exact ih _ (uy hiv) | exact ihm _ (xY hia))) rfl rfl) ?_
                refine g_u (y5 rfl rfl rfl (by show _ ≤ (9223372036854775807 : Int); (try dsimp only); first | (have q1 := vF hiv; have q2 := yb (nthV v.list i); have q3 := yL (i == 0); simp only [zo, ze, c1, c2, c3, c4, c5]; omega) | (have q1 := yn hia; have q2 := wT (nthA v.map i); have q3 := yL (i == 0); have q4 := (nthA v.map i).wt_eq; have q5 := yA (lst (nthA v.map i).key); have q6 := yE (nthA v.map i).key; have q7 := yb (nthA v.map i).val; simp only [zo, ze, c1, c2, c3, c4, c5]; omega) | (simp only [zo, ze, c1, c2, c3, c4, c5]; omega))) ?_
                refine g_u (zE rfl rfl) ?_
                refine zH ⟨by kernel_rfl, ?_⟩
                refine zW <| zA <| zB <| g_u (zC rfl rfl) <| g_u (z0 rfl rfl rfl) <| g_u (zE rfl rfl) <| zH <| zA ?_
                refine ⟨⟨i + 1, _⟩, ⟨hiv, ?_⟩, ⟨rfl, rfl, rfl, zX rfl (by rw [zO (by omega) (by omega)]; rfl), trivial⟩, by dsimp only; omega⟩
                show lst (t ++ yF (sk (i == 0)) ++ yF (xC (nthV v.list i))) = _
                rw [ro hiv, x_, x_, yN, yN, h2]
              · have hi : i = v.list.length := by have := of_decide_eq_false hb6; simp only [List.length_map] at this; omega
                refine zz <| zT <| zT <| zq <| zA <| zD <| zB <| g_u (zC rfl rfl) ?_
                refine g_u (y5 rfl rfl rfl (by show _ ≤ (9223372036854775807 : Int); (try dsimp only); first | (have q1 := vF hiv; have q2 := yb (nthV v.list i); have q3 := yL (i == 0); simp only [zo, ze, c1, c2, c3, c4, c5]; omega) | (have q1 := yn hia; have q2 := wT (nthA v.map i); have q3 := yL (i == 0); have q4 := (nthA v.map i).wt_eq; have q5 := yA (lst (nthA v.map i).key); have q6 := yE (nthA v.map i).key; have q7 := yb (nthA v.map i).val; simp only [zo, ze, c1, c2, c3, c4, c5]; omega) | (simp only [zo, ze, c1, c2, c3, c4, c5]; omega))) ?_
                refine g_u (y5 rfl rfl rfl (by show _ ≤ (9223372036854775807 : Int); (try dsimp only); first | (have q1 := vF hiv; have q2 := yb (nthV v.list i); have q3 := yL (i == 0); simp only [zo, ze, c1, c2, c3, c4, c5]; omega) | (have q1 := yn hia; have q2 := wT (nthA v.map i); have q3 := yL (i == 0); have q4 := (nthA v.map i).wt_eq; have q5 := yA (lst (nthA v.map i).key); have q6 := yE (nthA v.map i).key; have q7 := yb (nthA v.map i).val; simp only [zo, ze, c1, c2, c3, c4, c5]; omega) | (simp only [zo, ze, c1, c2, c3, c4, c5]; omega))) ?_
                refine g_u (zE rfl rfl) <| zH <| zA <| zL <| zK ?_
                exact ⟨⟨(rfl : toAV (Al.look _ _) = some _).trans (congrArg some (by (simp only [beq_iff_eq, beq_eq_false_iff_ne, ne_eq, decide_eq_true_eq, decide_eq_false_iff_not] at *; rw [json6 (by omega)]; refine congrArg sv (uw ?_); show lst (⟨#[91]⟩ ++ t ++ ⟨#[93]⟩) = _; rw [x_, x_, h2, hi, List.take_of_length_le (Nat.le_refl _)]; rfl))), rfl⟩, trivial⟩
          · refine zQ ?_
            refine zA <| zD <| zD <| zB <| g_u (zF rfl rfl xI rfl) <| g_u (zG rfl rfl rfl tA5 tS5 rfl rfl) <| g_u (yz rfl rfl rfl) <| zH <| zA ?_
            refine zN rfl (fun hb7 => ?_) (fun hb7 => ?_)
            · refine zD ?_
              refine zD <| zB <| g_u (zE rfl rfl) <| zH <| zA <| zU ?_
              refine zw (fun j : Nat × ByteArray => [(1, .ptr 1001 0), (1001, .box 70 (.imm v.av)), (3, .imm (sv j.2)), (5, .imm (iv (j.1 : Int)))]) (fun j => j.1 ≤ v.map.length ∧ lst j.2 = vC true (v.map.take j.1)) (fun j => v.map.length - j.1) (⟨0, ⟨#[]⟩⟩) ?_ ⟨rfl, rfl, rfl, rfl, trivial⟩ ?_
              · exact ⟨Nat.zero_le _, rfl⟩
              · rintro ⟨i, t⟩ ⟨h1, h2⟩; dsimp only at h1 h2; have hlen : t.size ≤ 150 * wtAs (v.map.take i) := by rw [← yE t, h2]; exact jsonAs_len _ _
                have htk := sr v.map i
                refine zD <| zD <| zB <| g_u (zC rfl rfl) <| g_u (zF rfl rfl rO rfl) <| g_u (zG rfl rfl rfl tA44 tS44 rfl rfl) <| g_u (z7 rfl rfl Tryz.underlying44) <| g_u (ye rfl rfl rfl) <| zH <| zA ?_
                refine zN rfl (fun hb8 => ?_) (fun hb8 => ?_)
                · have hia : i < v.map.length := by have := of_decide_eq_true hb8; simp only [List.length_map] at this; omega
                  have hka : (nthA v.map i).key.size ≤ 100000000000 := by have q1 := yn hia; have q4 := (nthA v.map i).wt_eq; omega
                  refine zQ <| zA <| zD <| zU <| y_ xR <| g_u (zC rfl rfl) <| g_u (zC rfl rfl) <| g_u (zP (rcomma_c _) rfl rfl) ?_
                  refine g_u (y5 rfl rfl rfl (by show _ ≤ (9223372036854775807 : Int); (try dsimp only); first | (have q1 := vF hiv; have q2 := yb (nthV v.list i); have q3 := yL (i == 0); simp only [zo, ze, c1, c2, c3, c4, c5]; omega) | (have q1 := yn hia; have q2 := wT (nthA v.map i); have q3 := yL (i == 0); have q4 := (nthA v.map i).wt_eq; have q5 := yA (lst (nthA v.map i).key); have q6 := yE (nthA v.map i).key; have q7 := yb (nthA v.map i).val; simp only [zo, ze, c1, c2, c3, c4, c5]; omega) | (simp only [zo, ze, c1, c2, c3, c4, c5]; omega))) ?_
                  refine g_u (zF rfl rfl rO rfl) <| g_u (zG rfl rfl rfl tA44 tS44 rfl rfl) <| g_u (zC rfl rfl) ?_
                  refine g_u (zR rfl rfl rfl Tryz.underlying44 tS72 (by omega) (ixA hia)) ?_
                  refine g_u (zf rfl rfl uq rfl rfl) <| g_u (zd rfl rfl tA9 tS9 rfl rfl) ?_
                  refine g_u (zP (rquote_c _ (by first | exact hka | (rw [ze]; omega))) rfl rfl) ?_
                  refine g_u (y5 rfl rfl rfl (by show _ ≤ (9223372036854775807 : Int); (try dsimp only); first | (have q1 := vF hiv; have q2 := yb (nthV v.list i); have q3 := yL (i == 0); simp only [zo, ze, c1, c2, c3, c4, c5]; omega) | (have q1 := yn hia; have q2 := wT (nthA v.map i); have q3 := yL (i == 0); have q4 := (nthA v.map i).wt_eq; have q5 := yA (lst (nthA v.map i).key); have q6 := yE (nthA v.map i).key; have q7 := yb (nthA v.map i).val; simp only [zo, ze, c1, c2, c3, c4, c5]; omega) | (simp only [zo, ze, c1, c2, c3, c4, c5]; omega))) ?_
                  refine g_u (y5 rfl rfl rfl (by show _ ≤ (9223372036854775807 : Int); (try dsimp only); first | (have q1 := vF hiv; have q2 := yb (nthV v.list i); have q3 := yL (i == 0); simp only [zo, ze, c1, c2, c3, c4, c5]; omega) | (have q1 := yn hia; have q2 := wT (nthA v.map i); have q3 := yL (i == 0); have q4 := (nthA v.map i).wt_eq; have q5 := yA (lst (nthA v.map i).key); have q6 := yE (nthA v.map i).key; have q7 := yb (nthA v.map i).val; simp only [zo, ze, c1, c2, c3, c4, c5]; omega) | (simp only [zo, ze, c1, c2, c3, c4, c5]; omega))) ?_
                  refine g_u (zF rfl rfl rO rfl) <| g_u (zG rfl rfl rfl tA44 tS44 rfl rfl) <| g_u (zC rfl rfl) ?_
                  refine g_u (zR rfl rfl rfl Tryz.underlying44 tS72 (by omega) (ixA hia)) ?_
                  refine g_u (zf rfl rfl ul rfl rfl) <| g_u (zd rfl rfl tA70 tS70 rfl rfl) ?_
                  refine g_u (zP ((by first | exact ih _ (uy hiv) | exact ihm _ (xY hia))) rfl rfl) ?_
                  refine g_u (y5 rfl rfl rfl (by show _ ≤ (9223372036854775807 : Int); (try dsimp only); first | (have q1 := vF hiv; have q2 := yb (nthV v.list i); have q3 := yL (i == 0); simp only [zo, ze, c1, c2, c3, c4, c5]; omega) | (have q1 := yn hia; have q2 := wT (nthA v.map i); have q3 := yL (i == 0); have q4 := (nthA v.map i).wt_eq; have q5 := yA (lst (nthA v.map i).key); have q6 := yE (nthA v.map i).key; have q7 := yb (nthA v.map i).val; simp only [zo, ze, c1, c2, c3, c4, c5]; omega) | (simp only [zo, ze, c1, c2, c3, c4, c5]; omega))) ?_
                  refine g_u (zE rfl rfl) ?_
                  refine zH ⟨by kernel_rfl, ?_⟩
                  refine zW <| zA <| zB <| g_u (zC rfl rfl) <| g_u (z0 rfl rfl rfl) <| g_u (zE rfl rfl) <| zH <| zA ?_
                  refine ⟨⟨i + 1, _⟩, ⟨hia, ?_⟩, ⟨rfl, rfl, rfl, zX rfl (by rw [zO (by omega) (by omega)]; rfl), trivial⟩, by dsimp only; omega⟩
                  show lst (t ++ yF (sk (i == 0)) ++ yF (vZ (lst (nthA v.map i).key)) ++ ⟨#[58]⟩ ++ yF (xC (nthA v.map i).val)) = _
                  rw [rm hia, s6, x_, x_, x_, x_, yN, yN, yN, h2]
                  simp only [List.append_assoc]
                  rfl
                · have hi : i = v.map.length := by have := of_decide_eq_false hb8; simp only [List.length_map] at this; omega
                  refine zz <| zT <| zT <| zq <| zA <| zD <| zB <| g_u (zC rfl rfl) ?_
                  refine g_u (y5 rfl rfl rfl (by show _ ≤ (9223372036854775807 : Int); (try dsimp only); first | (have q1 := vF hiv; have q2 := yb (nthV v.list i); have q3 := yL (i == 0); simp only [zo, ze, c1, c2, c3, c4, c5]; omega) | (have q1 := yn hia; have q2 := wT (nthA v.map i); have q3 := yL (i == 0); have q4 := (nthA v.map i).wt_eq; have q5 := yA (lst (nthA v.map i).key); have q6 := yE (nthA v.map i).key; have q7 := yb (nthA v.map i).val; simp only [zo, ze, c1, c2, c3, c4, c5]; omega) | (simp only [zo, ze, c1, c2, c3, c4, c5]; omega))) ?_
                  refine g_u (y5 rfl rfl rfl (by show _ ≤ (9223372036854775807 : Int); (try dsimp only); first | (have q1 := vF hiv; have q2 := yb (nthV v.list i); have q3 := yL (i == 0); simp only [zo, ze, c1, c2, c3, c4, c5]; omega) | (have q1 := yn hia; have q2 := wT (nthA v.map i); have q3 := yL (i == 0); have q4 := (nthA v.map i).wt_eq; have q5 := yA (lst (nthA v.map i).key); have q6 := yE (nthA v.map i).key; have q7 := yb (nthA v.map i).val; simp only [zo, ze, c1, c2, c3, c4, c5]; omega) | (simp only [zo, ze, c1, c2, c3, c4, c5]; omega))) ?_
                  refine g_u (zE rfl rfl) <| zH <| zA <| zL <| zK ?_
                  exact ⟨⟨(rfl : toAV (Al.look _ _) = some _).trans (congrArg some (by (simp only [beq_iff_eq, beq_eq_false_iff_ne, ne_eq, decide_eq_true_eq, decide_eq_false_iff_not] at *; rw [json7 (by omega)]; refine congrArg sv (uw ?_); show lst (⟨#[123]⟩ ++ t ++ ⟨#[125]⟩) = _; rw [x_, x_, h2, hi, List.take_of_length_le (Nat.le_refl _)]; rfl))), rfl⟩, trivial⟩
            · refine zQ ?_
              refine zA <| zD <| zB <| g_u (zG rfl rfl rfl tA70 tS70 rfl rfl) <| g_u (zP (sj _ ho hw) rfl rfl) <| g_u (zE rfl rfl) <| zH <| zA <| zL ?_
              exact ⟨⟨(rfl : toAV (Al.look _ _) = some _).trans (congrArg some (by (simp only [beq_iff_eq, beq_eq_false_iff_ne, ne_eq, decide_eq_true_eq, decide_eq_false_iff_not] at *; rw [jsonE (by omega)]))), rfl⟩, trivial⟩
theorem rjson_c (v : GV) : v.ok → v.wt ≤ 10000000 → zn Tryz.prog Γ0 105 [v.av] [sv (yF (xC v))] := by
  refine GV.ind (P := fun v => v.ok → v.wt ≤ 10000000 → zn Tryz.prog Γ0 105 [v.av] [sv (yF (xC v))]) ?_ v
  intro v h1 h2 ho hw
  have ok := v.ok_iff.1 ho
  have ek := v.wt_eq
  refine rjson_step v ho hw (fun y hy => h1 y hy (ok.2.2.2.2.1 y hy) ?_) (fun a ha => h2 a ha ((GA.ok_iff a).1 (ok.2.2.2.2.2 a ha)).2 ?_)
  · have := s9 hy; omega
  · have := xy ha; have := a.wt_eq; omega
theorem rtext_c (v : GV) (ho : v.ok) (hw : v.wt ≤ 10000000) : zn Tryz.prog Γ0 74 [v.av] [sv (xA v)] := by
  refine z_ Tryz.func74 rfl Tryz.ntmps74 (by kernel_rfl) rfl fun w0 I0 G0 => ?_
  refine zD <| zB <| g_uG (zk 1001 rfl rfl rfl rfl) rfl <| g_u (zE rfl rfl) <| zH <| zA <| zD <| zD <| zB <| g_u (zF rfl rfl xI rfl) <| g_u (zG rfl rfl rfl tA5 tS5 rfl rfl) <| g_u (yz rfl rfl rfl) <| g_u (zC rfl rfl) <| yB (t := 6) rfl ?_
  rintro (hb1 | hb1)
  · rw [hb1]
    refine zI rfl rfl rfl <| zI rfl rfl rfl <| zI rfl rfl rfl <| g_u (zZ rfl rfl rfl) <| zH <| zA <| zs rfl <| zD <| zB <| g_u (zG rfl rfl rfl tA70 tS70 rfl rfl) <| g_u (zP (rjson_c v ho hw) rfl rfl) <| g_u (zE rfl rfl) <| zH <| zA <| zL <| zK ?_
    exact ⟨⟨(rfl : toAV (Al.look _ _) = some _).trans (congrArg some (by (simp only [beq_iff_eq, beq_eq_false_iff_ne, ne_eq, decide_eq_true_eq, decide_eq_false_iff_not] at *; first | rw [text6 (by omega)] | rw [textE (by omega)]))), rfl⟩, trivial⟩
  · rw [hb1]
    refine zY rfl rfl (zF rfl rfl xI rfl) <| zY rfl rfl (zG rfl rfl rfl tA5 tS5 rfl rfl) <| zY rfl rfl (yz rfl rfl rfl) <| g_u (zh rfl rfl rfl) <| zH <| zA ?_
    refine zN rfl (fun hb2 => ?_) (fun hb2 => ?_)
    · refine zD ?_
      refine zB <| g_u (zG rfl rfl rfl tA70 tS70 rfl rfl) <| g_u (zP (rjson_c v ho hw) rfl rfl) <| g_u (zE rfl rfl) <| zH <| zA <| zL <| zK ?_
      exact ⟨⟨(rfl : toAV (Al.look _ _) = some _).trans (congrArg some (by (simp only [beq_iff_eq, beq_eq_false_iff_ne, ne_eq, decide_eq_true_eq, decide_eq_false_iff_not] at *; first | rw [text6 (by omega)] | rw [textE (by omega)]))), rfl⟩, trivial⟩
    · refine zQ ?_
      refine zA <| zD <| zB <| g_u (zG rfl rfl rfl tA70 tS70 rfl rfl) <| g_u (zP (sj _ ho hw) rfl rfl) <| g_u (zE rfl rfl) <| zH <| zA <| zL ?_
      exact ⟨⟨(rfl : toAV (Al.look _ _) = some _).trans (congrArg some (by (simp only [beq_iff_eq, beq_eq_false_iff_ne, ne_eq, decide_eq_true_eq, decide_eq_false_iff_not] at *; first | rw [text6 (by omega)] | rw [textE (by omega)]))), rfl⟩, trivial⟩
end Go.Proofs
namespace Go.Proofs
open Go Go.Al
set_option maxRecDepth 10000
def truthB (n : Int) : Bs := if n = 0 then [102, 97, 108, 115, 101] else [116, 114, 117, 101]
def wl (v : GV) : AV :=
  if v.kind = 0 then .ifc 164 (sv (yF [110, 117, 108, 108]))
  else if v.kind = 1 then .ifc 163 (sv v.text)
  else if v.kind = 2 then .ifc 164 (sv (yF (truthB v.num)))
  else if v.kind = 3 then .ifc 164 (sv (yF (decB v.num)))
  else if v.kind = 4 then .ifc 163 (sv (yF (48 :: 120 :: hexB (be 8 v.bits.toNat))))
  else if v.kind = 5 then .ifc 163 (sv (yF (hexB (lst v.text))))
  else if v.kind = 6 then .ifc 182 (.sl 6 (v.list.map avV))
  else if v.kind = 7 then .ifc 183 (.sl 7 (v.map.map avA))
  else .ifc 164 (sv ⟨#[]⟩)
theorem truth_c (n : Int) : zn Tryz.prog Γ0 144 [iv n] [sv (yF (truthB n))] := by
  refine z_ Tryz.func144 rfl Tryz.ntmps144 (by kernel_rfl) rfl fun w0 I0 G0 => ?_
  refine zD <| zB <| g_u (zE rfl rfl) <| zH <| zA <| zD <| zD <| zB <| g_u (zC rfl rfl) <| g_u (xl rfl rfl rfl) <| zH <| zA ?_
  refine zN rfl (fun hb1 => ?_) (fun hb1 => ?_)
  · refine zD ?_
    refine zB <| g_u (zE rfl rfl) <| zH <| zA <| zL <| zK ?_
    exact ⟨⟨(rfl : toAV (Al.look _ _) = some _).trans (congrArg some (by (unfold truthB; first | (rw [if_neg (by simpa using hb1)]; rfl) | (rw [if_pos (by simpa using hb1)]; rfl)))), rfl⟩, trivial⟩
  · refine zQ ?_
    refine zA <| zD <| zB <| g_u (zE rfl rfl) <| zH <| zA <| zL ?_
    exact ⟨⟨(rfl : toAV (Al.look _ _) = some _).trans (congrArg some (by (unfold truthB; first | (rw [if_neg (by simpa using hb1)]; rfl) | (rw [if_pos (by simpa using hb1)]; rfl)))), rfl⟩, trivial⟩
theorem double_c (u : Int) (h : 0 ≤ u ∧ u < 18446744073709551616) : zn Tryz.prog Γ0 146 [uv u] [sv (yF (48 :: 120 :: hexB (be 8 u.toNat)))] := by
  have c1 : (ByteArray.mk #[48, 120]).size = 2 := rfl
  refine z_ Tryz.func146 rfl Tryz.ntmps146 (by kernel_rfl) rfl fun w0 I0 G0 => ?_
  refine zD <| zB <| g_u (zE rfl rfl) <| zH <| zA <| zD <| zB <| g_u (zC rfl rfl) ?_
  refine g_u (zP (nil1 (n := 1) (high_c [] u h (by simp))) rfl rfl) ?_
  refine g_u (tq (rfl) rfl rfl Tryz.underlying42 Tryz.underlying9 Tryz.underlying5) ?_
  refine g_u (zP (htext_c _ (by rw [ze]; simp only [List.nil_append, wC]; omega)) rfl rfl) ?_
  refine g_u (y5 rfl rfl rfl (by show _ ≤ (9223372036854775807 : Int); simp only [ze, yG, yN, List.nil_append, wC, c1]; omega)) ?_
  refine g_u (zE rfl rfl) <| zH <| zA <| zL ?_
  exact ⟨⟨(rfl : toAV (Al.look _ _) = some _).trans (congrArg some (by (rw [yN]; rfl))), rfl⟩, trivial⟩
theorem sq (v : GV) (ho : v.ok) (hw : v.wt ≤ 10000000) : zn Tryz.prog Γ0 120 [v.av] [wl v] := by
  have lv := xh v.list
  have la := yv v.map
  have ek := v.wt_eq
  have ok := v.ok_iff.1 ho
  have sl := yr v
  have jl := yb v
  refine z_ Tryz.func120 rfl Tryz.ntmps120 (by kernel_rfl) rfl fun w0 I0 G0 => ?_
  refine zD <| zB <| g_uG (zk 1001 rfl rfl rfl rfl) rfl <| g_u (zE rfl rfl) <| zH <| zA <| zD <| zD <| zB <| g_u (zF rfl rfl xI rfl) <| g_u (zG rfl rfl rfl tA5 tS5 rfl rfl) <| zH <| zA <| zU <| zD <| zB <| g_u (yz rfl rfl rfl) <| g_u (zE rfl rfl) <| zH <| zA ?_
  refine zN rfl (fun hb1 => ?_) (fun hb1 => ?_)
  · refine zD ?_
    refine zB <| g_u (xw rfl rfl nI164) <| g_u (zE rfl rfl) <| zH <| zA <| zL <| zt <| zK ?_
    exact ⟨⟨(rfl : toAV (Al.look _ _) = some _).trans (congrArg some (by (simp only [beq_iff_eq, beq_eq_false_iff_ne, ne_eq, decide_eq_true_eq, decide_eq_false_iff_not] at *; unfold wl; (repeat (first | rw [if_pos (by omega)] | rw [if_neg (by omega)])); (first | done | rfl)))), rfl⟩, trivial⟩
  · refine zD ?_
    refine zB <| g_u (yz rfl rfl rfl) <| g_u (zE rfl rfl) <| zH <| zA ?_
    refine zN rfl (fun hb2 => ?_) (fun hb2 => ?_)
    · refine zD ?_
      refine zB <| g_u (zF rfl rfl sc rfl) <| g_u (zG rfl rfl rfl tA9 tS9 rfl rfl) <| g_u (xw rfl rfl nI163) <| g_u (zE rfl rfl) <| zH <| zA <| zL <| zt <| zK ?_
      exact ⟨⟨(rfl : toAV (Al.look _ _) = some _).trans (congrArg some (by (simp only [beq_iff_eq, beq_eq_false_iff_ne, ne_eq, decide_eq_true_eq, decide_eq_false_iff_not] at *; unfold wl; (repeat (first | rw [if_pos (by omega)] | rw [if_neg (by omega)])); (first | done | rfl)))), rfl⟩, trivial⟩
    · refine zD ?_
      refine zB <| g_u (yz rfl rfl rfl) <| g_u (zE rfl rfl) <| zH <| zA ?_
      refine zN rfl (fun hb3 => ?_) (fun hb3 => ?_)
      · refine zD ?_
        refine zB <| g_u (zF rfl rfl rP rfl) <| g_u (zG rfl rfl rfl tA3 tS3 rfl rfl) <| g_u (zP (truth_c _) rfl rfl) <| g_u (xw rfl rfl nI164) <| g_u (zE rfl rfl) <| zH <| zA <| zL <| zt <| zK ?_
        exact ⟨⟨(rfl : toAV (Al.look _ _) = some _).trans (congrArg some (by (simp only [beq_iff_eq, beq_eq_false_iff_ne, ne_eq, decide_eq_true_eq, decide_eq_false_iff_not] at *; unfold wl; (repeat (first | rw [if_pos (by omega)] | rw [if_neg (by omega)])); (first | done | rfl)))), rfl⟩, trivial⟩
      · refine zD ?_
        refine zB <| g_u (yz rfl rfl rfl) <| g_u (zE rfl rfl) <| zH <| zA ?_
        refine zN rfl (fun hb4 => ?_) (fun hb4 => ?_)
        · refine zD ?_
          refine zB <| g_u (zF rfl rfl rP rfl) <| g_u (zG rfl rfl rfl tA3 tS3 rfl rfl) ?_
          refine g_u (zP (nil1 (n := 1) (dput_c [] _ ok.2.2.1 (by simp))) rfl rfl) ?_
          refine g_u (tq (rfl) rfl rfl Tryz.underlying42 Tryz.underlying164 Tryz.underlying5) <| g_u (xw rfl rfl nI164) <| g_u (zE rfl rfl) <| zH <| zA <| zL <| zt <| zK ?_
          exact ⟨⟨(rfl : toAV (Al.look _ _) = some _).trans (congrArg some (by (simp only [beq_iff_eq, beq_eq_false_iff_ne, ne_eq, decide_eq_true_eq, decide_eq_false_iff_not] at *; unfold wl; (repeat (first | rw [if_pos (by omega)] | rw [if_neg (by omega)])); (first | done | rfl)))), rfl⟩, trivial⟩
        · refine zD ?_
          refine zB <| g_u (yz rfl rfl rfl) <| g_u (zE rfl rfl) <| zH <| zA ?_
          refine zN rfl (fun hb5 => ?_) (fun hb5 => ?_)
          · refine zD ?_
            refine zB <| g_u (zF rfl rfl fa70_3 rfl) <| g_u (zG rfl rfl rfl tA57 tS57 rfl rfl) <| g_u (zP (double_c _ ok.2.2.2.1) rfl rfl) <| g_u (xw rfl rfl nI163) <| g_u (zE rfl rfl) <| zH <| zA <| zL <| zt <| zK ?_
            exact ⟨⟨(rfl : toAV (Al.look _ _) = some _).trans (congrArg some (by (simp only [beq_iff_eq, beq_eq_false_iff_ne, ne_eq, decide_eq_true_eq, decide_eq_false_iff_not] at *; unfold wl; (repeat (first | rw [if_pos (by omega)] | rw [if_neg (by omega)])); (first | done | rfl)))), rfl⟩, trivial⟩
          · refine zD ?_
            refine zB <| g_u (yz rfl rfl rfl) <| g_u (zE rfl rfl) <| zH <| zA ?_
            refine zN rfl (fun hb6 => ?_) (fun hb6 => ?_)
            · refine zD ?_
              refine zB <| g_u (zF rfl rfl sc rfl) <| g_u (zG rfl rfl rfl tA9 tS9 rfl rfl) ?_
              refine g_u (zP (htext_c _ (by omega)) rfl rfl) ?_
              refine g_u (xw rfl rfl nI163) <| g_u (zE rfl rfl) <| zH <| zA <| zL <| zt <| zK ?_
              exact ⟨⟨(rfl : toAV (Al.look _ _) = some _).trans (congrArg some (by (simp only [beq_iff_eq, beq_eq_false_iff_ne, ne_eq, decide_eq_true_eq, decide_eq_false_iff_not] at *; unfold wl; (repeat (first | rw [if_pos (by omega)] | rw [if_neg (by omega)])); (first | done | rfl)))), rfl⟩, trivial⟩
            · refine zD ?_
              refine zB <| g_u (yz rfl rfl rfl) <| g_u (zE rfl rfl) <| zH <| zA ?_
              refine zN rfl (fun hb7 => ?_) (fun hb7 => ?_)
              · refine zD ?_
                refine zB <| g_u (zF rfl rfl rR rfl) <| g_u (zG rfl rfl rfl tA68 tS68 rfl rfl) <| g_u (xw rfl rfl nI182) <| g_u (zE rfl rfl) <| zH <| zA <| zL <| zt <| zK ?_
                exact ⟨⟨(rfl : toAV (Al.look _ _) = some _).trans (congrArg some (by (simp only [beq_iff_eq, beq_eq_false_iff_ne, ne_eq, decide_eq_true_eq, decide_eq_false_iff_not] at *; unfold wl; (repeat (first | rw [if_pos (by omega)] | rw [if_neg (by omega)])); (first | done | rfl)))), rfl⟩, trivial⟩
              · refine zD ?_
                refine zB <| g_u (yz rfl rfl rfl) <| g_u (zE rfl rfl) <| zH <| zA ?_
                refine zN rfl (fun hb8 => ?_) (fun hb8 => ?_)
                · refine zD ?_
                  refine zB <| g_u (zF rfl rfl rO rfl) <| g_u (zG rfl rfl rfl tA44 tS44 rfl rfl) <| g_u (xw rfl rfl nI183) <| g_u (zE rfl rfl) <| zH <| zA <| zL <| zt <| zK ?_
                  exact ⟨⟨(rfl : toAV (Al.look _ _) = some _).trans (congrArg some (by (simp only [beq_iff_eq, beq_eq_false_iff_ne, ne_eq, decide_eq_true_eq, decide_eq_false_iff_not] at *; unfold wl; (repeat (first | rw [if_pos (by omega)] | rw [if_neg (by omega)])); (first | done | rfl)))), rfl⟩, trivial⟩
                · refine zQ ?_
                  refine zW <| zA <| zD <| zB <| g_u (xw rfl rfl nI164) <| g_u (zE rfl rfl) <| zH <| zA <| zL ?_
                  exact ⟨⟨(rfl : toAV (Al.look _ _) = some _).trans (congrArg some (by (simp only [beq_iff_eq, beq_eq_false_iff_ne, ne_eq, decide_eq_true_eq, decide_eq_false_iff_not] at *; unfold wl; (repeat (first | rw [if_pos (by omega)] | rw [if_neg (by omega)])); (first | done | rfl)))), rfl⟩, trivial⟩
theorem thing_p {v : GV} (h : v.kind ≠ 1 ∧ v.kind ≠ 4 ∧ v.kind ≠ 5 ∧ v.kind ≠ 6 ∧ v.kind ≠ 7) (c : zn Tryz.prog Γ0 120 [v.av] [wl v]) : zn Tryz.prog Γ0 120 [v.av] [.ifc 164 (sv (yF (xC v)))] := by
  have e : wl v = .ifc 164 (sv (yF (xC v))) := by
    unfold wl
    by_cases h0 : v.kind = 0
    · rw [if_pos h0, json0 h0]
    · rw [if_neg h0, if_neg h.1, jsonE (by omega)]
      by_cases h2 : v.kind = 2
      · rw [if_pos h2]
        by_cases hn : v.num = 0
        · rw [simp2 h2 hn, truthB, if_pos hn]
        · rw [tO h2 hn, truthB, if_neg hn]
      · rw [if_neg h2]
        by_cases h3 : v.kind = 3
        · rw [if_pos h3, simp3 h3]
        · rw [if_neg h3, if_neg h.2.1, if_neg h.2.2.1, if_neg h.2.2.2.1, if_neg h.2.2.2.2, r6 (by omega)]; rfl
  rw [← e]; exact c
theorem thing_q {v : GV} (h : v.kind = 1 ∨ v.kind = 4 ∨ v.kind = 5) (c : zn Tryz.prog Γ0 120 [v.av] [wl v]) : zn Tryz.prog Γ0 120 [v.av] [.ifc 163 (sv (yF (wE v)))] := by
  have e : wl v = .ifc 163 (sv (yF (wE v))) := by
    unfold wl
    rcases h with h | h | h
    · rw [if_neg (by omega), if_pos h, re h]
    · rw [if_neg (by omega), if_neg (by omega), if_neg (by omega), if_neg (by omega), if_pos h, simp4 h]
    · rw [if_neg (by omega), if_neg (by omega), if_neg (by omega), if_neg (by omega), if_neg (by omega), if_pos h, simp5 h]
  rw [← e]; exact c
theorem thing_l {v : GV} (h : v.kind = 6) (c : zn Tryz.prog Γ0 120 [v.av] [wl v]) : zn Tryz.prog Γ0 120 [v.av] [.ifc 182 (.sl 6 (v.list.map avV))] := by
  have e : wl v = .ifc 182 (.sl 6 (v.list.map avV)) := by
    unfold wl
    rw [if_neg (by omega), if_neg (by omega), if_neg (by omega), if_neg (by omega), if_neg (by omega), if_neg (by omega), if_pos h]
  rw [← e]; exact c
theorem thing_m {v : GV} (h : v.kind = 7) (c : zn Tryz.prog Γ0 120 [v.av] [wl v]) : zn Tryz.prog Γ0 120 [v.av] [.ifc 183 (.sl 7 (v.map.map avA))] := by
  have e : wl v = .ifc 183 (.sl 7 (v.map.map avA)) := by
    unfold wl
    rw [if_neg (by omega), if_neg (by omega), if_neg (by omega), if_neg (by omega), if_neg (by omega), if_neg (by omega), if_neg (by omega), if_pos h]
  rw [← e]; exact c
theorem lay_p (v : GV) (ho : v.ok) (hw : v.wt ≤ 10000000) (xs : List AV) (hx : W1 xs) (hl : xs.length + 150 * v.wt ≤ 5000000000) (hk : v.kind ≠ 1 ∧ v.kind ≠ 4 ∧ v.kind ≠ 5 ∧ v.kind ≠ 6 ∧ v.kind ≠ 7) : tE Tryz.prog Γ0 148 [.slg 100001 1 xs, .imm v.av] [(100001, .tok 1 xs)] (.slg 100001 1 (xs ++ zx (xC v))) [(100001, .tok 1 (xs ++ zx (xC v)))] := by
  have lv := xh v.list
  have la := yv v.map
  have ek := v.wt_eq
  have ok := v.ok_iff.1 ho
  have sl := yr v
  have jl := yb v
  have e0 : zx (yF (xC v)).data.toList = zx (xC v) := by rw [xU]
  refine vE (rs := [.slg 100001 1 (xs ++ zx (xC v))]) Tryz.func148 rfl Tryz.ntmps148 (by kernel_rfl) rfl rfl rfl rfl rfl fun w0 I0 G0 E => ?_
  refine zD <| zB <| g_uG (zk 1003 rfl rfl rfl rfl) rfl <| g_u (zE rfl rfl) <| zH <| zA <| zD <| zD <| zB <| g_u (zG rfl rfl rfl tA70 tS70 rfl rfl) <| g_u (zP (thing_p hk (sq v ho hw)) rfl rfl) <| zH <| zA <| zU <| zD <| zB <| g_u (vK rfl rfl nI164) <| g_u (zp rfl rfl rfl rfl) <| g_u (zp rfl rfl rfl rfl) <| zH <| zA <| zs rfl <| zD <| zB <| g_u (zE rfl rfl) <| zH <| zA <| zD <| zB <| g_u (yW rfl rfl) <| g_u (zC rfl rfl) ?_
  refine g_u (s_appendS rfl rfl rfl rfl rfl Tryz.underlying42 Tryz.underlying164 tS5 zv5 rfl by5 (by rw [ze]; omega) (by rw [ze]; omega)) ?_
  refine g_u (yY rfl rfl) <| zH <| zA <| zL <| zt <| zK ?_
  exact ⟨⟨.inr ⟨_, rfl, yl rfl (by rw [e0]), rfl⟩, trivial⟩, ⟨yf rfl (by rw [e0]), trivial⟩⟩
theorem lay_q (v : GV) (ho : v.ok) (hw : v.wt ≤ 10000000) (xs : List AV) (hx : W1 xs) (hl : xs.length + 150 * v.wt ≤ 5000000000) (hk : v.kind = 1 ∨ v.kind = 4 ∨ v.kind = 5) : tE Tryz.prog Γ0 148 [.slg 100001 1 xs, .imm v.av] [(100001, .tok 1 xs)] (.slg 100001 1 (xs ++ zx (xC v))) [(100001, .tok 1 (xs ++ zx (xC v)))] := by
  have lv := xh v.list
  have la := yv v.map
  have ek := v.wt_eq
  have ok := v.ok_iff.1 ho
  have sl := yr v
  have jl := yb v
  refine vE (rs := [.slg 100001 1 (xs ++ zx (xC v))]) Tryz.func148 rfl Tryz.ntmps148 (by kernel_rfl) rfl rfl rfl rfl rfl fun w0 I0 G0 E => ?_
  refine zD <| zB <| g_uG (zk 1003 rfl rfl rfl rfl) rfl <| g_u (zE rfl rfl) <| zH <| zA <| zD <| zD <| zB <| g_u (zG rfl rfl rfl tA70 tS70 rfl rfl) <| g_u (zP (thing_q hk (sq v ho hw)) rfl rfl) <| zH <| zA <| zU <| zD <| zB ?_
  refine g_u (xO rfl rfl nI164 tZ164 (fun z h => by rw [zv164] at h; cases h; rfl) rfl) ?_
  refine g_u (zp rfl rfl rfl rfl) <| g_u (zp rfl rfl rfl rfl) <| zH <| zA <| yD rfl <| zD <| zB <| g_u (vK rfl rfl nI163) <| g_u (zp rfl rfl rfl rfl) <| g_u (zp rfl rfl rfl rfl) <| zH <| zA <| zs rfl <| zD <| zB <| g_u (zE rfl rfl) <| zH <| zA <| zD <| zB <| g_u (yW rfl rfl) <| g_u (zC rfl rfl) ?_
  refine g_uG (vg [(3014, 20001)] (jput_c _ _ hx (by rw [ze]; omega) (by omega)) rfl rfl ⟨.inr ⟨_, rfl, rfl⟩, .inl rfl, trivial⟩ trivial rfl rfl rfl) rfl ?_
  refine g_u (yY rfl rfl) <| zH <| zA ?_
  refine aw_renTok 20001 100001 1 (xs ++ zx (vZ (lst (yF (wE v))))) [(4, .slg 100001 1 (xs ++ zx (vZ (lst (yF (wE v))))))] rfl rfl rfl rfl rfl rfl ⟨.inr (.inl ⟨rfl, rfl⟩), trivial⟩ (by rw [List.length_append, yQ]; simp only [vZ, List.length_cons]; omega) ?_
  refine zL <| zt <| zK ?_
  exact ⟨⟨.inr ⟨_, rfl, yl rfl (by rw [jsonS hk, yN]), rfl⟩, trivial⟩, ⟨yf rfl (by rw [jsonS hk, yN]), trivial⟩⟩
theorem tu (c : UInt8) (l : Bs) : zx (c :: l) = .v (wr c) :: zx l := rfl
theorem rI : zx [] = [] := rfl
theorem W1.app {a b : List AV} (h : W1 a) (k : W1 b) : W1 (a ++ b) := fun x hx => (List.mem_append.1 hx).elim (h x) (k x)
theorem lay_l (v : GV) (ho : v.ok) (hw : v.wt ≤ 10000000) (xs : List AV) (hx : W1 xs) (hl : xs.length + 150 * v.wt ≤ 5000000000) (hk : v.kind = 6) (ih : ∀ y ∈ v.list, ∀ xs : List AV, W1 xs → xs.length + 150 * y.wt ≤ 5000000000 → tE Tryz.prog Γ0 148 [.slg 100001 1 xs, .imm y.av] [(100001, .tok 1 xs)] (.slg 100001 1 (xs ++ zx (xC y))) [(100001, .tok 1 (xs ++ zx (xC y)))]) : tE Tryz.prog Γ0 148 [.slg 100001 1 xs, .imm v.av] [(100001, .tok 1 xs)] (.slg 100001 1 (xs ++ zx (xC v))) [(100001, .tok 1 (xs ++ zx (xC v)))] := by
  have lv := xh v.list
  have la := yv v.map
  have ek := v.wt_eq
  have ok := v.ok_iff.1 ho
  have sl := yr v
  have jl := yb v
  refine vE (rs := [.slg 100001 1 (xs ++ zx (xC v))]) Tryz.func148 rfl Tryz.ntmps148 (by kernel_rfl) rfl rfl rfl rfl rfl fun w0 I0 G0 E => ?_
  refine zD <| zB <| g_uG (zk 1003 rfl rfl rfl rfl) rfl <| g_u (zE rfl rfl) <| zH <| zA <| zD <| zD <| zB <| g_u (zG rfl rfl rfl tA70 tS70 rfl rfl) <| g_u (zP (thing_l hk (sq v ho hw)) rfl rfl) <| zH <| zA <| zU <| zD <| zB ?_
  refine g_u (xO rfl rfl nI164 tZ164 (fun z h => by rw [zv164] at h; cases h; rfl) rfl) ?_
  refine g_u (zp rfl rfl rfl rfl) <| g_u (zp rfl rfl rfl rfl) <| zH <| zA <| yD rfl <| zD <| zB ?_
  refine g_u (xO rfl rfl nI163 tZ163 (fun z h => by rw [zv163] at h; cases h; rfl) rfl) ?_
  refine g_u (zp rfl rfl rfl rfl) <| g_u (zp rfl rfl rfl rfl) <| zH <| zA <| yD rfl <| zD <| zB <| g_u (vK rfl rfl nI182) <| g_u (zp rfl rfl rfl rfl) <| g_u (zp rfl rfl rfl rfl) <| zH <| zA <| zs rfl <| zD <| zB <| g_u (zE rfl rfl) <| zH <| zA <| zD <| zB <| g_u (yW rfl rfl) <| g_u (zl (X0 := z5) rfl Tryz.underlying42 tS5 tZ5 rfl rfl rfl rfl rfl rfl rfl rfl) ?_
  refine g_u (yh rfl rfl rfl rfl rfl Tryz.underlying42 Tryz.underlying42 tS5 zv5 rfl (by decide) by5 (by (try dsimp only); simp only [List.length_append, List.length_cons, List.length_nil]; omega) (by (try dsimp only); simp only [List.length_append, List.length_cons, List.length_nil]; omega)) ?_
  refine g_u (yY rfl rfl) <| zH <| zA <| zD <| zD <| zB <| g_u (zC rfl rfl) <| g_u (z7 rfl rfl Tryz.underlying182) <| g_u (zC rfl rfl) <| zH <| zA <| zU ?_
  refine zw (fun j : Nat × List AV => [(0, .slg 100001 1 j.2), (100001, .tok 1 j.2), (33, .imm (.sl 6 (v.list.map avV))), (34, .imm (iv (v.list.length : Int))), (35, .imm (iv (j.1 : Int)))]) (fun j => j.1 ≤ v.list.length ∧ j.2 = xs ++ zx (91 :: wu true (v.list.take j.1))) (fun j => v.list.length - j.1) (⟨0, xs ++ zx [91]⟩) ?_ ⟨rfl, rfl, rfl, zX rfl (by rw [List.length_map]), rfl, trivial⟩ ?_
  · exact ⟨Nat.zero_le _, rfl⟩
  · rintro ⟨i, ys⟩ ⟨h1, h2⟩; dsimp only at h1 h2; have hlen : ys.length ≤ xs.length + 1 + 150 * wtVs (v.list.take i) := by have := jsonVs_len (v.list.take i) true; rw [h2, List.length_append, yQ, List.length_cons]; omega
    have hwy : W1 ys := by rw [h2]; exact hx.app (W1.bytes _)
    have htk := jB v.list i
    refine zD <| zB <| g_u (ye rfl rfl rfl) <| zH <| zA <| zD ?_
    refine zN rfl (fun hb1 => ?_) (fun hb1 => ?_)
    · have hiv : i < v.list.length := by have := of_decide_eq_true hb1; simp only [List.length_map] at this; omega
      refine zQ <| zA <| zD <| zU <| zD <| zB <| g_u (zC rfl rfl) ?_
      refine g_u (zR rfl rfl rfl Tryz.underlying182 tS70 (by omega) (ixV hiv)) ?_
      refine g_u (zd rfl rfl tA70 tS70 rfl rfl) <| g_uG (zy 1009 rfl rfl rfl tZ70) rfl <| g_u (zE rfl rfl) <| g_u (zV rfl rfl rfl tS70 rfl rfl) <| zH <| zA <| zD <| zD <| zB <| g_u (zC rfl rfl) <| g_u (wD rfl rfl rfl) <| zH <| zA ?_
      refine zN rfl (fun hb2 => ?_) (fun hb2 => ?_)
      · have hc : sk (i == 0) = [44] := by have hp : i ≠ 0 := (by have := of_decide_eq_true hb2; omega); rw [show (i == 0) = false from by simpa using hp]; rfl
        refine zB <| g_u (yW rfl rfl) <| g_u (zl (X0 := z5) rfl Tryz.underlying42 tS5 tZ5 rfl rfl rfl rfl rfl rfl rfl rfl) ?_
        refine g_u (yh rfl rfl rfl rfl rfl Tryz.underlying42 Tryz.underlying42 tS5 zv5 rfl (by decide) by5 (by (try dsimp only); simp only [List.length_append, List.length_cons, List.length_nil]; omega) (by (try dsimp only); simp only [List.length_append, List.length_cons, List.length_nil]; omega)) ?_
        refine g_u (yY rfl rfl) <| zH <| zA <| zB <| g_u (yW rfl rfl) <| g_u (yC rfl rfl rfl tA70 tS70 rfl rfl) ?_
        refine g_uG (vg [(100001, 100001)] (ih _ (uy hiv) _ (by first | exact hwy | exact hwy.app (W1.bytes [44])) (by have q1 := vF hiv; (try simp only [List.length_append, List.length_cons, List.length_nil]); omega)) rfl rfl ⟨.inl rfl, .inl rfl, trivial⟩ ⟨rfl, trivial⟩ rfl rfl rfl) rfl ?_
        refine g_u (yY rfl rfl) <| zH <| zW <| zA <| zB <| g_u (z0 rfl rfl rfl) <| g_u (zC rfl rfl) <| zH <| zA ?_
        refine ⟨⟨i + 1, _⟩, ⟨hiv, ?_⟩, ⟨rfl, rfl, rfl, rfl, zX rfl (by rw [zO (by omega) (by omega)]; rfl), trivial⟩, by dsimp only; omega⟩
        dsimp only
        rw [ro hiv, hc]
        subst h2
        simp only [List.append_assoc, List.cons_append, List.nil_append, ← yo, tu, rI, xU, yN]
        try rfl
      · have hc : sk (i == 0) = [] := by have hp : i = 0 := (by have := of_decide_eq_false hb2; omega); rw [hp]; rfl
        refine zQ <| zA <| zB <| g_u (yW rfl rfl) <| g_u (yC rfl rfl rfl tA70 tS70 rfl rfl) ?_
        refine g_uG (vg [(100001, 100001)] (ih _ (uy hiv) _ (by first | exact hwy | exact hwy.app (W1.bytes [44])) (by have q1 := vF hiv; (try simp only [List.length_append, List.length_cons, List.length_nil]); omega)) rfl rfl ⟨.inl rfl, .inl rfl, trivial⟩ ⟨rfl, trivial⟩ rfl rfl rfl) rfl ?_
        refine g_u (yY rfl rfl) <| zH <| zW <| zA <| zB <| g_u (z0 rfl rfl rfl) <| g_u (zC rfl rfl) <| zH <| zA ?_
        refine ⟨⟨i + 1, _⟩, ⟨hiv, ?_⟩, ⟨rfl, rfl, rfl, rfl, zX rfl (by rw [zO (by omega) (by omega)]; rfl), trivial⟩, by dsimp only; omega⟩
        dsimp only
        rw [ro hiv, hc]
        subst h2
        simp only [List.append_assoc, List.cons_append, List.nil_append, ← yo, tu, rI, xU, yN]
        try rfl
    · have hi : i = v.list.length := by have := of_decide_eq_false hb1; simp only [List.length_map] at this; omega
      refine zz <| zT <| zT <| zq <| zA <| zD <| zB <| g_u (yW rfl rfl) <| g_u (zl (X0 := z5) rfl Tryz.underlying42 tS5 tZ5 rfl rfl rfl rfl rfl rfl rfl rfl) ?_
      refine g_u (yh rfl rfl rfl rfl rfl Tryz.underlying42 Tryz.underlying42 tS5 zv5 rfl (by decide) by5 (by (try dsimp only); simp only [List.length_append, List.length_cons, List.length_nil]; omega) (by (try dsimp only); simp only [List.length_append, List.length_cons, List.length_nil]; omega)) ?_
      refine g_u (yY rfl rfl) <| zH <| zA <| zL <| zt <| zK ?_
      exact ⟨⟨.inr ⟨_, rfl, yl rfl (by rw [json6 hk, h2, hi, List.take_of_length_le (Nat.le_refl _), List.append_assoc]; exact congrArg (xs ++ ·) (yo _ [93])), rfl⟩, trivial⟩, ⟨yf rfl (by rw [json6 hk, h2, hi, List.take_of_length_le (Nat.le_refl _), List.append_assoc]; exact congrArg (xs ++ ·) (yo _ [93])), trivial⟩⟩
theorem lay_m (v : GV) (ho : v.ok) (hw : v.wt ≤ 10000000) (xs : List AV) (hx : W1 xs) (hl : xs.length + 150 * v.wt ≤ 5000000000) (hk : v.kind = 7) (ih : ∀ a ∈ v.map, ∀ xs : List AV, W1 xs → xs.length + 150 * a.val.wt ≤ 5000000000 → tE Tryz.prog Γ0 148 [.slg 100001 1 xs, .imm a.val.av] [(100001, .tok 1 xs)] (.slg 100001 1 (xs ++ zx (xC a.val))) [(100001, .tok 1 (xs ++ zx (xC a.val)))]) : tE Tryz.prog Γ0 148 [.slg 100001 1 xs, .imm v.av] [(100001, .tok 1 xs)] (.slg 100001 1 (xs ++ zx (xC v))) [(100001, .tok 1 (xs ++ zx (xC v)))] := by
  have lv := xh v.list
  have la := yv v.map
  have ek := v.wt_eq
  have ok := v.ok_iff.1 ho
  have sl := yr v
  have jl := yb v
  refine vE (rs := [.slg 100001 1 (xs ++ zx (xC v))]) Tryz.func148 rfl Tryz.ntmps148 (by kernel_rfl) rfl rfl rfl rfl rfl fun w0 I0 G0 E => ?_
  refine zD <| zB <| g_uG (zk 1003 rfl rfl rfl rfl) rfl <| g_u (zE rfl rfl) <| zH <| zA <| zD <| zD <| zB <| g_u (zG rfl rfl rfl tA70 tS70 rfl rfl) <| g_u (zP (thing_m hk (sq v ho hw)) rfl rfl) <| zH <| zA <| zU <| zD <| zB ?_
  refine g_u (xO rfl rfl nI164 tZ164 (fun z h => by rw [zv164] at h; cases h; rfl) rfl) ?_
  refine g_u (zp rfl rfl rfl rfl) <| g_u (zp rfl rfl rfl rfl) <| zH <| zA <| yD rfl <| zD <| zB ?_
  refine g_u (xO rfl rfl nI163 tZ163 (fun z h => by rw [zv163] at h; cases h; rfl) rfl) ?_
  refine g_u (zp rfl rfl rfl rfl) <| g_u (zp rfl rfl rfl rfl) <| zH <| zA <| yD rfl <| zD <| zB ?_
  refine g_u (xO rfl rfl nI182 tZ182 (fun z h => by rw [zv182] at h; cases h; rfl) rfl) ?_
  refine g_u (zp rfl rfl rfl rfl) <| g_u (zp rfl rfl rfl rfl) <| zH <| zA <| yD rfl <| zD <| zB <| g_u (vK rfl rfl nI183) <| g_u (zp rfl rfl rfl rfl) <| g_u (zp rfl rfl rfl rfl) <| zH <| zA <| zs rfl <| zD <| zB <| g_u (zE rfl rfl) <| zH <| zA <| zD <| zB <| g_u (yW rfl rfl) <| g_u (zl (X0 := z5) rfl Tryz.underlying42 tS5 tZ5 rfl rfl rfl rfl rfl rfl rfl rfl) ?_
  refine g_u (yh rfl rfl rfl rfl rfl Tryz.underlying42 Tryz.underlying42 tS5 zv5 rfl (by decide) by5 (by (try dsimp only); (try (have q1 := yn hia; have q2 := (nthA v.map i).wt_eq; have q3 := yA (lst (nthA v.map i).key); have q4 := yE (nthA v.map i).key)); (try simp only [List.length_append, List.length_cons, List.length_nil, yQ]); omega) (by (try dsimp only); (try (have q1 := yn hia; have q2 := (nthA v.map i).wt_eq; have q3 := yA (lst (nthA v.map i).key); have q4 := yE (nthA v.map i).key)); (try simp only [List.length_append, List.length_cons, List.length_nil, yQ]); omega)) ?_
  refine g_u (yY rfl rfl) <| zH <| zA <| zD <| zD <| zB <| g_u (zC rfl rfl) <| g_u (z7 rfl rfl Tryz.underlying183) <| g_u (zC rfl rfl) <| zH <| zA <| zU ?_
  refine zw (fun j : Nat × List AV => [(0, .slg 100001 1 j.2), (100001, .tok 1 j.2), (58, .imm (.sl 7 (v.map.map avA))), (59, .imm (iv (v.map.length : Int))), (60, .imm (iv (j.1 : Int)))]) (fun j => j.1 ≤ v.map.length ∧ j.2 = xs ++ zx (123 :: vC true (v.map.take j.1))) (fun j => v.map.length - j.1) (⟨0, xs ++ zx [123]⟩) ?_ ⟨rfl, rfl, rfl, zX rfl (by rw [List.length_map]), rfl, trivial⟩ ?_
  · exact ⟨Nat.zero_le _, rfl⟩
  · rintro ⟨i, ys⟩ ⟨h1, h2⟩; dsimp only at h1 h2; have hlen : ys.length ≤ xs.length + 1 + 150 * wtAs (v.map.take i) := by have := jsonAs_len (v.map.take i) true; rw [h2, List.length_append, yQ, List.length_cons]; omega
    have hwy : W1 ys := by rw [h2]; exact hx.app (W1.bytes _)
    have htk := sr v.map i
    refine zD <| zB <| g_u (ye rfl rfl rfl) <| zH <| zA <| zD ?_
    refine zN rfl (fun hb1 => ?_) (fun hb1 => ?_)
    · have hia : i < v.map.length := by have := of_decide_eq_true hb1; simp only [List.length_map] at this; omega
      have hka : (nthA v.map i).key.size ≤ 10000000000 := by have q1 := yn hia; have q4 := (nthA v.map i).wt_eq; omega
      refine zQ <| zA <| zD <| zU <| zD <| zB <| g_u (zC rfl rfl) ?_
      refine g_u (zR rfl rfl rfl Tryz.underlying183 tS72 (by omega) (ixA hia)) ?_
      refine g_u (zd rfl rfl tA72 tS72 rfl rfl) <| g_uG (zy 1012 rfl rfl rfl tZ72) rfl <| g_u (zE rfl rfl) <| g_u (zV rfl rfl rfl tS72 rfl rfl) <| zH <| zA <| zD <| zD <| zB <| g_u (zC rfl rfl) <| g_u (wD rfl rfl rfl) <| zH <| zA ?_
      refine zN rfl (fun hb2 => ?_) (fun hb2 => ?_)
      · have hc : sk (i == 0) = [44] := by have hp : i ≠ 0 := (by have := of_decide_eq_true hb2; omega); rw [show (i == 0) = false from by simpa using hp]; rfl
        refine zB <| g_u (yW rfl rfl) <| g_u (zl (X0 := z5) rfl Tryz.underlying42 tS5 tZ5 rfl rfl rfl rfl rfl rfl rfl rfl) ?_
        refine g_u (yh rfl rfl rfl rfl rfl Tryz.underlying42 Tryz.underlying42 tS5 zv5 rfl (by decide) by5 (by (try dsimp only); (try (have q1 := yn hia; have q2 := (nthA v.map i).wt_eq; have q3 := yA (lst (nthA v.map i).key); have q4 := yE (nthA v.map i).key)); (try simp only [List.length_append, List.length_cons, List.length_nil, yQ]); omega) (by (try dsimp only); (try (have q1 := yn hia; have q2 := (nthA v.map i).wt_eq; have q3 := yA (lst (nthA v.map i).key); have q4 := yE (nthA v.map i).key)); (try simp only [List.length_append, List.length_cons, List.length_nil, yQ]); omega)) ?_
        refine g_u (yY rfl rfl) <| zH <| zA <| y_ xR <| g_u (yW rfl rfl) <| g_u (zF rfl rfl uq rfl) <| g_u (zG rfl rfl rfl tA9 tS9 rfl rfl) ?_
        refine g_uG (vg [(3014, 20001)] (jput_c _ _ (by first | exact hwy | exact hwy.app (W1.bytes [44])) hka (by have q1 := yn hia; have q2 := (nthA v.map i).wt_eq; have q3 := yA (lst (nthA v.map i).key); have q4 := yE (nthA v.map i).key; (try simp only [List.length_append, List.length_cons, List.length_nil, yQ]); omega)) rfl rfl ⟨.inr ⟨_, rfl, rfl⟩, .inl rfl, trivial⟩ trivial rfl rfl rfl) rfl ?_
        refine g_u (zl (X0 := z5) rfl Tryz.underlying42 tS5 tZ5 rfl rfl rfl rfl rfl rfl rfl rfl) ?_
        refine g_u (yh rfl rfl rfl rfl rfl Tryz.underlying42 Tryz.underlying42 tS5 zv5 rfl (by decide) by5 (by (try dsimp only); (try (have q1 := yn hia; have q2 := (nthA v.map i).wt_eq; have q3 := yA (lst (nthA v.map i).key); have q4 := yE (nthA v.map i).key)); (try simp only [List.length_append, List.length_cons, List.length_nil, yQ]); omega) (by (try dsimp only); (try (have q1 := yn hia; have q2 := (nthA v.map i).wt_eq; have q3 := yA (lst (nthA v.map i).key); have q4 := yE (nthA v.map i).key)); (try simp only [List.length_append, List.length_cons, List.length_nil, yQ]); omega)) ?_
        refine g_u (zF rfl rfl ul rfl) <| g_u (zG rfl rfl rfl tA70 tS70 rfl rfl) ?_
        refine g_uG (vg [(100001, 20001)] (ih _ (xY hia) _ (by first | exact ((hwy.app (W1.bytes _)).app (W1.bytes [58])) | exact (((hwy.app (W1.bytes [44])).app (W1.bytes _)).app (W1.bytes [58]))) (by show _ + 150 * (nthA v.map i).val.wt ≤ 5000000000; have q1 := yn hia; have q2 := (nthA v.map i).wt_eq; have q3 := yA (lst (nthA v.map i).key); have q4 := yE (nthA v.map i).key; (try simp only [List.length_append, List.length_cons, List.length_nil, yQ]); omega)) rfl rfl ⟨.inl rfl, .inl rfl, trivial⟩ ⟨rfl, trivial⟩ rfl rfl rfl) rfl ?_
        refine g_u (yY rfl rfl) ?_
        refine zH ⟨by kernel_rfl, ?_⟩
        refine zW <| zA ?_
        refine aw_renTok 20001 100001 1 _ [(0, .slg 100001 1 _), (58, .imm (.sl 7 (v.map.map avA))), (59, .imm (iv (v.map.length : Int))), (60, .imm (iv (i : Int)))] rfl rfl rfl rfl rfl rfl ⟨.inr (.inl ⟨rfl, rfl⟩), .inl ⟨rfl, rfl⟩, .inl ⟨rfl, rfl⟩, .inl ⟨rfl, rfl⟩, trivial⟩ (by simp only [List.length_append, List.length_cons, List.length_nil, yQ]; omega) ?_
        refine zB <| g_u (z0 rfl rfl rfl) <| g_u (zC rfl rfl) <| zH <| zA ?_
        refine ⟨⟨i + 1, _⟩, ⟨hia, ?_⟩, ⟨rfl, rfl, rfl, rfl, zX rfl (by rw [zO (by omega) (by omega)]; rfl), trivial⟩, by dsimp only; omega⟩
        dsimp only
        rw [rm hia, hc, s6]
        subst h2
        simp only [List.append_assoc, List.cons_append, List.nil_append, ← yo, tu, rI, xU, yN]
        try rfl
      · have hc : sk (i == 0) = [] := by have hp : i = 0 := (by have := of_decide_eq_false hb2; omega); rw [hp]; rfl
        refine zQ <| zA <| y_ xR <| g_u (yW rfl rfl) <| g_u (zF rfl rfl uq rfl) <| g_u (zG rfl rfl rfl tA9 tS9 rfl rfl) ?_
        refine g_uG (vg [(3014, 20002)] (jput_c _ _ (by first | exact hwy | exact hwy.app (W1.bytes [44])) hka (by have q1 := yn hia; have q2 := (nthA v.map i).wt_eq; have q3 := yA (lst (nthA v.map i).key); have q4 := yE (nthA v.map i).key; (try simp only [List.length_append, List.length_cons, List.length_nil, yQ]); omega)) rfl rfl ⟨.inr ⟨_, rfl, rfl⟩, .inl rfl, trivial⟩ trivial rfl rfl rfl) rfl ?_
        refine g_u (zl (X0 := z5) rfl Tryz.underlying42 tS5 tZ5 rfl rfl rfl rfl rfl rfl rfl rfl) ?_
        refine g_u (yh rfl rfl rfl rfl rfl Tryz.underlying42 Tryz.underlying42 tS5 zv5 rfl (by decide) by5 (by (try dsimp only); (try (have q1 := yn hia; have q2 := (nthA v.map i).wt_eq; have q3 := yA (lst (nthA v.map i).key); have q4 := yE (nthA v.map i).key)); (try simp only [List.length_append, List.length_cons, List.length_nil, yQ]); omega) (by (try dsimp only); (try (have q1 := yn hia; have q2 := (nthA v.map i).wt_eq; have q3 := yA (lst (nthA v.map i).key); have q4 := yE (nthA v.map i).key)); (try simp only [List.length_append, List.length_cons, List.length_nil, yQ]); omega)) ?_
        refine g_u (zF rfl rfl ul rfl) <| g_u (zG rfl rfl rfl tA70 tS70 rfl rfl) ?_
        refine g_uG (vg [(100001, 20002)] (ih _ (xY hia) _ (by first | exact ((hwy.app (W1.bytes _)).app (W1.bytes [58])) | exact (((hwy.app (W1.bytes [44])).app (W1.bytes _)).app (W1.bytes [58]))) (by show _ + 150 * (nthA v.map i).val.wt ≤ 5000000000; have q1 := yn hia; have q2 := (nthA v.map i).wt_eq; have q3 := yA (lst (nthA v.map i).key); have q4 := yE (nthA v.map i).key; (try simp only [List.length_append, List.length_cons, List.length_nil, yQ]); omega)) rfl rfl ⟨.inl rfl, .inl rfl, trivial⟩ ⟨rfl, trivial⟩ rfl rfl rfl) rfl ?_
        refine g_u (yY rfl rfl) ?_
        refine zH ⟨by kernel_rfl, ?_⟩
        refine zW <| zA ?_
        refine aw_renTok 20002 100001 1 _ [(0, .slg 100001 1 _), (58, .imm (.sl 7 (v.map.map avA))), (59, .imm (iv (v.map.length : Int))), (60, .imm (iv (i : Int)))] rfl rfl rfl rfl rfl rfl ⟨.inr (.inl ⟨rfl, rfl⟩), .inl ⟨rfl, rfl⟩, .inl ⟨rfl, rfl⟩, .inl ⟨rfl, rfl⟩, trivial⟩ (by simp only [List.length_append, List.length_cons, List.length_nil, yQ]; omega) ?_
        refine zB <| g_u (z0 rfl rfl rfl) <| g_u (zC rfl rfl) <| zH <| zA ?_
        refine ⟨⟨i + 1, _⟩, ⟨hia, ?_⟩, ⟨rfl, rfl, rfl, rfl, zX rfl (by rw [zO (by omega) (by omega)]; rfl), trivial⟩, by dsimp only; omega⟩
        dsimp only
        rw [rm hia, hc, s6]
        subst h2
        simp only [List.append_assoc, List.cons_append, List.nil_append, ← yo, tu, rI, xU, yN]
        try rfl
    · have hi : i = v.map.length := by have := of_decide_eq_false hb1; simp only [List.length_map] at this; omega
      refine zz <| zT <| zT <| zq <| zA <| zD <| zB <| g_u (yW rfl rfl) <| g_u (zl (X0 := z5) rfl Tryz.underlying42 tS5 tZ5 rfl rfl rfl rfl rfl rfl rfl rfl) ?_
      refine g_u (yh rfl rfl rfl rfl rfl Tryz.underlying42 Tryz.underlying42 tS5 zv5 rfl (by decide) by5 (by (try dsimp only); (try (have q1 := yn hia; have q2 := (nthA v.map i).wt_eq; have q3 := yA (lst (nthA v.map i).key); have q4 := yE (nthA v.map i).key)); (try simp only [List.length_append, List.length_cons, List.length_nil, yQ]); omega) (by (try dsimp only); (try (have q1 := yn hia; have q2 := (nthA v.map i).wt_eq; have q3 := yA (lst (nthA v.map i).key); have q4 := yE (nthA v.map i).key)); (try simp only [List.length_append, List.length_cons, List.length_nil, yQ]); omega)) ?_
      refine g_u (yY rfl rfl) <| zH <| zA <| zL <| zt <| zK ?_
      exact ⟨⟨.inr ⟨_, rfl, yl rfl (by rw [json7 hk, h2, hi, List.take_of_length_le (Nat.le_refl _), List.append_assoc]; exact congrArg (xs ++ ·) (yo _ [125])), rfl⟩, trivial⟩, ⟨yf rfl (by rw [json7 hk, h2, hi, List.take_of_length_le (Nat.le_refl _), List.append_assoc]; exact congrArg (xs ++ ·) (yo _ [125])), trivial⟩⟩
theorem lay_c (v : GV) : v.ok → v.wt ≤ 10000000 → ∀ xs : List AV, W1 xs → xs.length + 150 * v.wt ≤ 5000000000 → tE Tryz.prog Γ0 148 [.slg 100001 1 xs, .imm v.av] [(100001, .tok 1 xs)] (.slg 100001 1 (xs ++ zx (xC v))) [(100001, .tok 1 (xs ++ zx (xC v)))] := by
  refine GV.ind (P := fun v => v.ok → v.wt ≤ 10000000 → ∀ xs : List AV, W1 xs → xs.length + 150 * v.wt ≤ 5000000000 → tE Tryz.prog Γ0 148 [.slg 100001 1 xs, .imm v.av] [(100001, .tok 1 xs)] (.slg 100001 1 (xs ++ zx (xC v))) [(100001, .tok 1 (xs ++ zx (xC v)))]) ?_ v
  intro v h1 h2 ho hw xs hx hl
  have ok := v.ok_iff.1 ho
  have ek := v.wt_eq
  by_cases h6 : v.kind = 6
  · exact lay_l v ho hw xs hx hl h6 fun y hy ys hy1 hy2 => h1 y hy (ok.2.2.2.2.1 y hy) (by have := s9 hy; omega) ys hy1 hy2
  by_cases h7 : v.kind = 7
  · exact lay_m v ho hw xs hx hl h7 fun a ha ys hy1 hy2 => h2 a ha ((GA.ok_iff a).1 (ok.2.2.2.2.2 a ha)).2 (by have := xy ha; have := a.wt_eq; omega) ys hy1 hy2
  by_cases hq : v.kind = 1 ∨ v.kind = 4 ∨ v.kind = 5
  · exact lay_q v ho hw xs hx hl hq
  · exact lay_p v ho hw xs hx hl (by omega)
theorem json_c (v : GV) (ho : v.ok) (hw : v.wt ≤ 10000000) : zn Tryz.prog Γ0 121 [v.av] [sv (yF (xC v))] := by
  have lv := xh v.list
  have la := yv v.map
  have ek := v.wt_eq
  have ok := v.ok_iff.1 ho
  have sl := yr v
  have jl := yb v
  refine z_ Tryz.func121 rfl Tryz.ntmps121 (by kernel_rfl) rfl fun w0 I0 G0 => ?_
  refine zD <| zB <| g_uG (zk 1001 rfl rfl rfl rfl) rfl <| g_u (zE rfl rfl) <| zH <| zA <| zD <| zB <| g_u (zG rfl rfl rfl tA70 tS70 rfl rfl) ?_
  refine g_u (zP (pcall_nil (n := 1) (xs := [v.av]) (lay_c v ho hw [] (fun x hx => by cases hx) (by simp only [List.length_nil]; omega))) rfl rfl) ?_
  refine g_u (tq (rfl) rfl rfl Tryz.underlying42 Tryz.underlying9 Tryz.underlying5) <| g_u (zE rfl rfl) <| zH <| zA <| zL ?_
  exact ⟨⟨(rfl : toAV (Al.look _ _) = some _).trans (congrArg some (by rfl)), rfl⟩, trivial⟩
theorem text_q (v : GV) (ho : v.ok) (hw : v.wt ≤ 10000000) (hk : v.kind = 1 ∨ v.kind = 4 ∨ v.kind = 5) : zn Tryz.prog Γ0 88 [v.av] [sv (xA v)] := by
  have lv := xh v.list
  have la := yv v.map
  have ek := v.wt_eq
  have ok := v.ok_iff.1 ho
  have sl := yr v
  have jl := yb v
  refine z_ Tryz.func88 rfl Tryz.ntmps88 (by kernel_rfl) rfl fun w0 I0 G0 => ?_
  refine zD <| zB <| g_uG (zk 1001 rfl rfl rfl rfl) rfl <| g_u (zE rfl rfl) <| zH <| zA <| zD <| zD <| zB <| g_u (zG rfl rfl rfl tA70 tS70 rfl rfl) <| g_u (zP (thing_q hk (sq v ho hw)) rfl rfl) <| zH <| zA <| zU <| zD <| zB <| g_u (vK rfl rfl nI163) <| g_u (zp rfl rfl rfl rfl) <| g_u (zp rfl rfl rfl rfl) <| zH <| zA <| zs rfl <| zD <| zB <| g_u (zE rfl rfl) <| zH <| zA <| zD <| zB <| g_u (zC rfl rfl) <| g_u (zE rfl rfl) <| zH <| zA <| zL <| zt <| zK ?_
  exact ⟨⟨(rfl : toAV (Al.look _ _) = some _).trans (congrArg some (by (rw [textE (by omega)]))), rfl⟩, trivial⟩
theorem text_p (v : GV) (ho : v.ok) (hw : v.wt ≤ 10000000) (hk : v.kind ≠ 1 ∧ v.kind ≠ 4 ∧ v.kind ≠ 5 ∧ v.kind ≠ 6 ∧ v.kind ≠ 7) : zn Tryz.prog Γ0 88 [v.av] [sv (xA v)] := by
  have lv := xh v.list
  have la := yv v.map
  have ek := v.wt_eq
  have ok := v.ok_iff.1 ho
  have sl := yr v
  have jl := yb v
  refine z_ Tryz.func88 rfl Tryz.ntmps88 (by kernel_rfl) rfl fun w0 I0 G0 => ?_
  refine zD <| zB <| g_uG (zk 1001 rfl rfl rfl rfl) rfl <| g_u (zE rfl rfl) <| zH <| zA <| zD <| zD <| zB <| g_u (zG rfl rfl rfl tA70 tS70 rfl rfl) <| g_u (zP (thing_p hk (sq v ho hw)) rfl rfl) <| zH <| zA <| zU <| zD <| zB ?_
  refine g_u (xO rfl rfl nI163 tZ163 (fun z h => by rw [zv163] at h; cases h; rfl) rfl) ?_
  refine g_u (zp rfl rfl rfl rfl) <| g_u (zp rfl rfl rfl rfl) <| zH <| zA <| yD rfl <| zD <| zB <| g_u (vK rfl rfl nI164) <| g_u (zp rfl rfl rfl rfl) <| g_u (zp rfl rfl rfl rfl) <| zH <| zA <| zs rfl <| zD <| zB <| g_u (zE rfl rfl) <| zH <| zA <| zD <| zD <| zB <| g_u (zF rfl rfl xI rfl) <| g_u (zG rfl rfl rfl tA5 tS5 rfl rfl) <| g_u (yz rfl rfl rfl) <| zH <| zA ?_
  refine zN rfl (fun hb1 => ?_) (fun hb1 => ?_)
  · refine zD ?_
    refine zB <| g_u (zE rfl rfl) <| zH <| zA <| zL <| zK <| zt <| zK ?_
    exact ⟨⟨(rfl : toAV (Al.look _ _) = some _).trans (congrArg some (by (simp only [beq_iff_eq, beq_eq_false_iff_ne, ne_eq, decide_eq_true_eq, decide_eq_false_iff_not] at *; rw [textE (by omega), r6 (by omega)]; rfl))), rfl⟩, trivial⟩
  · refine zQ ?_
    refine zA <| zD <| zB <| g_u (zC rfl rfl) <| g_u (zE rfl rfl) <| zH <| zA <| zL <| zt <| zK ?_
    exact ⟨⟨(rfl : toAV (Al.look _ _) = some _).trans (congrArg some (by (simp only [beq_iff_eq, beq_eq_false_iff_ne, ne_eq, decide_eq_true_eq, decide_eq_false_iff_not] at *; rw [textE (by omega), jsonE (by omega)]))), rfl⟩, trivial⟩
theorem text_l (v : GV) (ho : v.ok) (hw : v.wt ≤ 10000000) (hk : v.kind = 6) : zn Tryz.prog Γ0 88 [v.av] [sv (xA v)] := by
  have lv := xh v.list
  have la := yv v.map
  have ek := v.wt_eq
  have ok := v.ok_iff.1 ho
  have sl := yr v
  have jl := yb v
  refine z_ Tryz.func88 rfl Tryz.ntmps88 (by kernel_rfl) rfl fun w0 I0 G0 => ?_
  refine zD <| zB <| g_uG (zk 1001 rfl rfl rfl rfl) rfl <| g_u (zE rfl rfl) <| zH <| zA <| zD <| zD <| zB <| g_u (zG rfl rfl rfl tA70 tS70 rfl rfl) <| g_u (zP (thing_l hk (sq v ho hw)) rfl rfl) <| zH <| zA <| zU <| zD <| zB ?_
  refine g_u (xO rfl rfl nI163 tZ163 (fun z h => by rw [zv163] at h; cases h; rfl) rfl) ?_
  refine g_u (zp rfl rfl rfl rfl) <| g_u (zp rfl rfl rfl rfl) <| zH <| zA <| yD rfl <| zD <| zB ?_
  refine g_u (xO rfl rfl nI164 tZ164 (fun z h => by rw [zv164] at h; cases h; rfl) rfl) ?_
  refine g_u (zp rfl rfl rfl rfl) <| g_u (zp rfl rfl rfl rfl) <| zH <| zA <| yD rfl <| zQ <| zW <| zA <| zD <| zB <| g_u (zG rfl rfl rfl tA70 tS70 rfl rfl) <| g_u (zP (json_c v ho hw) rfl rfl) <| g_u (zE rfl rfl) <| zH <| zA <| zL ?_
  exact ⟨⟨(rfl : toAV (Al.look _ _) = some _).trans (congrArg some (by (rw [text6 (by omega)]))), rfl⟩, trivial⟩
theorem text_m (v : GV) (ho : v.ok) (hw : v.wt ≤ 10000000) (hk : v.kind = 7) : zn Tryz.prog Γ0 88 [v.av] [sv (xA v)] := by
  have lv := xh v.list
  have la := yv v.map
  have ek := v.wt_eq
  have ok := v.ok_iff.1 ho
  have sl := yr v
  have jl := yb v
  refine z_ Tryz.func88 rfl Tryz.ntmps88 (by kernel_rfl) rfl fun w0 I0 G0 => ?_
  refine zD <| zB <| g_uG (zk 1001 rfl rfl rfl rfl) rfl <| g_u (zE rfl rfl) <| zH <| zA <| zD <| zD <| zB <| g_u (zG rfl rfl rfl tA70 tS70 rfl rfl) <| g_u (zP (thing_m hk (sq v ho hw)) rfl rfl) <| zH <| zA <| zU <| zD <| zB ?_
  refine g_u (xO rfl rfl nI163 tZ163 (fun z h => by rw [zv163] at h; cases h; rfl) rfl) ?_
  refine g_u (zp rfl rfl rfl rfl) <| g_u (zp rfl rfl rfl rfl) <| zH <| zA <| yD rfl <| zD <| zB ?_
  refine g_u (xO rfl rfl nI164 tZ164 (fun z h => by rw [zv164] at h; cases h; rfl) rfl) ?_
  refine g_u (zp rfl rfl rfl rfl) <| g_u (zp rfl rfl rfl rfl) <| zH <| zA <| yD rfl <| zQ <| zW <| zA <| zD <| zB <| g_u (zG rfl rfl rfl tA70 tS70 rfl rfl) <| g_u (zP (json_c v ho hw) rfl rfl) <| g_u (zE rfl rfl) <| zH <| zA <| zL ?_
  exact ⟨⟨(rfl : toAV (Al.look _ _) = some _).trans (congrArg some (by (rw [text6 (by omega)]))), rfl⟩, trivial⟩
theorem text_c (v : GV) (ho : v.ok) (hw : v.wt ≤ 10000000) : zn Tryz.prog Γ0 88 [v.av] [sv (xA v)] := by
  by_cases h6 : v.kind = 6
  · exact text_l v ho hw h6
  by_cases h7 : v.kind = 7
  · exact text_m v ho hw h7
  by_cases hq : v.kind = 1 ∨ v.kind = 4 ∨ v.kind = 5
  · exact text_q v ho hw hq
  · exact text_p v ho hw (by omega)
end Go.Proofs
namespace Go.Proofs
open Go Go.Al
set_option maxRecDepth 10000
theorem leftV_st (v : GV) (n : Int) (hn : -1 ≤ n ∧ n ≤ 1000000000) (ih : ∀ y ∈ v.list, ∀ n : Int, -1 ≤ n ∧ n ≤ 1000000000 → zn Tryz.prog Γ0 45 [y.av, iv n] [iv (leftV y n)]) (ihm : ∀ n : Int, -1 ≤ n ∧ n ≤ 1000000000 → zn Tryz.prog Γ0 22 [.sl 7 (v.map.map avA), iv n] [iv (yS v.map n)]) : zn Tryz.prog Γ0 45 [v.av, iv n] [iv (leftV v n)] := by
  have ek := v.wt_eq
  refine z_ Tryz.func45 rfl Tryz.ntmps45 (by kernel_rfl) rfl fun w0 I0 G0 => ?_
  refine zD <| zB <| g_uG (zk 1002 rfl rfl rfl rfl) rfl <| g_u (zE rfl rfl) <| zH <| zA <| zD <| zD <| zB <| g_u (zC rfl rfl) <| g_u (ye rfl rfl rfl) <| g_u (zC rfl rfl) <| yB (t := 8) rfl ?_
  rintro (hb1 | hb1)
  · rw [hb1]
    have hn0 : n < 0 := of_decide_eq_true hb1
    refine zI rfl rfl rfl <| zI rfl rfl rfl <| zI rfl rfl rfl <| zI rfl rfl rfl <| zI rfl rfl rfl <| g_u (zZ rfl rfl rfl) <| zH <| zA <| zs rfl <| zD <| zB <| g_u (zE rfl rfl) <| zH <| zA <| zL <| zK ?_
    exact ⟨⟨(rfl : toAV (Al.look _ _) = some _).trans (congrArg some (by (exact congrArg iv (by rw [leftV_F, if_pos hn0])))), rfl⟩, trivial⟩
  · rw [hb1]
    have hn0 : ¬ n < 0 := of_decide_eq_false hb1
    refine zY rfl rfl (zF rfl rfl sc rfl) <| zY rfl rfl (zG rfl rfl rfl tA9 tS9 rfl rfl) <| zY rfl rfl (yp rfl rfl Tryz.underlying9) <| zY rfl rfl (zC rfl rfl) <| zY rfl rfl (wD rfl rfl rfl) <| g_u (zh rfl rfl rfl) <| zH <| zA ?_
    refine zN rfl (fun hb2 => ?_) (fun hb2 => ?_)
    · have ht0 : (v.text.size : Int) > n := of_decide_eq_true hb2
      refine zD <| zB <| g_u (zE rfl rfl) <| zH <| zA <| zL <| zK ?_
      exact ⟨⟨(rfl : toAV (Al.look _ _) = some _).trans (congrArg some (by (exact congrArg iv (by rw [leftV_F, if_neg hn0]; unfold v9; rw [if_neg (by omega)])))), rfl⟩, trivial⟩
    · have ht0 : ¬ (v.text.size : Int) > n := of_decide_eq_false hb2
      have hL : -1 ≤ n - 1 - v.text.size := by omega
      refine zQ <| zA <| zD <| zB <| g_u (zC rfl rfl) <| g_u (vW rfl rfl rfl) <| g_u (zF rfl rfl sc rfl) <| g_u (zG rfl rfl rfl tA9 tS9 rfl rfl) <| g_u (yp rfl rfl Tryz.underlying9) <| g_u (vW rfl rfl rfl) <| g_u (zE rfl rfl) <| zH <| zA <| zD <| zD <| zB <| g_u (zE rfl rfl) <| zH <| zA <| zU ?_
      refine zw (fun i : Nat => [(2, .ptr 1002 0), (1002, .box 70 (.imm v.av)), (1, .imm (iv (v9 (n - 1 - v.text.size) (wtVs (v.list.take i))))), (5, .imm (iv (i : Int)))]) (fun i => i ≤ v.list.length) (fun i => v.list.length - i) (0) ?_ ⟨rfl, rfl, zX rfl (by rw [show wtVs (v.list.take 0) = 0 from rfl, leftF_zero hL, zO (n := n - 1) (by omega) (by omega), zO (by omega) (by omega)]), rfl, trivial⟩ ?_
      · exact Nat.zero_le _
      · rintro i h1; have h1 : i ≤ v.list.length := h1; have bd := leftF_bd hL (wtVs (v.list.take i))
        refine zD <| zD <| zB <| g_u (zC rfl rfl) <| g_u (zF rfl rfl rR rfl) <| g_u (zG rfl rfl rfl tA68 tS68 rfl rfl) <| g_u (z7 rfl rfl Tryz.underlying68) <| g_u (ye rfl rfl rfl) <| g_u (zC rfl rfl) <| yB (t := 26) rfl ?_
        rintro (hb3 | hb3)
        · rw [hb3]
          have hiv : i < v.list.length := by have := of_decide_eq_true hb3; (try simp only [List.length_map] at this); omega
          refine zY rfl rfl (zC rfl rfl) <| zY rfl rfl (tD rfl rfl rfl) <| g_u (zZ rfl rfl rfl) <| zH <| zA ?_
          refine zN rfl (fun hb4 => ?_) (fun hb4 => ?_)
          · have hs : 0 ≤ v9 (n - 1 - v.text.size) (wtVs (v.list.take i)) := of_decide_eq_true hb4
            have hi9 := leftV_len hs h1
            refine zQ <| zA <| zD <| zU <| zB <| g_u (zF rfl rfl rR rfl) <| g_u (zG rfl rfl rfl tA68 tS68 rfl rfl) <| g_u (zC rfl rfl) ?_
            refine g_u (zR rfl rfl rfl Tryz.underlying68 tS70 (by omega) (ixV hiv)) ?_
            refine g_u (zd rfl rfl tA70 tS70 rfl rfl) <| g_u (zC rfl rfl) ?_
            refine g_u (zP (ih _ (uy hiv) _ ⟨bd.1, by have := bd.2; omega⟩) rfl rfl) ?_
            refine g_u (zE rfl rfl) <| zH <| zW <| zA <| zB <| g_u (zC rfl rfl) <| g_u (z0 rfl rfl rfl) <| g_u (zE rfl rfl) <| zH <| zA ?_
            refine ⟨i + 1, hiv, ⟨rfl, rfl, zX rfl (leftV_step hiv hs), zX rfl (by rw [zO (by omega) (by omega)]; rfl), trivial⟩, by (try dsimp only); omega⟩
          · have hs : ¬ 0 ≤ v9 (n - 1 - v.text.size) (wtVs (v.list.take i)) := of_decide_eq_false hb4
            refine zz <| zT <| zT <| zq <| zA <| zD <| zB <| g_u (zF rfl rfl rO rfl) <| g_u (zG rfl rfl rfl tA44 tS44 rfl rfl) <| g_u (zC rfl rfl) ?_
            refine g_u (zP (ihm _ ⟨bd.1, by have := bd.2; omega⟩) rfl rfl) ?_
            refine g_u (zE rfl rfl) <| zH <| zA <| zL ?_
            exact ⟨⟨(rfl : toAV (Al.look _ _) = some _).trans (congrArg some (by (exact congrArg iv (leftV_fin hn0 ht0 (by first | exact .inl hivn | exact .inr (by omega)))))), rfl⟩, trivial⟩
        · rw [hb3]
          have hivn : i = v.list.length := by have := of_decide_eq_false hb3; (try simp only [List.length_map] at this); omega
          refine zI rfl rfl rfl <| zI rfl rfl rfl <| g_u (zh rfl rfl rfl) <| zH <| zA <| yD rfl <| zz <| zT <| zT <| zq <| zA <| zD <| zB <| g_u (zF rfl rfl rO rfl) <| g_u (zG rfl rfl rfl tA44 tS44 rfl rfl) <| g_u (zC rfl rfl) ?_
          refine g_u (zP (ihm _ ⟨bd.1, by have := bd.2; omega⟩) rfl rfl) ?_
          refine g_u (zE rfl rfl) <| zH <| zA <| zL ?_
          exact ⟨⟨(rfl : toAV (Al.look _ _) = some _).trans (congrArg some (by (exact congrArg iv (leftV_fin hn0 ht0 (by first | exact .inl hivn | exact .inr (by omega)))))), rfl⟩, trivial⟩
theorem leftAs_st (l : List GA) (n : Int) (hn : -1000000000000 ≤ n ∧ n ≤ 1000000000) (ih : ∀ a ∈ l, ∀ n : Int, -1 ≤ n ∧ n ≤ 1000000000 → zn Tryz.prog Γ0 45 [a.val.av, iv n] [iv (leftV a.val n)]) : zn Tryz.prog Γ0 22 [.sl 7 (l.map avA), iv n] [iv (yS l n)] := by
  refine z_ Tryz.func22 rfl Tryz.ntmps22 (by kernel_rfl) rfl fun w0 I0 G0 => ?_
  refine zD <| zB <| g_u (zE rfl rfl) <| zH <| zA <| zD <| zD <| zB <| g_u (zE rfl rfl) <| zH <| zA <| zU ?_
  refine zw (fun i : Nat => [(0, .imm (.sl 7 (l.map avA))), (1, .imm (iv (yS (l.take i) n))), (5, .imm (iv (i : Int)))]) (fun i => i ≤ l.length) (fun i => l.length - i) (0) ?_ ⟨rfl, zX rfl (leftAs_zero l).symm, rfl, trivial⟩ ?_
  · exact Nat.zero_le _
  · rintro i h1; have h1 : i ≤ l.length := h1; have bd := wa (l.take i) n
    refine zD <| zD <| zB <| g_u (zC rfl rfl) <| g_u (zC rfl rfl) <| g_u (z7 rfl rfl Tryz.underlying44) <| g_u (ye rfl rfl rfl) <| g_u (zC rfl rfl) <| yB (t := 10) rfl ?_
    rintro (hb1 | hb1)
    · rw [hb1]
      have hia : i < l.length := by have := of_decide_eq_true hb1; (try simp only [List.length_map] at this); omega
      refine zY rfl rfl (zC rfl rfl) <| zY rfl rfl (tD rfl rfl rfl) <| g_u (zZ rfl rfl rfl) <| zH <| zA ?_
      refine zN rfl (fun hb2 => ?_) (fun hb2 => ?_)
      · have hs : 0 ≤ yS (l.take i) n := of_decide_eq_true hb2
        have hi9 := leftAs_len hs h1
        refine zQ <| zA <| zD <| zU <| zD <| zD <| zB <| g_u (zC rfl rfl) <| g_u (zC rfl rfl) ?_
        refine g_u (zR rfl rfl rfl Tryz.underlying44 tS72 (by omega) (ixA hia)) ?_
        refine g_u (zf rfl rfl uq rfl rfl) <| g_u (zd rfl rfl tA9 tS9 rfl rfl) <| g_u (yp rfl rfl Tryz.underlying9) <| g_u (zC rfl rfl) <| g_u (wD rfl rfl rfl) <| zH <| zA ?_
        refine zN rfl (fun hb3 => ?_) (fun hb3 => ?_)
        · have hk : ((nthA l i).key.size : Int) > yS (l.take i) n := of_decide_eq_true hb3
          refine zD <| zB <| g_u (zE rfl rfl) <| zH <| zA <| zL <| zK <| zt <| zK <| zK <| zt <| zK ?_
          exact ⟨⟨(rfl : toAV (Al.look _ _) = some _).trans (congrArg some (by (exact congrArg iv (leftAs_out hia hs hk)))), rfl⟩, trivial⟩
        · have hk : ¬ ((nthA l i).key.size : Int) > yS (l.take i) n := of_decide_eq_false hb3
          have ew : IntKind.i64.wrap (yS (l.take i) n - (nthA l i).key.size) = yS (l.take i) n - (nthA l i).key.size := zO (by omega) (by omega)
          refine zQ <| zA <| y_ xR <| g_u (zC rfl rfl) <| g_u (zC rfl rfl) ?_
          refine g_u (zR rfl rfl rfl Tryz.underlying44 tS72 (by omega) (ixA hia)) ?_
          refine g_u (zf rfl rfl ul rfl rfl) <| g_u (zd rfl rfl tA70 tS70 rfl rfl) <| g_u (zC rfl rfl) <| g_u (zC rfl rfl) <| g_u (zC rfl rfl) ?_
          refine g_u (zR rfl rfl rfl Tryz.underlying44 tS72 (by omega) (ixA hia)) ?_
          refine g_u (zf rfl rfl uq rfl rfl) <| g_u (zd rfl rfl tA9 tS9 rfl rfl) <| g_u (yp rfl rfl Tryz.underlying9) <| g_u (vW rfl rfl rfl) ?_
          refine g_u (zP ((show zn Tryz.prog Γ0 45 [(nthA l i).val.av, iv (IntKind.i64.wrap (yS (l.take i) n - (nthA l i).key.size))] [iv (leftV (nthA l i).val (yS (l.take i) n - (nthA l i).key.size))] from by rw [ew]; exact ih _ (xY hia) _ ⟨by omega, by omega⟩)) rfl rfl) ?_
          refine g_u (zE rfl rfl) ?_
          refine zH ⟨by kernel_rfl, ?_⟩
          refine zW <| zA <| zB <| g_u (zC rfl rfl) <| g_u (z0 rfl rfl rfl) <| g_u (zE rfl rfl) <| zH <| zA ?_
          refine ⟨i + 1, hia, ⟨rfl, zX rfl (leftAs_step hia hs hk), zX rfl (by rw [zO (by omega) (by omega)]; rfl), trivial⟩, by (try dsimp only); omega⟩
      · have hs : ¬ 0 ≤ yS (l.take i) n := of_decide_eq_false hb2
        refine zz <| zT <| zT <| zq <| zA <| zD <| zB <| g_u (zC rfl rfl) <| g_u (zE rfl rfl) <| zH <| zA <| zL ?_
        exact ⟨⟨(rfl : toAV (Al.look _ _) = some _).trans (congrArg some (by (exact congrArg iv (leftAs_fin (by first | exact .inl hian | exact .inr (by omega)))))), rfl⟩, trivial⟩
    · rw [hb1]
      have hian : i = l.length := by have := of_decide_eq_false hb1; (try simp only [List.length_map] at this); omega
      refine zI rfl rfl rfl <| zI rfl rfl rfl <| g_u (zh rfl rfl rfl) <| zH <| zA <| yD rfl <| zz <| zT <| zT <| zq <| zA <| zD <| zB <| g_u (zC rfl rfl) <| g_u (zE rfl rfl) <| zH <| zA <| zL ?_
      exact ⟨⟨(rfl : toAV (Al.look _ _) = some _).trans (congrArg some (by (exact congrArg iv (leftAs_fin (by first | exact .inl hian | exact .inr (by omega)))))), rfl⟩, trivial⟩
theorem leftV_c (v : GV) : ∀ n : Int, -1 ≤ n ∧ n ≤ 1000000000 → zn Tryz.prog Γ0 45 [v.av, iv n] [iv (leftV v n)] := by
  refine GV.ind (P := fun v => ∀ n : Int, -1 ≤ n ∧ n ≤ 1000000000 → zn Tryz.prog Γ0 45 [v.av, iv n] [iv (leftV v n)]) ?_ v
  intro v h1 h2 n hn
  exact leftV_st v n hn h1 fun n hn => leftAs_st v.map n (by omega) h2
theorem jX (l : List GA) (n : Int) (hn : -1000000000000 ≤ n ∧ n ≤ 1000000000) : zn Tryz.prog Γ0 22 [.sl 7 (l.map avA), iv n] [iv (yS l n)] := leftAs_st l n hn fun a _ => leftV_c a.val
end Go.Proofs
namespace Go.Proofs
open Go Go.Al
set_option maxRecDepth 10000
theorem z63_w : AV.width z63 = 42 := by kernel_rfl
theorem z94_w : AV.width z94 = 26 := by kernel_rfl
end Go.Proofs
namespace Go.Proofs
open Go Go.Al
set_option maxRecDepth 10000
theorem cmp165 : cmpFn Tryz.prog 165 := ⟨_, Tryz.func165, by kernel_rfl, rfl, by kernel_rfl, by kernel_rfl⟩
theorem cmp_156_c (s t : ByteArray) : zn Tryz.prog Γ0 156 [sv s, sv t] [iv (cmpK s t)] := by
  refine z_ Tryz.func156 rfl Tryz.ntmps156 (by kernel_rfl) rfl fun w0 I0 G0 => ?_
  refine zD <| zB <| g_u (zE rfl rfl) <| zH <| zA <| zD <| zB <| g_u (zC rfl rfl) <| g_u (zC rfl rfl) <| g_u (s_cmpS cmp165 rfl rfl rfl) <| g_u (zE rfl rfl) <| zH <| zA <| zL ?_
  exact ⟨⟨(rfl : toAV (Al.look _ _) = some _).trans (congrArg some (by rfl)), rfl⟩, trivial⟩
theorem cmp_143_c (s t : ByteArray) : zn Tryz.prog Γ0 143 [sv s, sv t] [iv (cmpK s t)] := by
  refine z_ Tryz.func143 rfl Tryz.ntmps143 (by kernel_rfl) rfl fun w0 I0 G0 => ?_
  refine zD <| zB <| g_u (zE rfl rfl) <| zH <| zA <| zD <| zB <| g_u (zC rfl rfl) <| g_u (zC rfl rfl) <| g_u (zP (cmp_156_c _ _) rfl rfl) <| g_u (zE rfl rfl) <| zH <| zA <| zL ?_
  exact ⟨⟨(rfl : toAV (Al.look _ _) = some _).trans (congrArg some (by rfl)), rfl⟩, trivial⟩
theorem cmpA_c (a : GA) (k : ByteArray) : zn Tryz.prog Γ0 142 [a.av, sv k] [iv (cmpK a.key k)] := by
  refine z_ Tryz.func142 rfl Tryz.ntmps142 (by kernel_rfl) rfl fun w0 I0 G0 => ?_
  refine zD <| zB <| g_uG (zk 1002 rfl rfl rfl rfl) rfl <| g_u (zE rfl rfl) <| zH <| zA <| zD <| zB <| g_u (zF rfl rfl uq rfl) <| g_u (zG rfl rfl rfl tA9 tS9 rfl rfl) <| g_u (zC rfl rfl) <| g_u (zP (cmp_143_c _ _) rfl rfl) <| g_u (zE rfl rfl) <| zH <| zA <| zL ?_
  exact ⟨⟨(rfl : toAV (Al.look _ _) = some _).trans (congrArg some (by rfl)), rfl⟩, trivial⟩
theorem bsf_c (l : List GA) (k : ByteArray) (hr : risA none l) (hl : l.length ≤ 1000000000000) : zn Tryz.prog Γ0 141 [.sl 7 (l.map avA), sv k, .fn (.func 142) [] []] [iv (posA l k : Nat), bv (hasA l k)] := by
  refine z_ Tryz.func141 rfl Tryz.ntmps141 (by kernel_rfl) rfl fun w0 I0 G0 => ?_
  refine zD <| zB <| g_u (zE rfl rfl) <| g_u (zE rfl rfl) <| zH <| zA <| zD <| zB <| g_u (zC rfl rfl) <| g_u (z7 rfl rfl Tryz.underlying44) <| g_u (zE rfl rfl) <| zH <| zA <| zD <| zB <| g_u (zC rfl rfl) <| g_u (zE rfl rfl) <| g_u (zE rfl rfl) <| zH <| zA <| zD <| zU ?_
  refine zw (fun j : Nat × Nat => [(0, .imm (.sl 7 (l.map avA))), (1, .imm (sv k)), (2, .imm (.fn (.func 142) [] [])), (8, .imm (iv (l.length : Int))), (9, .imm (iv (j.1 : Int))), (10, .imm (iv (j.2 : Int)))]) (fun j => j.1 ≤ j.2 ∧ j.2 ≤ l.length ∧ (∀ i, i < j.1 → ltB (nthA l i).key k = true) ∧ (∀ i, j.2 ≤ i → i < l.length → ltB (nthA l i).key k = false)) (fun j => j.2 - j.1) (⟨0, l.length⟩) ?_ ⟨rfl, rfl, rfl, zX rfl (by rw [List.length_map]), rfl, zX rfl (by rw [List.length_map]), trivial⟩ ?_
  · exact ⟨Nat.zero_le _, Nat.le_refl _, fun i h => absurd h (Nat.not_lt_zero _), fun i h1 h2 => absurd h2 (Nat.not_lt.2 h1)⟩
  · rintro ⟨lo, hi⟩ ⟨h1, h2, h3, h4⟩; dsimp only at h1 h2 h3 h4
    have em : IntKind.i64.wrap ((IntKind.u64.wrap (IntKind.i64.wrap ((lo : Int) + (hi : Int)))).fdiv (2 ^ (min (1 : Int).toNat IntKind.u64.bits))) = (((lo + hi) / 2 : Nat) : Int) := by rw [zO (n := (lo : Int) + (hi : Int)) (by omega) (by omega), xb (by omega) (by omega), Int.fdiv_eq_ediv_of_nonneg _ (by decide), show (2 : Int) ^ (min (1 : Int).toNat IntKind.u64.bits) = 2 from by decide, zO (by omega) (by omega)]; omega
    refine zD <| zD <| zB <| g_u (zC rfl rfl) <| g_u (zC rfl rfl) <| g_u (ye rfl rfl rfl) <| zH <| zA ?_
    refine zN rfl (fun hb1 => ?_) (fun hb1 => ?_)
    · have hmid : (lo + hi) / 2 < l.length := by have := of_decide_eq_true hb1; omega
      refine zQ <| zA <| zU <| zD <| zB <| g_u (zC rfl rfl) <| g_u (zC rfl rfl) <| g_u (z0 rfl rfl rfl) <| g_u (xL rfl rfl Tryz.underlying3 Tryz.underlying192) ?_
      refine g_u (s_shr rfl rfl rfl (by first | decide | omega | (((try simp only [decide_eq_true_eq, decide_eq_false_iff_not, bne_iff_ne, ne_eq, beq_iff_eq, qd, beq_eq_false_iff_ne, Bool.not_eq_true', Bool.not_eq_false', gt_iff_lt, ge_iff_le] at *); (repeat simp (disch := omega) only [zO, zi] at *)); omega))) ?_
      refine g_u (xL rfl rfl Tryz.underlying192 Tryz.underlying3) <| g_u (zE rfl rfl) <| zH <| zA <| zD <| zB <| g_u (zC rfl rfl) <| g_u (zC rfl rfl) <| g_u (zC rfl rfl) ?_
      refine g_u (zR rfl rfl rfl Tryz.underlying44 tS72 (by erw [em]; omega) ((congrArg (fun z : Int => (l.map avA)[z.toNat]?) em).trans (ixA hmid))) ?_
      refine g_u (zd rfl rfl tA72 tS72 rfl rfl) <| g_u (zC rfl rfl) <| g_u (wM (cmpA_c _ _) rfl rfl rfl) <| g_u (ye rfl rfl rfl) <| zH <| zA ?_
      refine zN rfl (fun hb2 => ?_) (fun hb2 => ?_)
      · have hk : ltB (nthA l ((lo + hi) / 2)).key k = true := (cmpK_lt _ _).1 (of_decide_eq_true hb2)
        refine zB <| g_u (zC rfl rfl) <| g_u (z0 rfl rfl rfl) <| g_u (zE rfl rfl) <| zH <| zW <| zA ?_
        have hlt : lo < hi := by have := of_decide_eq_true hb1; omega
        first
          | exact ⟨⟨(lo + hi) / 2 + 1, hi⟩, ⟨by dsimp only; omega, h2, fun i hi1 => ris_left hr hmid hk (by dsimp only at hi1; omega), h4⟩, ⟨rfl, rfl, rfl, rfl, zX rfl (by erw [em]; rw [zO (by omega) (by omega)]; rfl), rfl, trivial⟩, by dsimp only; omega⟩
          | exact ⟨⟨lo, (lo + hi) / 2⟩, ⟨by dsimp only; omega, by dsimp only; omega, h3, fun i hi1 hi2 => ris_right hr hk hi1 hi2⟩, ⟨rfl, rfl, rfl, rfl, rfl, zX rfl em, trivial⟩, by dsimp only; omega⟩
      · have hk : ltB (nthA l ((lo + hi) / 2)).key k = false := by cases hq : ltB (nthA l ((lo + hi) / 2)).key k; rfl; exact absurd ((cmpK_lt _ _).2 hq) (of_decide_eq_false hb2)
        refine zB <| g_u (zC rfl rfl) <| g_u (zE rfl rfl) <| zH <| zW <| zA ?_
        have hlt : lo < hi := by have := of_decide_eq_true hb1; omega
        first
          | exact ⟨⟨(lo + hi) / 2 + 1, hi⟩, ⟨by dsimp only; omega, h2, fun i hi1 => ris_left hr hmid hk (by dsimp only at hi1; omega), h4⟩, ⟨rfl, rfl, rfl, rfl, zX rfl (by erw [em]; rw [zO (by omega) (by omega)]; rfl), rfl, trivial⟩, by dsimp only; omega⟩
          | exact ⟨⟨lo, (lo + hi) / 2⟩, ⟨by dsimp only; omega, by dsimp only; omega, h3, fun i hi1 hi2 => ris_right hr hk hi1 hi2⟩, ⟨rfl, rfl, rfl, rfl, rfl, zX rfl em, trivial⟩, by dsimp only; omega⟩
    · have hlo : lo = hi := by have := of_decide_eq_false hb1; omega
      have hp : lo = posA l k := posA_spec l k lo (by omega) h3 (fun i hi1 hi2 => h4 i (by omega) hi2)
      refine zz <| zT <| zT <| zq <| zA <| zD <| zB <| g_u (zC rfl rfl) <| g_u (zC rfl rfl) <| g_u (zC rfl rfl) <| g_u (ye rfl rfl rfl) <| g_u (zC rfl rfl) <| yB (t := 39) rfl ?_
      rintro (hb3 | hb3)
      · rw [hb3]
        have hll : lo < l.length := by have := of_decide_eq_true hb3; (try simp only [List.length_map] at this); omega
        refine zY rfl rfl (zC rfl rfl) <| zY rfl rfl (zC rfl rfl) <| zY rfl rfl (zC rfl rfl) ?_
        refine zY rfl rfl (zR rfl rfl rfl Tryz.underlying44 tS72 (by omega) (ixA hll)) ?_
        refine zY rfl rfl (zd rfl rfl tA72 tS72 rfl rfl) <| zY rfl rfl (zC rfl rfl) <| zY rfl rfl (wM (cmpA_c _ _) rfl rfl rfl) <| zY rfl rfl (yz rfl rfl rfl) <| g_u (zZ rfl rfl rfl) <| g_u (zE rfl rfl) <| g_u (zE rfl rfl) <| zH <| zA <| zL ?_
        exact ⟨⟨(rfl : toAV (Al.look _ _) = some _).trans (congrArg (fun n : Nat => some (iv n)) hp), rfl⟩, ⟨(rfl : toAV (Al.look _ _) = some _).trans (congrArg (fun b => some (bv b)) (by rw [hasA, ← hp, decide_eq_true hll, Bool.true_and, ← Bool.coe_iff_coe]; simp only [beq_iff_eq, decide_eq_true_eq]; exact cmpK_eq _ _)), rfl⟩, trivial⟩
      · rw [hb3]
        have hll : ¬ lo < l.length := by have := of_decide_eq_false hb3; (try simp only [List.length_map] at this); omega
        refine zI rfl rfl rfl <| zI rfl rfl rfl <| zI rfl rfl rfl <| zI rfl rfl rfl <| zI rfl rfl rfl <| zI rfl rfl rfl <| zI rfl rfl rfl <| zI rfl rfl rfl <| g_u (zh rfl rfl rfl) <| g_u (zE rfl rfl) <| g_u (zE rfl rfl) <| zH <| zA <| zL ?_
        exact ⟨⟨(rfl : toAV (Al.look _ _) = some _).trans (congrArg (fun n : Nat => some (iv n)) hp), rfl⟩, ⟨(rfl : toAV (Al.look _ _) = some _).trans (congrArg (fun b => some (bv b)) (by rw [hasA, ← hp, decide_eq_false hll, Bool.false_and])), rfl⟩, trivial⟩
theorem find_c (l : List GA) (k : ByteArray) (hr : risA none l) (hl : l.length ≤ 1000000000000) : zn Tryz.prog Γ0 119 [.sl 7 (l.map avA), sv k] [iv (posA l k : Nat), bv (hasA l k)] := by
  refine z_ Tryz.func119 rfl Tryz.ntmps119 (by kernel_rfl) rfl fun w0 I0 G0 => ?_
  refine zD <| zB <| g_u (zE rfl rfl) <| g_u (zE rfl rfl) <| zH <| zA <| zD <| zB <| g_u (zC rfl rfl) <| g_u (zC rfl rfl) <| g_u (vb (bsf_c l k hr hl) rfl rfl) <| g_u (zp rfl rfl rfl rfl) <| g_u (zp rfl rfl rfl rfl) <| g_u (zE rfl rfl) <| g_u (zE rfl rfl) <| zH <| zA <| zL ?_
  exact ⟨⟨(rfl : toAV (Al.look _ _) = some _).trans (congrArg some (by rfl)), rfl⟩, ⟨(rfl : toAV (Al.look _ _) = some _).trans (congrArg some (by rfl)), rfl⟩, trivial⟩
theorem get_c (l : List GA) (k : ByteArray) (hr : risA none l) (hl : l.length ≤ 1000000000000) : zn Tryz.prog Γ0 87 [.sl 7 (l.map avA), sv k] [((getA l k).getD zeroV).av, bv (getA l k).isSome] := by
  refine z_ Tryz.func87 rfl Tryz.ntmps87 (by kernel_rfl) rfl fun w0 I0 G0 => ?_
  refine zD <| zB <| g_uG (zy 1004 rfl rfl rfl tZ70) rfl <| g_u (zE rfl rfl) <| zH <| zA <| zD <| zD <| zB <| g_u (zC rfl rfl) <| g_u (zC rfl rfl) <| g_u (vb (find_c l k hr hl) rfl rfl) <| g_u (xt rfl rfl) <| g_u (zp rfl rfl rfl rfl) <| g_u (zp rfl rfl rfl rfl) <| g_u (zE rfl rfl) <| g_u (zE rfl rfl) <| zH <| zA <| zD <| zB <| g_u (zC rfl rfl) <| zH <| zA ?_
  refine zN rfl (fun hb1 => ?_) (fun hb1 => ?_)
  · have hh : hasA l k = true := hb1
    have hll : posA l k < l.length := by unfold hasA at hh; simp at hh; exact hh.1
    refine zD <| zB <| g_u (zC rfl rfl) <| g_u (zC rfl rfl) ?_
    refine g_u (zR rfl rfl rfl Tryz.underlying44 tS72 (by omega) (ixA hll)) ?_
    refine g_u (zf rfl rfl ul rfl rfl) <| g_u (zd rfl rfl tA70 tS70 rfl rfl) <| g_u (zV rfl rfl rfl tS70 rfl rfl) <| g_u (zE rfl rfl) <| zH <| zA <| zL <| zK ?_
    exact ⟨⟨_, _, _, _, _, _, _, rfl, rfl, tA70, tS70, rfl, rfl, (rfl : toAV _ = some _).trans (congrArg some (by (rw [jD hr k, if_pos hh]; rfl)))⟩, ⟨(rfl : toAV (Al.look _ _) = some _).trans (congrArg some (by (rw [jD hr k, if_pos hh]; rfl))), rfl⟩, trivial⟩
  · have hh : hasA l k = false := hb1
    refine zQ <| zA <| zD <| zB <| g_u (yj rfl tU70 us70 pl70 rfl rfl rfl rfl) <| g_u (zV rfl rfl rfl tS70 rfl rfl) <| g_u (zE rfl rfl) <| zH <| zA <| zL ?_
    exact ⟨⟨_, _, _, _, _, _, _, rfl, rfl, tA70, tS70, rfl, rfl, (rfl : toAV _ = some _).trans (congrArg some (by (rw [jD hr k, if_neg (by rw [hh]; decide)]; rfl)))⟩, ⟨(rfl : toAV (Al.look _ _) = some _).trans (congrArg some (by (rw [jD hr k, if_neg (by rw [hh]; decide)]; rfl))), rfl⟩, trivial⟩
theorem getA_ok {l : List GA} (k : ByteArray) (h : ∀ a ∈ l, a.ok) : ((getA l k).getD zeroV).ok ∧ ((getA l k).getD zeroV).wt ≤ 1 + wtAs l := by
  cases hg : getA l k with
  | none => exact ⟨by simp only [Option.getD_none]; rw [GV.ok_iff]; exact ⟨by decide, by decide, by decide, by decide, fun x hx => absurd hx (by simp [zeroV, GV.list]), fun x hx => absurd hx (by simp [zeroV, GV.map])⟩, by simp only [Option.getD_none]; rw [GV.wt_eq]; simp [zeroV, GV.list, GV.map, GV.text, wtVs, wtAs]; exact Nat.zero_le _⟩
  | some v =>
    obtain ⟨a, ha, rfl, _⟩ := getA_mem hg
    have := xy ha
    have := a.wt_eq
    exact ⟨((GA.ok_iff a).1 (h a ha)).2, by simp only [Option.getD_some]; omega⟩
theorem textA_c (l : List GA) (k : ByteArray) (hr : risA none l) (hl : l.length ≤ 1000000000000) (ho : ∀ a ∈ l, a.ok) (hw : wtAs l ≤ 9000000) : zn Tryz.prog Γ0 54 [.sl 7 (l.map avA), sv k] [sv (un l k)] := by
  refine z_ Tryz.func54 rfl Tryz.ntmps54 (by kernel_rfl) rfl fun w0 I0 G0 => ?_
  refine zD <| zB <| g_u (zE rfl rfl) <| zH <| zA <| zD <| zB <| g_u (zC rfl rfl) <| g_u (zC rfl rfl) <| g_u (vb (get_c l k hr hl) rfl rfl) <| g_u (xt rfl rfl) <| g_u (zp rfl rfl rfl rfl) <| g_u (zp rfl rfl rfl rfl) <| g_uG (zy 1005 rfl rfl rfl tZ70) rfl <| g_u (zV rfl rfl rfl tS70 rfl rfl) <| g_u (zE rfl rfl) <| zH <| zA <| zD <| zB <| g_u (yC rfl rfl rfl tA70 tS70 rfl rfl) ?_
  refine g_u (zP (text_c _ (getA_ok k ho).1 (by have := (getA_ok k ho).2; omega)) rfl rfl) ?_
  refine g_u (zE rfl rfl) <| zH <| zA <| zL ?_
  exact ⟨⟨(rfl : toAV (Al.look _ _) = some _).trans (congrArg some (by rfl)), rfl⟩, trivial⟩
theorem rget_c (l : List GA) (k : ByteArray) (hl : l.length ≤ 1000000000000) : zn Tryz.prog Γ0 122 [.sl 7 (l.map avA), sv k] [((getA l k).getD zeroV).av, bv (getA l k).isSome] := by
  refine z_ Tryz.func122 rfl Tryz.ntmps122 (by kernel_rfl) rfl fun w0 I0 G0 => ?_
  refine zD <| zB <| g_uG (zy 1004 rfl rfl rfl tZ70) rfl <| g_u (zE rfl rfl) <| zH <| zA <| zD <| zD <| zB <| g_u (zE rfl rfl) <| zH <| zA <| zU ?_
  refine zw (fun i : Nat => [(0, .imm (.sl 7 (l.map avA))), (1, .imm (sv k)), (4, .ptr 1004 0), (1004, .box 70 (.imm z70)), (5, .imm (bv false)), (6, .imm (iv (i : Int)))]) (fun i => i ≤ l.length ∧ getA l k = getA (l.drop i) k) (fun i => l.length - i) (0) ?_ ⟨rfl, rfl, rfl, rfl, rfl, rfl, trivial⟩ ?_
  · exact ⟨Nat.zero_le _, rfl⟩
  · rintro i ⟨h1, h2⟩; (try dsimp only at h1 h2)
    refine zD <| zD <| zB <| g_u (zC rfl rfl) <| g_u (zC rfl rfl) <| g_u (z7 rfl rfl Tryz.underlying44) <| g_u (ye rfl rfl rfl) <| zH <| zA ?_
    refine zN rfl (fun hb1 => ?_) (fun hb1 => ?_)
    · have hi : i < l.length := by have := of_decide_eq_true hb1; (try simp only [List.length_map] at this); omega
      refine zQ <| zA <| zD <| zU <| zD <| zB <| g_u (zC rfl rfl) <| g_u (zC rfl rfl) ?_
      refine g_u (zR rfl rfl rfl Tryz.underlying44 tS72 (by omega) (ixA hi)) ?_
      refine g_u (zf rfl rfl uq rfl rfl) <| g_u (zd rfl rfl tA9 tS9 rfl rfl) <| g_u (zC rfl rfl) <| g_u (jZ rfl rfl rfl) <| zH <| zA ?_
      refine zN rfl (fun hb2 => ?_) (fun hb2 => ?_)
      · have hke : (nthA l i).key = k := by have e := hb2; rw [yH] at e; exact of_decide_eq_true e
        refine zD <| zB <| g_u (zC rfl rfl) <| g_u (zC rfl rfl) ?_
        refine g_u (zR rfl rfl rfl Tryz.underlying44 tS72 (by omega) (ixA hi)) ?_
        refine g_u (zf rfl rfl ul rfl rfl) <| g_u (zd rfl rfl tA70 tS70 rfl rfl) <| g_u (zV rfl rfl rfl tS70 rfl rfl) <| g_u (zE rfl rfl) <| zH <| zA <| zL <| zt <| zK <| zK <| zt <| zK ?_
        exact ⟨⟨_, _, _, _, _, _, _, rfl, rfl, tA70, tS70, rfl, rfl, (rfl : toAV _ = some _).trans (congrArg some (by (rw [h2, getA_drop hi, if_pos hke]; rfl)))⟩, ⟨(rfl : toAV (Al.look _ _) = some _).trans (congrArg some (by (rw [h2, getA_drop hi, if_pos hke]; rfl))), rfl⟩, trivial⟩
      · have hke : ¬ (nthA l i).key = k := by have e := hb2; rw [yH] at e; exact of_decide_eq_false e
        refine zQ <| zW <| zA <| zB <| g_u (zC rfl rfl) <| g_u (z0 rfl rfl rfl) <| g_u (zE rfl rfl) <| zH <| zA ?_
        refine ⟨i + 1, ⟨hi, by rw [h2, getA_drop hi, if_neg hke]⟩, ⟨rfl, rfl, rfl, rfl, rfl, zX rfl (by rw [zO (by omega) (by omega)]; rfl), trivial⟩, by (try dsimp only); omega⟩
    · have hin : i = l.length := by have := of_decide_eq_false hb1; (try simp only [List.length_map] at this); omega
      refine zz <| zT <| zT <| zq <| zA <| zD <| zB <| g_u (yj rfl tU70 us70 pl70 rfl rfl rfl rfl) <| g_u (zV rfl rfl rfl tS70 rfl rfl) <| g_u (zE rfl rfl) <| zH <| zA <| zL ?_
      exact ⟨⟨_, _, _, _, _, _, _, rfl, rfl, tA70, tS70, rfl, rfl, (rfl : toAV _ = some _).trans (congrArg some (by (rw [h2, hin, List.drop_length]; rfl)))⟩, ⟨(rfl : toAV (Al.look _ _) = some _).trans (congrArg some (by (rw [h2, hin, List.drop_length]; rfl))), rfl⟩, trivial⟩
theorem rtextA_c (l : List GA) (k : ByteArray) (ho : ∀ a ∈ l, a.ok) (hw : wtAs l ≤ 9000000) : zn Tryz.prog Γ0 90 [.sl 7 (l.map avA), sv k] [sv (un l k)] := by
  have q1 := yv l
  refine z_ Tryz.func90 rfl Tryz.ntmps90 (by kernel_rfl) rfl fun w0 I0 G0 => ?_
  refine zD <| zB <| g_u (zE rfl rfl) <| zH <| zA <| zD <| zB <| g_u (zC rfl rfl) <| g_u (zC rfl rfl) ?_
  refine g_u (vb (rget_c _ _ (by first | assumption | omega)) rfl rfl) ?_
  refine g_u (xt rfl rfl) <| g_u (zp rfl rfl rfl rfl) <| g_u (zp rfl rfl rfl rfl) <| g_uG (zy 1005 rfl rfl rfl tZ70) rfl <| g_u (zV rfl rfl rfl tS70 rfl rfl) <| g_u (zE rfl rfl) <| zH <| zA <| zD <| zB <| g_u (yC rfl rfl rfl tA70 tS70 rfl rfl) ?_
  refine g_u (zP (rtext_c _ (getA_ok k ho).1 (by have := (getA_ok k ho).2; omega)) rfl rfl) ?_
  refine g_u (zE rfl rfl) <| zH <| zA <| zL ?_
  exact ⟨⟨(rfl : toAV (Al.look _ _) = some _).trans (congrArg some (by rfl)), rfl⟩, trivial⟩
theorem rservice_c (r : GRes) (ho : ∀ a ∈ r.attrs, a.ok) (hw : wtAs r.attrs ≤ 9000000) : zn Tryz.prog Γ0 57 [r.av] [sv (zu r)] := by
  refine z_ Tryz.func57 rfl Tryz.ntmps57 (by kernel_rfl) rfl fun w0 I0 G0 => ?_
  refine zD <| zB <| g_uG (zk 1001 rfl rfl rfl rfl) rfl <| g_u (zE rfl rfl) <| zH <| zA <| zD <| zB <| g_u (zF rfl rfl fa47_0 rfl) <| g_u (zG rfl rfl rfl tA44 tS44 rfl rfl) <| g_u (zP (rtextA_c r.attrs skey ho hw) rfl rfl) <| g_u (zE rfl rfl) <| zH <| zA <| zL ?_
  exact ⟨⟨(rfl : toAV (Al.look _ _) = some _).trans (congrArg some (by rfl)), rfl⟩, trivial⟩
theorem service_c (r : GRes) (ho : ∀ a ∈ r.attrs, a.ok) (hw : wtAs r.attrs ≤ 9000000) (hr : risA none r.attrs) : zn Tryz.prog Γ0 30 [r.av] [sv (zu r)] := by
  have q1 := yv r.attrs
  refine z_ Tryz.func30 rfl Tryz.ntmps30 (by kernel_rfl) rfl fun w0 I0 G0 => ?_
  refine zD <| zB <| g_uG (zk 1001 rfl rfl rfl rfl) rfl <| g_u (zE rfl rfl) <| zH <| zA <| zD <| zB <| g_u (zF rfl rfl fa47_0 rfl) <| g_u (zG rfl rfl rfl tA44 tS44 rfl rfl) ?_
  refine g_u (zP (textA_c r.attrs skey hr (by omega) ho hw) rfl rfl) ?_
  refine g_u (zE rfl rfl) <| zH <| zA <| zL ?_
  exact ⟨⟨(rfl : toAV (Al.look _ _) = some _).trans (congrArg some (by rfl)), rfl⟩, trivial⟩
end Go.Proofs
namespace Go.Proofs
open Go Go.Al
set_option maxRecDepth 10000
theorem rattrs_c (l : List GA) (ho : ∀ a ∈ l, a.ok) (hw : wtAs l ≤ 10000000) : zn Tryz.prog Γ0 55 [.sl 7 (l.map avA)] [iv (yM l : Nat)] := by
  have q0 := tG l
  have qs := attrsW_sum l
  have ql := yv l
  refine z_ Tryz.func55 rfl Tryz.ntmps55 (by kernel_rfl) rfl fun w0 I0 G0 => ?_
  refine zD <| zB <| g_u (zE rfl rfl) <| zH <| zA <| zD <| zB <| g_u (zE rfl rfl) <| zH <| zA <| zD <| zD <| zB <| g_u (zE rfl rfl) <| zH <| zA <| zU ?_
  refine zw (fun i : Nat => [(0, .imm (.sl 7 (l.map avA))), (3, .imm (iv (zg attrW (l.take i) : Nat))), (4, .imm (iv (i : Int)))]) (fun i => i ≤ l.length) (fun i => l.length - i) (0) ?_ ⟨rfl, rfl, rfl, trivial⟩ ?_
  · exact Nat.zero_le _
  · rintro i h1; have h1 : i ≤ l.length := h1; have hs0 := wZ attrW l i
    refine zD <| zD <| zB <| g_u (zC rfl rfl) <| g_u (zC rfl rfl) <| g_u (z7 rfl rfl Tryz.underlying44) <| g_u (ye rfl rfl rfl) <| zH <| zA ?_
    refine zN rfl (fun hb1 => ?_) (fun hb1 => ?_)
    · have hi : i < l.length := by have := of_decide_eq_true hb1; (try simp only [List.length_map] at this); omega
      have hx : (nthA l i).val.wt ≤ 10000000 := by have := xy (xY hi); have := (nthA l i).wt_eq; omega
      have hy := textM_le (nthA l i).val
      have hz := xy (xY hi)
      have hz2 := (nthA l i).wt_eq
      refine zQ <| zA <| zD <| zU <| y_ xR <| g_u (zC rfl rfl) <| g_u (z0 rfl rfl rfl) <| g_u (zC rfl rfl) <| g_u (zC rfl rfl) ?_
      refine g_u (zR rfl rfl rfl Tryz.underlying44 tS72 (by omega) (ixA hi)) ?_
      refine g_u (zf rfl rfl uq rfl rfl) <| g_u (zd rfl rfl tA9 tS9 rfl rfl) <| g_u (yp rfl rfl Tryz.underlying9) <| g_u (s_mul rfl rfl rfl) <| g_u (z0 rfl rfl rfl) <| g_u (zC rfl rfl) <| g_u (zC rfl rfl) ?_
      refine g_u (zR rfl rfl rfl Tryz.underlying44 tS72 (by omega) (ixA hi)) ?_
      refine g_u (zf rfl rfl ul rfl rfl) <| g_u (zd rfl rfl tA70 tS70 rfl rfl) <| g_u (zP (rtext_c _ ((GA.ok_iff _).1 (ho _ (xY hi))).2 hx) rfl rfl) <| g_u (yp rfl rfl Tryz.underlying9) <| g_u (s_mul rfl rfl rfl) <| g_u (z0 rfl rfl rfl) <| g_u (zE rfl rfl) ?_
      refine zH ⟨by kernel_rfl, ?_⟩
      refine zW <| zA <| zB <| g_u (zC rfl rfl) <| g_u (z0 rfl rfl rfl) <| g_u (zE rfl rfl) <| zH <| zA ?_
      have q1 := xp (F := attrW) (d := a0) hi
      have q2 := uc (F := attrW) (d := a0) hi
      refine ⟨i + 1, hi, ⟨rfl, zX rfl (by rw [q2]; have qa : attrW (nth l i a0) = 64 + 6 * (nthA l i).key.size + 12 * (xA (nthA l i).val).size := rfl; (try dsimp only); ((try simp only [decide_eq_true_eq, decide_eq_false_iff_not, bne_iff_ne, ne_eq, beq_iff_eq, qd, beq_eq_false_iff_ne, Bool.not_eq_true', Bool.not_eq_false', gt_iff_lt, ge_iff_le] at *); (repeat simp (disch := omega) only [zO, zi] at *)); omega), zX rfl (by rw [zO (by omega) (by omega)]; rfl), trivial⟩, by (try dsimp only); omega⟩
    · have hin : i = l.length := by have := of_decide_eq_false hb1; (try simp only [List.length_map] at this); omega
      refine zz <| zT <| zT <| zq <| zA <| zD <| zB <| g_u (zC rfl rfl) <| g_u (zE rfl rfl) <| zH <| zA <| zL ?_
      exact ⟨⟨(rfl : toAV (Al.look _ _) = some _).trans (congrArg some (by (exact congrArg iv (by rw [hin, List.take_length, ← attrsW_sum])))), rfl⟩, trivial⟩
theorem rspanW_c (s : GSpan) (t : ByteArray) (ho : s.ok) (hw : s.wt ≤ 1000000) (ht : t.size ≤ 10000000) : zn Tryz.prog Γ0 89 [s.av, sv t] [iv (wL s t : Nat)] := by
  have q0 := spanW_le s t ht
  have qe := spanW_eq s t
  have qw : s.wt = 1 + s.state.size + s.name.size + s.note.size + wtAs s.attrs + zg GE.wt s.events + zg GL.wt s.links := rfl
  have ql := yX GE.wt (fun e => by unfold GE.wt; omega) s.events
  have qm := yX GL.wt (fun e => by unfold GL.wt; omega) s.links
  refine z_ Tryz.func89 rfl Tryz.ntmps89 (by kernel_rfl) rfl fun w0 I0 G0 => ?_
  refine zD <| zB <| g_uG (zk 1002 rfl rfl rfl rfl) rfl <| g_u (zE rfl rfl) <| zH <| zA <| zD <| y_ xR <| g_u (zC rfl rfl) <| g_u (zF rfl rfl fa63_3 rfl) <| g_u (zG rfl rfl rfl tA9 tS9 rfl rfl) ?_
  refine g_u (y5 rfl rfl rfl (by show _ ≤ (9223372036854775807 : Int); (try dsimp only); (try simp only [zo]); omega)) ?_
  refine g_u (zF rfl rfl fa63_4 rfl) <| g_u (zG rfl rfl rfl tA9 tS9 rfl rfl) ?_
  refine g_u (y5 rfl rfl rfl (by show _ ≤ (9223372036854775807 : Int); (try dsimp only); (try simp only [zo]); omega)) ?_
  refine g_u (zF rfl rfl tf rfl) <| g_u (zF rfl rfl fa61_1 rfl) <| g_u (zG rfl rfl rfl tA9 tS9 rfl rfl) ?_
  refine g_u (y5 rfl rfl rfl (by show _ ≤ (9223372036854775807 : Int); (try dsimp only); (try simp only [zo]); omega)) ?_
  refine g_u (yp rfl rfl Tryz.underlying9) <| g_u (s_mul rfl rfl rfl) <| g_u (z0 rfl rfl rfl) <| g_u (zF rfl rfl si rfl) <| g_u (zG rfl rfl rfl tA44 tS44 rfl rfl) ?_
  refine g_u (zP (rattrs_c _ ho.2.2.2.1 (by omega)) rfl rfl) ?_
  refine g_u (z0 rfl rfl rfl) <| g_u (zE rfl rfl) ?_
  refine zH ⟨by kernel_rfl, ?_⟩
  refine zA <| zD <| zD <| zB <| g_u (zE rfl rfl) <| zH <| zA <| zU ?_
  refine zw (fun i : Nat => [(2, .ptr 1002 0), (1002, .box 63 (.imm s.av)), (5, .imm (iv (((512 + 6 * (t.size + s.state.size + s.name.size + s.note.size) + yM s.attrs) + zg evW (s.events.take i) : Nat) : Int))), (6, .imm (iv (i : Int)))]) (fun i => i ≤ s.events.length) (fun i => s.events.length - i) (0) ?_ ⟨rfl, rfl, zX rfl (by simp only [zo]; rw [show zg evW (s.events.take 0) = 0 from rfl]; ((try simp only [decide_eq_true_eq, decide_eq_false_iff_not, bne_iff_ne, ne_eq, beq_iff_eq, qd, beq_eq_false_iff_ne, Bool.not_eq_true', Bool.not_eq_false', gt_iff_lt, ge_iff_le] at *); (repeat simp (disch := omega) only [zO, zi] at *)); omega), rfl, trivial⟩ ?_
  · exact Nat.zero_le _
  · rintro i h1; have h1 : i ≤ s.events.length := h1; have hs0 := wZ evW s.events i
    refine zD <| zD <| zB <| g_u (zC rfl rfl) <| g_u (zF rfl rfl vN rfl) <| g_u (zG rfl rfl rfl tA58 tS58 rfl rfl) <| g_u (z7 rfl rfl Tryz.underlying58) <| g_u (ye rfl rfl rfl) <| zH <| zA ?_
    refine zN rfl (fun hb1 => ?_) (fun hb1 => ?_)
    · have hi : i < s.events.length := by have := of_decide_eq_true hb1; (try simp only [List.length_map] at this); omega
      have q3 := xp (F := evW) (d := ge0) hi
      have qa : evW (nth s.events i ge0) = 64 + 6 * (nthE s.events i).name.size + yM (nthE s.events i).attrs := rfl
      have hx : wtAs (nthE s.events i).attrs ≤ 10000000 := by have h5 := yP GE.wt (v_ hi); have h6 : (nthE s.events i).wt = 1 + (nthE s.events i).name.size + wtAs (nthE s.events i).attrs := rfl; omega
      refine zQ <| zA <| zD <| zU <| y_ xR <| g_u (zC rfl rfl) <| g_u (z0 rfl rfl rfl) <| g_u (zF rfl rfl vN rfl) <| g_u (zG rfl rfl rfl tA58 tS58 rfl rfl) <| g_u (zC rfl rfl) ?_
      refine g_u (zR rfl rfl rfl Tryz.underlying58 tS92 (by omega) (ixE hi)) ?_
      refine g_u (zf rfl rfl jK rfl rfl) <| g_u (zd rfl rfl tA9 tS9 rfl rfl) <| g_u (yp rfl rfl Tryz.underlying9) <| g_u (s_mul rfl rfl rfl) <| g_u (z0 rfl rfl rfl) <| g_u (zF rfl rfl vN rfl) <| g_u (zG rfl rfl rfl tA58 tS58 rfl rfl) <| g_u (zC rfl rfl) ?_
      refine g_u (zR rfl rfl rfl Tryz.underlying58 tS92 (by omega) (ixE hi)) ?_
      refine g_u (zf rfl rfl fa92_2 rfl rfl) <| g_u (zd rfl rfl tA44 tS44 rfl rfl) <| g_u (zP (rattrs_c _ (ho.2.2.2.2.1 _ (v_ hi)).2.2 hx) rfl rfl) <| g_u (z0 rfl rfl rfl) <| g_u (zE rfl rfl) ?_
      refine zH ⟨by kernel_rfl, ?_⟩
      refine zW <| zA <| zB <| g_u (zC rfl rfl) <| g_u (z0 rfl rfl rfl) <| g_u (zE rfl rfl) <| zH <| zA ?_
      have q1 : zg evW (s.events.take i) + (64 + 6 * (nthE s.events i).name.size + yM (nthE s.events i).attrs) ≤ zg evW s.events := xp (F := evW) (d := ge0) hi
      have q2 : zg evW (s.events.take (i + 1)) = zg evW (s.events.take i) + (64 + 6 * (nthE s.events i).name.size + yM (nthE s.events i).attrs) := uc (F := evW) (d := ge0) hi
      refine ⟨i + 1, hi, ⟨rfl, rfl, zX rfl (by rw [q2]; ((try simp only [decide_eq_true_eq, decide_eq_false_iff_not, bne_iff_ne, ne_eq, beq_iff_eq, qd, beq_eq_false_iff_ne, Bool.not_eq_true', Bool.not_eq_false', gt_iff_lt, ge_iff_le] at *); (repeat simp (disch := omega) only [zO, zi] at *)); omega), zX rfl (by rw [zO (by omega) (by omega)]; rfl), trivial⟩, by (try dsimp only); omega⟩
    · have hin : i = s.events.length := by have := of_decide_eq_false hb1; (try simp only [List.length_map] at this); omega
      refine zz <| zT <| zT <| zq <| zA <| zD <| zD <| zB <| g_u (zE rfl rfl) <| zH <| zA <| zU ?_
      refine zw (fun i : Nat => [(2, .ptr 1002 0), (1002, .box 63 (.imm s.av)), (5, .imm (iv ((((512 + 6 * (t.size + s.state.size + s.name.size + s.note.size) + yM s.attrs) + zg evW s.events) + zg lkW (s.links.take i) : Nat) : Int))), (7, .imm (iv (i : Int)))]) (fun i => i ≤ s.links.length) (fun i => s.links.length - i) (0) ?_ ⟨rfl, rfl, zX rfl (by rw [hin, List.take_length, show zg lkW (s.links.take 0) = 0 from rfl]; rfl), rfl, trivial⟩ ?_
      · exact Nat.zero_le _
      · rintro i h1; have h1 : i ≤ s.links.length := h1; have hs0 := wZ lkW s.links i
        refine zD <| zD <| zB <| g_u (zC rfl rfl) <| g_u (zF rfl rfl wK rfl) <| g_u (zG rfl rfl rfl tA59 tS59 rfl rfl) <| g_u (z7 rfl rfl Tryz.underlying59) <| g_u (ye rfl rfl rfl) <| zH <| zA ?_
        refine zN rfl (fun hb2 => ?_) (fun hb2 => ?_)
        · have hi : i < s.links.length := by have := of_decide_eq_true hb2; (try simp only [List.length_map] at this); omega
          have q3 := xp (F := lkW) (d := gl0) hi
          have qa : lkW (nth s.links i gl0) = 64 + 6 * (nthL s.links i).state.size + yM (nthL s.links i).attrs := rfl
          have hx : wtAs (nthL s.links i).attrs ≤ 10000000 := by have h5 := yP GL.wt (jC hi); have h6 : (nthL s.links i).wt = 1 + (nthL s.links i).state.size + wtAs (nthL s.links i).attrs := rfl; omega
          refine zQ <| zA <| zD <| zU <| y_ xR <| g_u (zC rfl rfl) <| g_u (z0 rfl rfl rfl) <| g_u (zF rfl rfl wK rfl) <| g_u (zG rfl rfl rfl tA59 tS59 rfl rfl) <| g_u (zC rfl rfl) ?_
          refine g_u (zR rfl rfl rfl Tryz.underlying59 tS94 (by omega) (ixL hi)) ?_
          refine g_u (zf rfl rfl fa94_2 rfl rfl) <| g_u (zd rfl rfl tA9 tS9 rfl rfl) <| g_u (yp rfl rfl Tryz.underlying9) <| g_u (s_mul rfl rfl rfl) <| g_u (z0 rfl rfl rfl) <| g_u (zF rfl rfl wK rfl) <| g_u (zG rfl rfl rfl tA59 tS59 rfl rfl) <| g_u (zC rfl rfl) ?_
          refine g_u (zR rfl rfl rfl Tryz.underlying59 tS94 (by omega) (ixL hi)) ?_
          refine g_u (zf rfl rfl fa94_3 rfl rfl) <| g_u (zd rfl rfl tA44 tS44 rfl rfl) <| g_u (zP (rattrs_c _ (ho.2.2.2.2.2 _ (jC hi)).2.2.2 hx) rfl rfl) <| g_u (z0 rfl rfl rfl) <| g_u (zE rfl rfl) ?_
          refine zH ⟨by kernel_rfl, ?_⟩
          refine zW <| zA <| zB <| g_u (zC rfl rfl) <| g_u (z0 rfl rfl rfl) <| g_u (zE rfl rfl) <| zH <| zA ?_
          have q1 : zg lkW (s.links.take i) + (64 + 6 * (nthL s.links i).state.size + yM (nthL s.links i).attrs) ≤ zg lkW s.links := xp (F := lkW) (d := gl0) hi
          have q2 : zg lkW (s.links.take (i + 1)) = zg lkW (s.links.take i) + (64 + 6 * (nthL s.links i).state.size + yM (nthL s.links i).attrs) := uc (F := lkW) (d := gl0) hi
          refine ⟨i + 1, hi, ⟨rfl, rfl, zX rfl (by rw [q2]; ((try simp only [decide_eq_true_eq, decide_eq_false_iff_not, bne_iff_ne, ne_eq, beq_iff_eq, qd, beq_eq_false_iff_ne, Bool.not_eq_true', Bool.not_eq_false', gt_iff_lt, ge_iff_le] at *); (repeat simp (disch := omega) only [zO, zi] at *)); omega), zX rfl (by rw [zO (by omega) (by omega)]; rfl), trivial⟩, by (try dsimp only); omega⟩
        · have hin2 : i = s.links.length := by have := of_decide_eq_false hb2; (try simp only [List.length_map] at this); omega
          refine zz <| zT <| zT <| zq <| zA <| zD <| zB <| g_u (zC rfl rfl) <| g_u (zE rfl rfl) <| zH <| zA <| zL ?_
          exact ⟨⟨(rfl : toAV (Al.look _ _) = some _).trans (congrArg some (by (exact congrArg iv (by rw [hin2, List.take_length, qe])))), rfl⟩, trivial⟩
end Go.Proofs
namespace Go.Proofs
open Go Go.Al
set_option maxRecDepth 10000
theorem rscopeW_c (s : GScope) (t : ByteArray) (ho : s.ok) (hw : s.wt ≤ 1000000) (ht : t.size ≤ 10000000) : zn Tryz.prog Γ0 56 [s.av, sv t] [iv (xn s t : Nat)] := by
  have q0 := scopeW_le s t ht
  have qe : xn s t = 64 + 6 * (s.name.size + s.version.size) + zg (fun x => wL x t) s.spans := rfl
  have qw : s.wt = 1 + s.name.size + s.version.size + zg GSpan.wt s.spans := rfl
  have ql := yX GSpan.wt (fun e => by unfold GSpan.wt; omega) s.spans
  refine z_ Tryz.func56 rfl Tryz.ntmps56 (by kernel_rfl) rfl fun w0 I0 G0 => ?_
  refine zD <| zB <| g_uG (zk 1002 rfl rfl rfl rfl) rfl <| g_u (zE rfl rfl) <| zH <| zA <| zD <| zB <| g_u (zF rfl rfl fa51_0 rfl) <| g_u (zG rfl rfl rfl tA9 tS9 rfl rfl) <| g_u (zF rfl rfl fa51_1 rfl) <| g_u (zG rfl rfl rfl tA9 tS9 rfl rfl) ?_
  refine g_u (y5 rfl rfl rfl (by show _ ≤ (9223372036854775807 : Int); (try dsimp only); (try simp only [zo]); omega)) ?_
  refine g_u (yp rfl rfl Tryz.underlying9) <| g_u (s_mul rfl rfl rfl) <| g_u (z0 rfl rfl rfl) <| g_u (zE rfl rfl) <| zH <| zA <| zD <| zD <| zB <| g_u (zE rfl rfl) <| zH <| zA <| zU ?_
  refine zw (fun i : Nat => [(2, .ptr 1002 0), (1002, .box 51 (.imm s.av)), (1, .imm (sv t)), (5, .imm (iv (((64 + 6 * (s.name.size + s.version.size)) + zg (fun x => wL x t) (s.spans.take i) : Nat) : Int))), (6, .imm (iv (i : Int)))]) (fun i => i ≤ s.spans.length) (fun i => s.spans.length - i) (0) ?_ ⟨rfl, rfl, rfl, zX rfl (by simp only [zo]; rw [show zg (fun x => wL x t) (s.spans.take 0) = 0 from rfl]; ((try simp only [decide_eq_true_eq, decide_eq_false_iff_not, bne_iff_ne, ne_eq, beq_iff_eq, qd, beq_eq_false_iff_ne, Bool.not_eq_true', Bool.not_eq_false', gt_iff_lt, ge_iff_le] at *); (repeat simp (disch := omega) only [zO, zi] at *)); omega), rfl, trivial⟩ ?_
  · exact Nat.zero_le _
  · rintro i h1; have h1 : i ≤ s.spans.length := h1; have hs0 := wZ (fun x => wL x t) s.spans i
    refine zD <| zD <| zB <| g_u (zC rfl rfl) <| g_u (zF rfl rfl uM rfl) <| g_u (zG rfl rfl rfl tA49 tS49 rfl rfl) <| g_u (z7 rfl rfl Tryz.underlying49) <| g_u (ye rfl rfl rfl) <| zH <| zA ?_
    refine zN rfl (fun hb1 => ?_) (fun hb1 => ?_)
    · have hi : i < s.spans.length := by have := of_decide_eq_true hb1; (try simp only [List.length_map] at this); omega
      have hx : (nthS s.spans i).wt ≤ 1000000 := by have h5 := yP GSpan.wt (uO hi); omega
      refine zQ <| zA <| zD <| zU <| zB <| g_u (zC rfl rfl) <| g_u (zF rfl rfl uM rfl) <| g_u (zG rfl rfl rfl tA49 tS49 rfl rfl) <| g_u (zC rfl rfl) ?_
      refine g_u (zR rfl rfl rfl Tryz.underlying49 tS63 (by omega) (ixS hi)) ?_
      refine g_u (zd rfl rfl tA63 tS63 rfl (by first | exact wh (GSpan.width _) rfl | rfl)) ?_
      refine g_u (zC rfl rfl) <| g_u (zP (rspanW_c _ t (ho.2.2 _ (uO hi)) hx ht) rfl rfl) <| g_u (z0 rfl rfl rfl) <| g_u (zE rfl rfl) <| zH <| zW <| zA <| zB <| g_u (zC rfl rfl) <| g_u (z0 rfl rfl rfl) <| g_u (zE rfl rfl) <| zH <| zA ?_
      have q1 : zg (fun x => wL x t) (s.spans.take i) + wL (nthS s.spans i) t ≤ zg (fun x => wL x t) s.spans := xp (F := (fun x => wL x t)) (d := gs0) hi
      have q2 : zg (fun x => wL x t) (s.spans.take (i + 1)) = zg (fun x => wL x t) (s.spans.take i) + wL (nthS s.spans i) t := uc (F := (fun x => wL x t)) (d := gs0) hi
      refine ⟨i + 1, hi, ⟨rfl, rfl, rfl, zX rfl (by rw [q2]; ((try simp only [decide_eq_true_eq, decide_eq_false_iff_not, bne_iff_ne, ne_eq, beq_iff_eq, qd, beq_eq_false_iff_ne, Bool.not_eq_true', Bool.not_eq_false', gt_iff_lt, ge_iff_le] at *); (repeat simp (disch := omega) only [zO, zi] at *)); omega), zX rfl (by rw [zO (by omega) (by omega)]; rfl), trivial⟩, by (try dsimp only); omega⟩
    · have hin : i = s.spans.length := by have := of_decide_eq_false hb1; (try simp only [List.length_map] at this); omega
      refine zz <| zT <| zT <| zq <| zA <| zD <| zB <| g_u (zC rfl rfl) <| g_u (zE rfl rfl) <| zH <| zA <| zL ?_
      exact ⟨⟨(rfl : toAV (Al.look _ _) = some _).trans (congrArg some (by (exact congrArg iv (by rw [hin, List.take_length, qe])))), rfl⟩, trivial⟩
def fitR (r : GRes) : Prop := wtAs r.attrs ≤ 1000000 ∧ r.scopes.length ≤ 1000000 ∧ (zu r).size ≤ 10000000 ∧ ∀ c ∈ r.scopes, c.wt ≤ 1000000
theorem fit_small {r : GRes} (h : r.wt ≤ 60000) : fitR r := by
  have h1 := ub r
  have h2 : r.wt = 1 + wtAs r.attrs + zg GScope.wt r.scopes := rfl
  have h3 := yX GScope.wt (fun e => by unfold GScope.wt; omega) r.scopes
  exact ⟨by omega, by omega, by omega, fun c hc => by have := yP GScope.wt hc; omega⟩
def fitB (b : List GRes) : Prop := wtB b ≤ 3000000 ∧ ∀ r ∈ b, fitR r
theorem fitB_small {b : List GRes} (h : wtB b ≤ 60000) : fitB b := ⟨by omega, fun r hr => fit_small (by have := yP GRes.wt hr; unfold wtB at h; omega)⟩
theorem rresWX_c (r : GRes) (ho : r.ok) (hw : r.wt ≤ 3000000) (hf : fitR r) : zn Tryz.prog Γ0 31 [r.av] [iv (resW r : Nat)] := by
  have ht : (zu r).size ≤ 10000000 := hf.2.2.1
  have q0 := resW_le r ht
  have qe : resW r = 64 + yM r.attrs + zg (fun s => xn s (zu r)) r.scopes := rfl
  have qw : r.wt = 1 + wtAs r.attrs + zg GScope.wt r.scopes := rfl
  have ql := yX GScope.wt (fun e => by unfold GScope.wt; omega) r.scopes
  refine z_ Tryz.func31 rfl Tryz.ntmps31 (by kernel_rfl) rfl fun w0 I0 G0 => ?_
  refine zD <| zB <| g_uG (zk 1001 rfl rfl rfl rfl) rfl <| g_u (zE rfl rfl) <| zH <| zA <| zD <| zB <| g_u (zF rfl rfl fa47_0 rfl) <| g_u (zG rfl rfl rfl tA44 tS44 rfl rfl) ?_
  refine g_u (zP (rattrs_c _ ho.1 (by omega)) rfl rfl) ?_
  refine g_u (z0 rfl rfl rfl) <| g_u (zE rfl rfl) <| zH <| zA <| zD <| zD <| zB <| g_u (zE rfl rfl) <| zH <| zA <| zU ?_
  refine zw (fun i : Nat => [(1, .ptr 1001 0), (1001, .box 47 (.imm r.av)), (3, .imm (iv (((64 + yM r.attrs) + zg (fun s => xn s (zu r)) (r.scopes.take i) : Nat) : Int))), (4, .imm (iv (i : Int)))]) (fun i => i ≤ r.scopes.length) (fun i => r.scopes.length - i) (0) ?_ ⟨rfl, rfl, zX rfl (by rw [show zg (fun s => xn s (zu r)) (r.scopes.take 0) = 0 from rfl]; ((try simp only [decide_eq_true_eq, decide_eq_false_iff_not, bne_iff_ne, ne_eq, beq_iff_eq, qd, beq_eq_false_iff_ne, Bool.not_eq_true', Bool.not_eq_false', gt_iff_lt, ge_iff_le] at *); (repeat simp (disch := omega) only [zO, zi] at *)); omega), rfl, trivial⟩ ?_
  · exact Nat.zero_le _
  · rintro i h1; have h1 : i ≤ r.scopes.length := h1; have hs0 := wZ (fun s => xn s (zu r)) r.scopes i
    refine zD <| zD <| zB <| g_u (zC rfl rfl) <| g_u (zF rfl rfl wj rfl) <| g_u (zG rfl rfl rfl tA45 tS45 rfl rfl) <| g_u (z7 rfl rfl Tryz.underlying45) <| g_u (ye rfl rfl rfl) <| zH <| zA ?_
    refine zN rfl (fun hb1 => ?_) (fun hb1 => ?_)
    · have hi : i < r.scopes.length := by have := of_decide_eq_true hb1; (try simp only [List.length_map] at this); omega
      have hx : (nthC r.scopes i).wt ≤ 1000000 := hf.2.2.2 _ (vy hi)
      refine zQ <| zA <| zD <| zU <| y_ xR <| g_u (zC rfl rfl) <| g_u (zF rfl rfl wj rfl) <| g_u (zG rfl rfl rfl tA45 tS45 rfl rfl) <| g_u (zC rfl rfl) ?_
      refine g_u (zR rfl rfl rfl Tryz.underlying45 tS51 (by omega) (ixC hi)) ?_
      refine g_u (zd rfl rfl tA51 tS51 rfl rfl) <| g_u (zG rfl rfl rfl tA47 tS47 rfl rfl) ?_
      refine g_u (zP (rservice_c r ho.1 (by omega)) rfl rfl) ?_
      refine g_u (zP (rscopeW_c _ _ (ho.2 _ (vy hi)) hx ht) rfl rfl) <| g_u (z0 rfl rfl rfl) <| g_u (zE rfl rfl) ?_
      refine zH ⟨by kernel_rfl, ?_⟩
      refine zW <| zA <| zB <| g_u (zC rfl rfl) <| g_u (z0 rfl rfl rfl) <| g_u (zE rfl rfl) <| zH <| zA ?_
      have q1 : zg (fun s => xn s (zu r)) (r.scopes.take i) + xn (nthC r.scopes i) (zu r) ≤ zg (fun s => xn s (zu r)) r.scopes := xp (F := (fun s => xn s (zu r))) (d := gc0) hi
      have q2 : zg (fun s => xn s (zu r)) (r.scopes.take (i + 1)) = zg (fun s => xn s (zu r)) (r.scopes.take i) + xn (nthC r.scopes i) (zu r) := uc (F := (fun s => xn s (zu r))) (d := gc0) hi
      refine ⟨i + 1, hi, ⟨rfl, rfl, zX rfl (by rw [q2]; ((try simp only [decide_eq_true_eq, decide_eq_false_iff_not, bne_iff_ne, ne_eq, beq_iff_eq, qd, beq_eq_false_iff_ne, Bool.not_eq_true', Bool.not_eq_false', gt_iff_lt, ge_iff_le] at *); (repeat simp (disch := omega) only [zO, zi] at *)); omega), zX rfl (by rw [zO (by omega) (by omega)]; rfl), trivial⟩, by (try dsimp only); omega⟩
    · have hin : i = r.scopes.length := by have := of_decide_eq_false hb1; (try simp only [List.length_map] at this); omega
      refine zz <| zT <| zT <| zq <| zA <| zD <| zB <| g_u (zC rfl rfl) <| g_u (zE rfl rfl) <| zH <| zA <| zL ?_
      exact ⟨⟨(rfl : toAV (Al.look _ _) = some _).trans (congrArg some (by (exact congrArg iv (by rw [hin, List.take_length, qe])))), rfl⟩, trivial⟩
theorem sumBy_le3 {α : Type} {F G : α → Nat} {k : Nat} : ∀ (l : List α), (∀ x ∈ l, F x ≤ k * G x) → zg F l ≤ k * zg G l
  | [], _ => by simp [zg]
  | x :: xs, h => by simp only [zg, Nat.mul_add]; have := h x List.mem_cons_self; have := sumBy_le3 xs (fun y hy => h y (List.mem_cons_of_mem _ hy)); omega
theorem rbatchWX_c (b : List GRes) (ho : okB b) (hf : fitB b) : zn Tryz.prog Γ0 10 [ya b] [iv (vJ b : Nat)] := by
  have hw := hf.1
  have ql := yX GRes.wt (fun e => by unfold GRes.wt; omega) b
  have q0 : zg resW b ≤ 100000000 * 3000000 := by have h5 := sumBy_le3 (F := resW) (k := 100000000) (G := GRes.wt) b (fun r hr => resW_le r (hf.2 r hr).2.2.1); unfold wtB at hw; omega
  have qe : vJ b = 16 + zg resW b := rfl
  have qw : wtB b = zg GRes.wt b := rfl
  refine z_ Tryz.func10 rfl Tryz.ntmps10 (by kernel_rfl) rfl fun w0 I0 G0 => ?_
  refine zD <| zB <| g_uG (zk 1001 rfl rfl rfl rfl) rfl <| g_u (zE rfl rfl) <| zH <| zA <| zD <| zB <| g_u (zE rfl rfl) <| zH <| zA <| zD <| zD <| zB <| g_u (zE rfl rfl) <| zH <| zA <| zU ?_
  refine zw (fun i : Nat => [(1, .ptr 1001 0), (1001, .box 24 (.imm (ya b))), (3, .imm (iv ((16 + zg resW (b.take i) : Nat) : Int))), (4, .imm (iv (i : Int)))]) (fun i => i ≤ b.length) (fun i => b.length - i) (0) ?_ ⟨rfl, rfl, rfl, rfl, trivial⟩ ?_
  · exact Nat.zero_le _
  · rintro i h1; have h1 : i ≤ b.length := h1; have hs0 := wZ resW b i
    refine zD <| zD <| zB <| g_u (zC rfl rfl) <| g_u (zF rfl rfl uC rfl) <| g_u (zG rfl rfl rfl tA22 tS22 rfl rfl) <| g_u (z7 rfl rfl Tryz.underlying22) <| g_u (ye rfl rfl rfl) <| zH <| zA ?_
    refine zN rfl (fun hb1 => ?_) (fun hb1 => ?_)
    · have hi : i < b.length := by have := of_decide_eq_true hb1; (try simp only [List.length_map] at this); omega
      have hx : (nthR b i).wt ≤ 3000000 := by have h5 := yP GRes.wt (w_ hi); omega
      refine zQ <| zA <| zD <| zU <| zB <| g_u (zC rfl rfl) <| g_u (zF rfl rfl uC rfl) <| g_u (zG rfl rfl rfl tA22 tS22 rfl rfl) <| g_u (zC rfl rfl) ?_
      refine g_u (zR rfl rfl rfl Tryz.underlying22 tS47 (by omega) (ixR hi)) ?_
      refine g_u (zd rfl rfl tA47 tS47 rfl rfl) <| g_u (zP (rresWX_c _ (ho _ (w_ hi)) hx (hf.2 _ (w_ hi))) rfl rfl) <| g_u (z0 rfl rfl rfl) <| g_u (zE rfl rfl) <| zH <| zW <| zA <| zB <| g_u (zC rfl rfl) <| g_u (z0 rfl rfl rfl) <| g_u (zE rfl rfl) <| zH <| zA ?_
      have q1 : zg resW (b.take i) + resW (nthR b i) ≤ zg resW b := xp (F := resW) (d := gr0) hi
      have q2 : zg resW (b.take (i + 1)) = zg resW (b.take i) + resW (nthR b i) := uc (F := resW) (d := gr0) hi
      refine ⟨i + 1, hi, ⟨rfl, rfl, zX rfl (by rw [q2]; ((try simp only [decide_eq_true_eq, decide_eq_false_iff_not, bne_iff_ne, ne_eq, beq_iff_eq, qd, beq_eq_false_iff_ne, Bool.not_eq_true', Bool.not_eq_false', gt_iff_lt, ge_iff_le] at *); (repeat simp (disch := omega) only [zO, zi] at *)); omega), zX rfl (by rw [zO (by omega) (by omega)]; rfl), trivial⟩, by (try dsimp only); omega⟩
    · have hin : i = b.length := by have := of_decide_eq_false hb1; (try simp only [List.length_map] at this); omega
      refine zz <| zT <| zT <| zq <| zA <| zD <| zB <| g_u (zC rfl rfl) <| g_u (zE rfl rfl) <| zH <| zA <| zL ?_
      exact ⟨⟨(rfl : toAV (Al.look _ _) = some _).trans (congrArg some (by (exact congrArg iv (by rw [hin, List.take_length, qe])))), rfl⟩, trivial⟩
end Go.Proofs
namespace Go.Proofs
open Go Go.Al
set_option maxRecDepth 10000
end Go.Proofs
namespace Go.Proofs
open Go Go.Al
set_option maxRecDepth 10000
theorem textB_plain (v : GV) : xA (vA v) = xA v := by
  have h : ¬ ((vA v).kind = 6 ∨ (vA v).kind = 7) := by simp [vA, GV.kind]
  rw [textE h, re (by rfl)]; rfl
theorem plainV_ok {v : GV} (ho : v.ok) (hw : v.wt ≤ 1000000) : (vA v).ok := by
  rw [GV.ok_iff]
  have := textM_le v
  refine ⟨⟨by show (0 : Int) ≤ 1; decide, by show (1 : Int) < 256; decide⟩, ?_, ⟨by show (-9223372036854775808 : Int) ≤ 0; decide, by show (0 : Int) < 9223372036854775808; decide⟩, ⟨by show (0 : Int) ≤ 0; decide, by show (0 : Int) < 18446744073709551616; decide⟩, fun x hx => absurd hx (by simp [vA, GV.list]), fun x hx => absurd hx (by simp [vA, GV.map])⟩
  show (xA v).size ≤ maxLen
  unfold maxLen; omega
end Go.Proofs
namespace Go.Proofs
open Go Go.Al
set_option maxRecDepth 10000
end Go.Proofs
namespace Go.Proofs
open Go Go.Al
set_option maxRecDepth 10000
end Go.Proofs
namespace Go.Proofs
open Go Go.Al
set_option maxRecDepth 10000
end Go.Proofs
namespace Go.Proofs
open Go Go.Al
set_option maxRecDepth 10000
set_option maxHeartbeats 4000000 in
theorem leftS_c (s : GSpan) (n : Int) (hn : -1000000000000 ≤ n ∧ n ≤ 1000000000) : zn Tryz.prog Γ0 23 [s.av, iv n] [iv (uP s n)] := by
  refine z_ Tryz.func23 rfl Tryz.ntmps23 (by kernel_rfl) rfl fun w0 I0 G0 => ?_
  refine zD <| zB <| g_uG (zk 1002 rfl rfl rfl rfl) rfl <| g_u (zE rfl rfl) <| zH <| zA <| zD <| zD <| zB <| g_u (zC rfl rfl) <| g_u (ye rfl rfl rfl) <| g_u (zC rfl rfl) <| yB (t := 9) rfl ?_
  rintro (hb1 | hb1)
  · rw [hb1]
    have z1 : n < 0 := of_decide_eq_true hb1
    refine zI rfl rfl rfl <| zI rfl rfl rfl <| zI rfl rfl rfl <| zI rfl rfl rfl <| zI rfl rfl rfl <| g_u (zZ rfl rfl rfl) <| g_u (zC rfl rfl) <| zI rfl rfl rfl <| zI rfl rfl rfl <| zI rfl rfl rfl <| zI rfl rfl rfl <| zI rfl rfl rfl <| g_u (zZ rfl rfl rfl) <| g_u (zC rfl rfl) <| zI rfl rfl rfl <| zI rfl rfl rfl <| zI rfl rfl rfl <| zI rfl rfl rfl <| zI rfl rfl rfl <| zI rfl rfl rfl <| g_u (zZ rfl rfl rfl) <| zH <| zA <| zs rfl <| zD <| zB <| g_u (zE rfl rfl) <| zH <| zA <| zL <| zK ?_
    exact ⟨⟨(rfl : toAV (Al.look _ _) = some _).trans (congrArg some (by (exact congrArg iv (by unfold uP; first | (rw [if_pos (by omega)]; done) | (rw [if_neg (by omega), g4, gfin]; done) | (rw [if_neg (by omega), g4, wP hi2 (by omega) hk2]; done) | (rw [if_neg (by omega), h4, wV hi (by omega) hk]; exact (xN _ (by omega)).symm))))), rfl⟩, trivial⟩
  · rw [hb1]
    have z1 : ¬ n < 0 := of_decide_eq_false hb1
    refine zY rfl rfl (zF rfl rfl fa63_3 rfl) <| zY rfl rfl (zG rfl rfl rfl tA9 tS9 rfl rfl) <| zY rfl rfl (yp rfl rfl Tryz.underlying9) <| zY rfl rfl (zC rfl rfl) <| zY rfl rfl (wD rfl rfl rfl) <| g_u (zh rfl rfl rfl) <| g_u (zC rfl rfl) <| yB (t := 16) rfl ?_
    rintro (hb2 | hb2)
    · rw [hb2]
      have z2 : (s.state.size : Int) > n := of_decide_eq_true hb2
      refine zI rfl rfl rfl <| zI rfl rfl rfl <| zI rfl rfl rfl <| zI rfl rfl rfl <| zI rfl rfl rfl <| g_u (zZ rfl rfl rfl) <| g_u (zC rfl rfl) <| zI rfl rfl rfl <| zI rfl rfl rfl <| zI rfl rfl rfl <| zI rfl rfl rfl <| zI rfl rfl rfl <| zI rfl rfl rfl <| g_u (zZ rfl rfl rfl) <| zH <| zA <| zs rfl <| zD <| zB <| g_u (zE rfl rfl) <| zH <| zA <| zL <| zK ?_
      exact ⟨⟨(rfl : toAV (Al.look _ _) = some _).trans (congrArg some (by (exact congrArg iv (by unfold uP; first | (rw [if_pos (by omega)]; done) | (rw [if_neg (by omega), g4, gfin]; done) | (rw [if_neg (by omega), g4, wP hi2 (by omega) hk2]; done) | (rw [if_neg (by omega), h4, wV hi (by omega) hk]; exact (xN _ (by omega)).symm))))), rfl⟩, trivial⟩
    · rw [hb2]
      have z2 : ¬ (s.state.size : Int) > n := of_decide_eq_false hb2
      refine zY rfl rfl (zF rfl rfl fa63_4 rfl) <| zY rfl rfl (zG rfl rfl rfl tA9 tS9 rfl rfl) <| zY rfl rfl (yp rfl rfl Tryz.underlying9) <| zY rfl rfl (zC rfl rfl) <| zY rfl rfl (wD rfl rfl rfl) <| g_u (zh rfl rfl rfl) <| g_u (zC rfl rfl) <| yB (t := 23) rfl ?_
      rintro (hb3 | hb3)
      · rw [hb3]
        have z3 : (s.name.size : Int) > n := of_decide_eq_true hb3
        refine zI rfl rfl rfl <| zI rfl rfl rfl <| zI rfl rfl rfl <| zI rfl rfl rfl <| zI rfl rfl rfl <| zI rfl rfl rfl <| g_u (zZ rfl rfl rfl) <| zH <| zA <| zs rfl <| zD <| zB <| g_u (zE rfl rfl) <| zH <| zA <| zL <| zK ?_
        exact ⟨⟨(rfl : toAV (Al.look _ _) = some _).trans (congrArg some (by (exact congrArg iv (by unfold uP; first | (rw [if_pos (by omega)]; done) | (rw [if_neg (by omega), g4, gfin]; done) | (rw [if_neg (by omega), g4, wP hi2 (by omega) hk2]; done) | (rw [if_neg (by omega), h4, wV hi (by omega) hk]; exact (xN _ (by omega)).symm))))), rfl⟩, trivial⟩
      · rw [hb3]
        have z3 : ¬ (s.name.size : Int) > n := of_decide_eq_false hb3
        refine zY rfl rfl (zF rfl rfl tf rfl) <| zY rfl rfl (zF rfl rfl fa61_1 rfl) <| zY rfl rfl (zG rfl rfl rfl tA9 tS9 rfl rfl) <| zY rfl rfl (yp rfl rfl Tryz.underlying9) <| zY rfl rfl (zC rfl rfl) <| zY rfl rfl (wD rfl rfl rfl) <| g_u (zh rfl rfl rfl) <| zH <| zA ?_
        refine zN rfl (fun hb4 => ?_) (fun hb4 => ?_)
        · have z4 : (s.note.size : Int) > n := of_decide_eq_true hb4
          refine zD <| zB <| g_u (zE rfl rfl) <| zH <| zA <| zL <| zK ?_
          exact ⟨⟨(rfl : toAV (Al.look _ _) = some _).trans (congrArg some (by (exact congrArg iv (by unfold uP; first | (rw [if_pos (by omega)]; done) | (rw [if_neg (by omega), g4, gfin]; done) | (rw [if_neg (by omega), g4, wP hi2 (by omega) hk2]; done) | (rw [if_neg (by omega), h4, wV hi (by omega) hk]; exact (xN _ (by omega)).symm))))), rfl⟩, trivial⟩
        · have z4 : ¬ (s.note.size : Int) > n := of_decide_eq_false hb4
          have bm := wa s.attrs (n - 1 - s.state.size - s.name.size - s.note.size)
          have ew : yS s.attrs (IntKind.i64.wrap (IntKind.i64.wrap (IntKind.i64.wrap (IntKind.i64.wrap (n - 1) - s.state.size) - s.name.size) - s.note.size)) = yS s.attrs (n - 1 - s.state.size - s.name.size - s.note.size) := by rw [zO (n := n - 1) (by omega) (by omega), zO (n := n - 1 - s.state.size) (by omega) (by omega), zO (n := n - 1 - s.state.size - s.name.size) (by omega) (by omega), zO (by omega) (by omega)]
          refine zQ <| zA <| zD <| zB <| g_u (zF rfl rfl si rfl) <| g_u (zG rfl rfl rfl tA44 tS44 rfl rfl) <| g_u (zC rfl rfl) <| g_u (vW rfl rfl rfl) <| g_u (zF rfl rfl fa63_3 rfl) <| g_u (zG rfl rfl rfl tA9 tS9 rfl rfl) <| g_u (yp rfl rfl Tryz.underlying9) <| g_u (vW rfl rfl rfl) <| g_u (zF rfl rfl fa63_4 rfl) <| g_u (zG rfl rfl rfl tA9 tS9 rfl rfl) <| g_u (yp rfl rfl Tryz.underlying9) <| g_u (vW rfl rfl rfl) <| g_u (zF rfl rfl tf rfl) <| g_u (zF rfl rfl fa61_1 rfl) <| g_u (zG rfl rfl rfl tA9 tS9 rfl rfl) <| g_u (yp rfl rfl Tryz.underlying9) <| g_u (vW rfl rfl rfl) ?_
          refine g_u (zP (jX _ _ ⟨by ((try simp only [decide_eq_true_eq, decide_eq_false_iff_not, bne_iff_ne, ne_eq, beq_iff_eq, qd, beq_eq_false_iff_ne, Bool.not_eq_true', Bool.not_eq_false', gt_iff_lt, ge_iff_le] at *); (repeat simp (disch := omega) only [zO, zi] at *)); omega, by ((try simp only [decide_eq_true_eq, decide_eq_false_iff_not, bne_iff_ne, ne_eq, beq_iff_eq, qd, beq_eq_false_iff_ne, Bool.not_eq_true', Bool.not_eq_false', gt_iff_lt, ge_iff_le] at *); (repeat simp (disch := omega) only [zO, zi] at *)); omega⟩) rfl rfl) ?_
          refine g_u (zE rfl rfl) <| zH <| zA <| zD <| zD <| zB <| g_u (zE rfl rfl) <| zH <| zA <| zU ?_
          refine zw (fun j : Nat × Int => [(2, .ptr 1002 0), (1002, .box 63 (.imm s.av)), (1, .imm (iv j.2)), (5, .imm (iv (j.1 : Int)))]) (fun j => j.1 ≤ s.events.length ∧ (-1000000000000 ≤ j.2 ∧ j.2 ≤ 1000000000) ∧ ((j.1 : Int) ≤ yS s.attrs (n - 1 - s.state.size - s.name.size - s.note.size) - j.2) ∧ uB s.events (yS s.attrs (n - 1 - s.state.size - s.name.size - s.note.size)) = uB (s.events.drop j.1) j.2) (fun j => s.events.length - j.1) (⟨0, yS s.attrs (n - 1 - s.state.size - s.name.size - s.note.size)⟩) ?_ ⟨rfl, rfl, zX rfl (by rw [ew]), rfl, trivial⟩ ?_
          · exact ⟨Nat.zero_le _, ⟨by have := bm.2.1; omega, by omega⟩, by simp, rfl⟩
          · rintro ⟨i, m⟩ ⟨h1, h2, h3, h4⟩; dsimp only at h1 h2 h3 h4
            refine zD <| zD <| zB <| g_u (zC rfl rfl) <| g_u (zF rfl rfl vN rfl) <| g_u (zG rfl rfl rfl tA58 tS58 rfl rfl) <| g_u (z7 rfl rfl Tryz.underlying58) <| g_u (ye rfl rfl rfl) <| g_u (zC rfl rfl) <| yB (t := 54) rfl ?_
            rintro (hb5 | hb5)
            · rw [hb5]
              have hi : i < s.events.length := by have := of_decide_eq_true hb5; (try simp only [List.length_map] at this); omega
              refine zY rfl rfl (zC rfl rfl) <| zY rfl rfl (tD rfl rfl rfl) <| g_u (zZ rfl rfl rfl) <| zH <| zA ?_
              refine zN rfl (fun hb6 => ?_) (fun hb6 => ?_)
              · have hs : ¬ m < 0 := by have := of_decide_eq_true hb6; omega
                refine zQ <| zA <| zD <| zU <| zD <| zD <| zB <| g_u (zF rfl rfl vN rfl) <| g_u (zG rfl rfl rfl tA58 tS58 rfl rfl) <| g_u (zC rfl rfl) ?_
                refine g_u (zR rfl rfl rfl Tryz.underlying58 tS92 (by omega) (ixE hi)) ?_
                refine g_u (zf rfl rfl jK rfl rfl) <| g_u (zd rfl rfl tA9 tS9 rfl rfl) <| g_u (yp rfl rfl Tryz.underlying9) <| g_u (zC rfl rfl) <| g_u (wD rfl rfl rfl) <| zH <| zA ?_
                refine zN rfl (fun hb7 => ?_) (fun hb7 => ?_)
                · have hk : ((nthE s.events i).name.size : Int) > m := of_decide_eq_true hb7
                  refine zD <| zB <| g_u (zE rfl rfl) <| zH <| zA <| zL <| zK <| zt <| zK <| zK <| zt <| zK ?_
                  exact ⟨⟨(rfl : toAV (Al.look _ _) = some _).trans (congrArg some (by (exact congrArg iv (by unfold uP; first | (rw [if_pos (by omega)]; done) | (rw [if_neg (by omega), g4, gfin]; done) | (rw [if_neg (by omega), g4, wP hi2 (by omega) hk2]; done) | (rw [if_neg (by omega), h4, wV hi (by omega) hk]; exact (xN _ (by omega)).symm))))), rfl⟩, trivial⟩
                · have hk : ¬ ((nthE s.events i).name.size : Int) > m := of_decide_eq_false hb7
                  refine zQ <| zA <| y_ xR <| g_u (zF rfl rfl vN rfl) <| g_u (zG rfl rfl rfl tA58 tS58 rfl rfl) <| g_u (zC rfl rfl) ?_
                  refine g_u (zR rfl rfl rfl Tryz.underlying58 tS92 (by omega) (ixE hi)) ?_
                  refine g_u (zf rfl rfl fa92_2 rfl rfl) <| g_u (zd rfl rfl tA44 tS44 rfl rfl) <| g_u (zC rfl rfl) <| g_u (vW rfl rfl rfl) <| g_u (zF rfl rfl vN rfl) <| g_u (zG rfl rfl rfl tA58 tS58 rfl rfl) <| g_u (zC rfl rfl) ?_
                  refine g_u (zR rfl rfl rfl Tryz.underlying58 tS92 (by omega) (ixE hi)) ?_
                  refine g_u (zf rfl rfl jK rfl rfl) <| g_u (zd rfl rfl tA9 tS9 rfl rfl) <| g_u (yp rfl rfl Tryz.underlying9) <| g_u (vW rfl rfl rfl) ?_
                  refine g_u (zP (jX _ _ ⟨by ((try simp only [decide_eq_true_eq, decide_eq_false_iff_not, bne_iff_ne, ne_eq, beq_iff_eq, qd, beq_eq_false_iff_ne, Bool.not_eq_true', Bool.not_eq_false', gt_iff_lt, ge_iff_le] at *); (repeat simp (disch := omega) only [zO, zi] at *)); omega, by ((try simp only [decide_eq_true_eq, decide_eq_false_iff_not, bne_iff_ne, ne_eq, beq_iff_eq, qd, beq_eq_false_iff_ne, Bool.not_eq_true', Bool.not_eq_false', gt_iff_lt, ge_iff_le] at *); (repeat simp (disch := omega) only [zO, zi] at *)); omega⟩) rfl rfl) ?_
                  refine g_u (zE rfl rfl) ?_
                  refine zH ⟨by kernel_rfl, ?_⟩
                  refine zW <| zA <| zB <| g_u (zC rfl rfl) <| g_u (z0 rfl rfl rfl) <| g_u (zE rfl rfl) <| zH <| zA ?_
                  have ed := leftE_drop (m := m) hi (by omega) hk
                  have bl := wa (nthE s.events i).attrs (m - 1 - (nthE s.events i).name.size)
                  refine ⟨⟨i + 1, yS (nthE s.events i).attrs (m - 1 - (nthE s.events i).name.size)⟩, ⟨hi, ⟨by dsimp only; omega, by dsimp only; omega⟩, by dsimp only; omega, by dsimp only; rw [h4, ed]⟩, ⟨rfl, rfl, zX rfl (by dsimp only; rw [zO (n := m - 1) (by omega) (by omega), zO (by omega) (by omega)]), zX rfl (by rw [zO (by omega) (by omega)]; rfl), trivial⟩, by dsimp only; omega⟩
              · have hs : m < 0 := by have := of_decide_eq_false hb6; omega
                have hm : uB s.events (yS s.attrs (n - 1 - s.state.size - s.name.size - s.note.size)) = m := by rw [h4]; exact leftE_neg _ hs
                refine zz <| zT <| zT <| zq <| zA <| zD <| zD <| zB <| g_u (zE rfl rfl) <| zH <| zA <| zU ?_
                refine zw (fun j : Nat × Int => [(2, .ptr 1002 0), (1002, .box 63 (.imm s.av)), (1, .imm (iv j.2)), (6, .imm (iv (j.1 : Int)))]) (fun j => j.1 ≤ s.links.length ∧ (-1000000000000 ≤ j.2 ∧ j.2 ≤ 1000000000) ∧ ((j.1 : Int) ≤ uB s.events (yS s.attrs (n - 1 - s.state.size - s.name.size - s.note.size)) - j.2) ∧ v6 s.links (uB s.events (yS s.attrs (n - 1 - s.state.size - s.name.size - s.note.size))) = v6 (s.links.drop j.1) j.2) (fun j => s.links.length - j.1) (⟨0, m⟩) ?_ ⟨rfl, rfl, rfl, rfl, trivial⟩ ?_
                · exact ⟨Nat.zero_le _, h2, by rw [hm]; simp, by rw [hm]; rfl⟩
                · rintro ⟨i2, m2⟩ ⟨g1, g2, g3, g4⟩; dsimp only at g1 g2 g3 g4
                  refine zD <| zD <| zB <| g_u (zC rfl rfl) <| g_u (zF rfl rfl wK rfl) <| g_u (zG rfl rfl rfl tA59 tS59 rfl rfl) <| g_u (z7 rfl rfl Tryz.underlying59) <| g_u (ye rfl rfl rfl) <| g_u (zC rfl rfl) <| yB (t := 91) rfl ?_
                  rintro (hb8 | hb8)
                  · rw [hb8]
                    have hi2 : i2 < s.links.length := by have := of_decide_eq_true hb8; (try simp only [List.length_map] at this); omega
                    refine zY rfl rfl (zC rfl rfl) <| zY rfl rfl (tD rfl rfl rfl) <| g_u (zZ rfl rfl rfl) <| zH <| zA ?_
                    refine zN rfl (fun hb9 => ?_) (fun hb9 => ?_)
                    · have hs2 : ¬ m2 < 0 := by have := of_decide_eq_true hb9; omega
                      refine zQ <| zA <| zD <| zU <| zD <| zD <| zB <| g_u (zF rfl rfl wK rfl) <| g_u (zG rfl rfl rfl tA59 tS59 rfl rfl) <| g_u (zC rfl rfl) ?_
                      refine g_u (zR rfl rfl rfl Tryz.underlying59 tS94 (by omega) (ixL hi2)) ?_
                      refine g_u (zf rfl rfl fa94_2 rfl rfl) <| g_u (zd rfl rfl tA9 tS9 rfl rfl) <| g_u (yp rfl rfl Tryz.underlying9) <| g_u (zC rfl rfl) <| g_u (wD rfl rfl rfl) <| zH <| zA ?_
                      refine zN rfl (fun hb10 => ?_) (fun hb10 => ?_)
                      · have hk2 : ((nthL s.links i2).state.size : Int) > m2 := of_decide_eq_true hb10
                        refine zD <| zB <| g_u (zE rfl rfl) <| zH <| zA <| zL <| zK <| zt <| zK <| zK <| zt <| zK ?_
                        exact ⟨⟨(rfl : toAV (Al.look _ _) = some _).trans (congrArg some (by (exact congrArg iv (by unfold uP; first | (rw [if_pos (by omega)]; done) | (rw [if_neg (by omega), g4, gfin]; done) | (rw [if_neg (by omega), g4, wP hi2 (by omega) hk2]; done) | (rw [if_neg (by omega), h4, wV hi (by omega) hk]; exact (xN _ (by omega)).symm))))), rfl⟩, trivial⟩
                      · have hk2 : ¬ ((nthL s.links i2).state.size : Int) > m2 := of_decide_eq_false hb10
                        refine zQ <| zA <| y_ xR <| g_u (zF rfl rfl wK rfl) <| g_u (zG rfl rfl rfl tA59 tS59 rfl rfl) <| g_u (zC rfl rfl) ?_
                        refine g_u (zR rfl rfl rfl Tryz.underlying59 tS94 (by omega) (ixL hi2)) ?_
                        refine g_u (zf rfl rfl fa94_3 rfl rfl) <| g_u (zd rfl rfl tA44 tS44 rfl rfl) <| g_u (zC rfl rfl) <| g_u (vW rfl rfl rfl) <| g_u (zF rfl rfl wK rfl) <| g_u (zG rfl rfl rfl tA59 tS59 rfl rfl) <| g_u (zC rfl rfl) ?_
                        refine g_u (zR rfl rfl rfl Tryz.underlying59 tS94 (by omega) (ixL hi2)) ?_
                        refine g_u (zf rfl rfl fa94_2 rfl rfl) <| g_u (zd rfl rfl tA9 tS9 rfl rfl) <| g_u (yp rfl rfl Tryz.underlying9) <| g_u (vW rfl rfl rfl) ?_
                        refine g_u (zP (jX _ _ ⟨by ((try simp only [decide_eq_true_eq, decide_eq_false_iff_not, bne_iff_ne, ne_eq, beq_iff_eq, qd, beq_eq_false_iff_ne, Bool.not_eq_true', Bool.not_eq_false', gt_iff_lt, ge_iff_le] at *); (repeat simp (disch := omega) only [zO, zi] at *)); omega, by ((try simp only [decide_eq_true_eq, decide_eq_false_iff_not, bne_iff_ne, ne_eq, beq_iff_eq, qd, beq_eq_false_iff_ne, Bool.not_eq_true', Bool.not_eq_false', gt_iff_lt, ge_iff_le] at *); (repeat simp (disch := omega) only [zO, zi] at *)); omega⟩) rfl rfl) ?_
                        refine g_u (zE rfl rfl) ?_
                        refine zH ⟨by kernel_rfl, ?_⟩
                        refine zW <| zA <| zB <| g_u (zC rfl rfl) <| g_u (z0 rfl rfl rfl) <| g_u (zE rfl rfl) <| zH <| zA ?_
                        have ed := leftL_drop (m := m2) hi2 (by omega) hk2
                        have bl := wa (nthL s.links i2).attrs (m2 - 1 - (nthL s.links i2).state.size)
                        refine ⟨⟨i2 + 1, yS (nthL s.links i2).attrs (m2 - 1 - (nthL s.links i2).state.size)⟩, ⟨hi2, ⟨by dsimp only; omega, by dsimp only; omega⟩, by dsimp only; omega, by dsimp only; rw [g4, ed]⟩, ⟨rfl, rfl, zX rfl (by dsimp only; rw [zO (n := m2 - 1) (by omega) (by omega), zO (by omega) (by omega)]), zX rfl (by rw [zO (by omega) (by omega)]; rfl), trivial⟩, by dsimp only; omega⟩
                    · have hs2 : m2 < 0 := by have := of_decide_eq_false hb9; omega
                      have gfin : v6 (s.links.drop i2) m2 = m2 := xN _ hs2
                      refine zz <| zT <| zT <| zq <| zA <| zD <| zB <| g_u (zC rfl rfl) <| g_u (zE rfl rfl) <| zH <| zA <| zL ?_
                      exact ⟨⟨(rfl : toAV (Al.look _ _) = some _).trans (congrArg some (by (exact congrArg iv (by unfold uP; first | (rw [if_pos (by omega)]; done) | (rw [if_neg (by omega), g4, gfin]; done) | (rw [if_neg (by omega), g4, wP hi2 (by omega) hk2]; done) | (rw [if_neg (by omega), h4, wV hi (by omega) hk]; exact (xN _ (by omega)).symm))))), rfl⟩, trivial⟩
                  · rw [hb8]
                    have hin2 : i2 = s.links.length := by have := of_decide_eq_false hb8; (try simp only [List.length_map] at this); omega
                    have gfin : v6 (s.links.drop i2) m2 = m2 := by rw [hin2, List.drop_length]; rfl
                    refine zI rfl rfl rfl <| zI rfl rfl rfl <| g_u (zh rfl rfl rfl) <| zH <| zA <| yD rfl <| zz <| zT <| zT <| zq <| zA <| zD <| zB <| g_u (zC rfl rfl) <| g_u (zE rfl rfl) <| zH <| zA <| zL ?_
                    exact ⟨⟨(rfl : toAV (Al.look _ _) = some _).trans (congrArg some (by (exact congrArg iv (by unfold uP; first | (rw [if_pos (by omega)]; done) | (rw [if_neg (by omega), g4, gfin]; done) | (rw [if_neg (by omega), g4, wP hi2 (by omega) hk2]; done) | (rw [if_neg (by omega), h4, wV hi (by omega) hk]; exact (xN _ (by omega)).symm))))), rfl⟩, trivial⟩
            · rw [hb5]
              have hin : i = s.events.length := by have := of_decide_eq_false hb5; (try simp only [List.length_map] at this); omega
              have hm : uB s.events (yS s.attrs (n - 1 - s.state.size - s.name.size - s.note.size)) = m := by rw [h4, hin, List.drop_length]; rfl
              refine zI rfl rfl rfl <| zI rfl rfl rfl <| g_u (zh rfl rfl rfl) <| zH <| zA <| yD rfl <| zz <| zT <| zT <| zq <| zA <| zD <| zD <| zB <| g_u (zE rfl rfl) <| zH <| zA <| zU ?_
              refine zw (fun j : Nat × Int => [(2, .ptr 1002 0), (1002, .box 63 (.imm s.av)), (1, .imm (iv j.2)), (6, .imm (iv (j.1 : Int)))]) (fun j => j.1 ≤ s.links.length ∧ (-1000000000000 ≤ j.2 ∧ j.2 ≤ 1000000000) ∧ ((j.1 : Int) ≤ uB s.events (yS s.attrs (n - 1 - s.state.size - s.name.size - s.note.size)) - j.2) ∧ v6 s.links (uB s.events (yS s.attrs (n - 1 - s.state.size - s.name.size - s.note.size))) = v6 (s.links.drop j.1) j.2) (fun j => s.links.length - j.1) (⟨0, m⟩) ?_ ⟨rfl, rfl, rfl, rfl, trivial⟩ ?_
              · exact ⟨Nat.zero_le _, h2, by rw [hm]; simp, by rw [hm]; rfl⟩
              · rintro ⟨i2, m2⟩ ⟨g1, g2, g3, g4⟩; dsimp only at g1 g2 g3 g4
                refine zD <| zD <| zB <| g_u (zC rfl rfl) <| g_u (zF rfl rfl wK rfl) <| g_u (zG rfl rfl rfl tA59 tS59 rfl rfl) <| g_u (z7 rfl rfl Tryz.underlying59) <| g_u (ye rfl rfl rfl) <| g_u (zC rfl rfl) <| yB (t := 91) rfl ?_
                rintro (hb11 | hb11)
                · rw [hb11]
                  have hi2 : i2 < s.links.length := by have := of_decide_eq_true hb11; (try simp only [List.length_map] at this); omega
                  refine zY rfl rfl (zC rfl rfl) <| zY rfl rfl (tD rfl rfl rfl) <| g_u (zZ rfl rfl rfl) <| zH <| zA ?_
                  refine zN rfl (fun hb12 => ?_) (fun hb12 => ?_)
                  · have hs2 : ¬ m2 < 0 := by have := of_decide_eq_true hb12; omega
                    refine zQ <| zA <| zD <| zU <| zD <| zD <| zB <| g_u (zF rfl rfl wK rfl) <| g_u (zG rfl rfl rfl tA59 tS59 rfl rfl) <| g_u (zC rfl rfl) ?_
                    refine g_u (zR rfl rfl rfl Tryz.underlying59 tS94 (by omega) (ixL hi2)) ?_
                    refine g_u (zf rfl rfl fa94_2 rfl rfl) <| g_u (zd rfl rfl tA9 tS9 rfl rfl) <| g_u (yp rfl rfl Tryz.underlying9) <| g_u (zC rfl rfl) <| g_u (wD rfl rfl rfl) <| zH <| zA ?_
                    refine zN rfl (fun hb13 => ?_) (fun hb13 => ?_)
                    · have hk2 : ((nthL s.links i2).state.size : Int) > m2 := of_decide_eq_true hb13
                      refine zD <| zB <| g_u (zE rfl rfl) <| zH <| zA <| zL <| zK <| zt <| zK <| zK <| zt <| zK ?_
                      exact ⟨⟨(rfl : toAV (Al.look _ _) = some _).trans (congrArg some (by (exact congrArg iv (by unfold uP; first | (rw [if_pos (by omega)]; done) | (rw [if_neg (by omega), g4, gfin]; done) | (rw [if_neg (by omega), g4, wP hi2 (by omega) hk2]; done) | (rw [if_neg (by omega), h4, wV hi (by omega) hk]; exact (xN _ (by omega)).symm))))), rfl⟩, trivial⟩
                    · have hk2 : ¬ ((nthL s.links i2).state.size : Int) > m2 := of_decide_eq_false hb13
                      refine zQ <| zA <| y_ xR <| g_u (zF rfl rfl wK rfl) <| g_u (zG rfl rfl rfl tA59 tS59 rfl rfl) <| g_u (zC rfl rfl) ?_
                      refine g_u (zR rfl rfl rfl Tryz.underlying59 tS94 (by omega) (ixL hi2)) ?_
                      refine g_u (zf rfl rfl fa94_3 rfl rfl) <| g_u (zd rfl rfl tA44 tS44 rfl rfl) <| g_u (zC rfl rfl) <| g_u (vW rfl rfl rfl) <| g_u (zF rfl rfl wK rfl) <| g_u (zG rfl rfl rfl tA59 tS59 rfl rfl) <| g_u (zC rfl rfl) ?_
                      refine g_u (zR rfl rfl rfl Tryz.underlying59 tS94 (by omega) (ixL hi2)) ?_
                      refine g_u (zf rfl rfl fa94_2 rfl rfl) <| g_u (zd rfl rfl tA9 tS9 rfl rfl) <| g_u (yp rfl rfl Tryz.underlying9) <| g_u (vW rfl rfl rfl) ?_
                      refine g_u (zP (jX _ _ ⟨by ((try simp only [decide_eq_true_eq, decide_eq_false_iff_not, bne_iff_ne, ne_eq, beq_iff_eq, qd, beq_eq_false_iff_ne, Bool.not_eq_true', Bool.not_eq_false', gt_iff_lt, ge_iff_le] at *); (repeat simp (disch := omega) only [zO, zi] at *)); omega, by ((try simp only [decide_eq_true_eq, decide_eq_false_iff_not, bne_iff_ne, ne_eq, beq_iff_eq, qd, beq_eq_false_iff_ne, Bool.not_eq_true', Bool.not_eq_false', gt_iff_lt, ge_iff_le] at *); (repeat simp (disch := omega) only [zO, zi] at *)); omega⟩) rfl rfl) ?_
                      refine g_u (zE rfl rfl) ?_
                      refine zH ⟨by kernel_rfl, ?_⟩
                      refine zW <| zA <| zB <| g_u (zC rfl rfl) <| g_u (z0 rfl rfl rfl) <| g_u (zE rfl rfl) <| zH <| zA ?_
                      have ed := leftL_drop (m := m2) hi2 (by omega) hk2
                      have bl := wa (nthL s.links i2).attrs (m2 - 1 - (nthL s.links i2).state.size)
                      refine ⟨⟨i2 + 1, yS (nthL s.links i2).attrs (m2 - 1 - (nthL s.links i2).state.size)⟩, ⟨hi2, ⟨by dsimp only; omega, by dsimp only; omega⟩, by dsimp only; omega, by dsimp only; rw [g4, ed]⟩, ⟨rfl, rfl, zX rfl (by dsimp only; rw [zO (n := m2 - 1) (by omega) (by omega), zO (by omega) (by omega)]), zX rfl (by rw [zO (by omega) (by omega)]; rfl), trivial⟩, by dsimp only; omega⟩
                  · have hs2 : m2 < 0 := by have := of_decide_eq_false hb12; omega
                    have gfin : v6 (s.links.drop i2) m2 = m2 := xN _ hs2
                    refine zz <| zT <| zT <| zq <| zA <| zD <| zB <| g_u (zC rfl rfl) <| g_u (zE rfl rfl) <| zH <| zA <| zL ?_
                    exact ⟨⟨(rfl : toAV (Al.look _ _) = some _).trans (congrArg some (by (exact congrArg iv (by unfold uP; first | (rw [if_pos (by omega)]; done) | (rw [if_neg (by omega), g4, gfin]; done) | (rw [if_neg (by omega), g4, wP hi2 (by omega) hk2]; done) | (rw [if_neg (by omega), h4, wV hi (by omega) hk]; exact (xN _ (by omega)).symm))))), rfl⟩, trivial⟩
                · rw [hb11]
                  have hin2 : i2 = s.links.length := by have := of_decide_eq_false hb11; (try simp only [List.length_map] at this); omega
                  have gfin : v6 (s.links.drop i2) m2 = m2 := by rw [hin2, List.drop_length]; rfl
                  refine zI rfl rfl rfl <| zI rfl rfl rfl <| g_u (zh rfl rfl rfl) <| zH <| zA <| yD rfl <| zz <| zT <| zT <| zq <| zA <| zD <| zB <| g_u (zC rfl rfl) <| g_u (zE rfl rfl) <| zH <| zA <| zL ?_
                  exact ⟨⟨(rfl : toAV (Al.look _ _) = some _).trans (congrArg some (by (exact congrArg iv (by unfold uP; first | (rw [if_pos (by omega)]; done) | (rw [if_neg (by omega), g4, gfin]; done) | (rw [if_neg (by omega), g4, wP hi2 (by omega) hk2]; done) | (rw [if_neg (by omega), h4, wV hi (by omega) hk]; exact (xN _ (by omega)).symm))))), rfl⟩, trivial⟩
end Go.Proofs
namespace Go.Proofs
open Go Go.Al
theorem leftE_bd : ∀ (es : List GE) (m : Int), uB es m ≤ m ∧ (0 ≤ m → -1 ≤ uB es m)
  | [], m => ⟨Int.le_refl _, fun h => by simp only [uB]; omega⟩
  | e :: es, m => by
    rw [uB]
    split
    · exact ⟨Int.le_refl _, fun h => by omega⟩
    split
    · exact ⟨by omega, fun h => by omega⟩
    rename_i h1 h2
    have b := wa e.attrs (m - 1 - e.name.size)
    have c := leftE_bd es (yS e.attrs (m - 1 - e.name.size))
    refine ⟨by omega, fun h => ?_⟩
    rcases Int.lt_or_le (yS e.attrs (m - 1 - e.name.size)) 0 with h3 | h3
    · rw [leftE_neg _ h3]; omega
    · exact c.2 h3
theorem leftL_bd : ∀ (es : List GL) (m : Int), v6 es m ≤ m ∧ (0 ≤ m → -1 ≤ v6 es m)
  | [], m => ⟨Int.le_refl _, fun h => by simp only [v6]; omega⟩
  | e :: es, m => by
    rw [v6]
    split
    · exact ⟨Int.le_refl _, fun h => by omega⟩
    split
    · exact ⟨by omega, fun h => by omega⟩
    rename_i h1 h2
    have b := wa e.attrs (m - 1 - e.state.size)
    have c := leftL_bd es (yS e.attrs (m - 1 - e.state.size))
    refine ⟨by omega, fun h => ?_⟩
    rcases Int.lt_or_le (yS e.attrs (m - 1 - e.state.size)) 0 with h3 | h3
    · rw [xN _ h3]; omega
    · exact c.2 h3
theorem leftS_bd (s : GSpan) {n : Int} (h : 0 ≤ n) : uP s n ≤ n - 1 ∧ -(2 * n) - 1 ≤ uP s n := by
  unfold uP
  split
  · omega
  rename_i h1
  have a := wa s.attrs (n - 1 - s.state.size - s.name.size - s.note.size)
  generalize yS s.attrs (n - 1 - s.state.size - s.name.size - s.note.size) = m at a ⊢
  have b := leftE_bd s.events m
  have b2 := fun h => leftE_neg s.events (m := m) h
  generalize uB s.events m = p at b b2 ⊢
  have c := leftL_bd s.links p
  have c2 := fun h => xN s.links (m := p) h
  generalize v6 s.links p = q at c c2 ⊢
  omega
theorem jG : ∀ (es : List GSpan) (m : Int), wo es m ≤ m ∧ (0 ≤ m → -(2 * m) - 1 ≤ wo es m)
  | [], m => ⟨Int.le_refl _, fun h => by simp only [wo]; omega⟩
  | e :: es, m => by
    rw [wo]
    split
    · exact ⟨Int.le_refl _, fun h => by omega⟩
    rename_i h1
    have b := leftS_bd e (n := m) (by omega)
    have c := jG es (uP e m)
    have d := fun h => leftSp_neg es (m := uP e m) h
    generalize wo es (uP e m) = q at *
    omega
theorem leftC_bd : ∀ (es : List GScope) (m : Int), uZ es m ≤ m ∧ (0 ≤ m → -(2 * m) - 1 ≤ uZ es m)
  | [], m => ⟨Int.le_refl _, fun h => by simp only [uZ]; omega⟩
  | e :: es, m => by
    rw [uZ]
    split
    · exact ⟨Int.le_refl _, fun h => by omega⟩
    split
    · exact ⟨by omega, fun h => by omega⟩
    rename_i h1 h2
    have b := jG e.spans (m - 1 - e.name.size - e.version.size)
    have b2 := fun h => leftSp_neg e.spans (m := m - 1 - e.name.size - e.version.size) h
    generalize wo e.spans (m - 1 - e.name.size - e.version.size) = p at *
    have c := leftC_bd es p
    have d := fun h => leftC_neg es (m := p) h
    generalize uZ es p = q at *
    omega
theorem leftR_le {b : List GRes} {n : Int} (h : ¬ sL b n < 0) : (wtB b : Int) ≤ n := by have := leftR_wt b (m := n) (by omega); omega
end Go.Proofs
