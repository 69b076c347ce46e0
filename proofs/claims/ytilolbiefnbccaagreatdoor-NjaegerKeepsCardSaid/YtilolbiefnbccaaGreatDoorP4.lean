/- Texts that the proofs of this claim share, part 4: the abstract logic, plain Lean on values and batches, and walks. No condition but those typed in each lemma. -/
import Derived.Test.YtilolbiefnbccaaGreatDoorP3
set_option linter.unusedSimpArgs false
set_option linter.unusedVariables false
namespace Go.Proofs
open Go Go.Al
set_option maxRecDepth 10000
set_option maxHeartbeats 400000 in
theorem rquote_c (s : ByteArray) (hs : s.size ≤ 100000000000) : PCall Tryz.prog Γ0 192 [sv s] [sv (strOf (quoteB (lst s)))] := by
  have hz := lst_len s
  have c1 : (ByteArray.mk #[92]).size = 1 := rfl
  have c4 : (ByteArray.mk #[92, 117, 48, 48]).size = 4 := rfl
  have c0 : (ByteArray.mk #[34]).size = 1 := rfl
  refine pcall_of Tryz.func192 rfl Tryz.ntmps192 (by kernel_rfl) rfl fun w0 I0 G0 => ?_
  refine aw_seq ?_
  refine aw_region ?_
  refine g_u (s_as_imm rfl rfl) ?_
  refine g_nil ?_
  refine normal_thn ?_
  refine aw_seq ?_
  refine aw_region ?_
  refine g_u (s_as_imm rfl rfl) ?_
  refine g_nil ?_
  refine normal_thn ?_
  refine aw_seq ?_
  refine aw_seq ?_
  refine aw_region ?_
  refine g_u (s_as_imm rfl rfl) ?_
  refine g_nil ?_
  refine normal_thn ?_
  refine aw_block ?_
  refine aw_loop' (fun j : Nat × ByteArray => [(0, .imm (sv s)), (3, .imm (sv j.2)), (4, .imm (iv (j.1 : Int)))]) (fun j => j.1 ≤ s.size ∧ lst j.2 = 34 :: escs ((lst s).take j.1)) (fun j => s.size - j.1) (⟨0, ⟨#[34]⟩⟩) ?_ ⟨rfl, rfl, rfl, trivial⟩ ?_
  · exact ⟨Nat.zero_le _, rfl⟩
  · rintro ⟨i, t⟩ ⟨h1, h2⟩; dsimp only at h1 h2; have hlen : t.size ≤ 1 + 6 * s.size := by have := escs_length ((lst s).take i); rw [← lst_len t, h2, List.length_cons]; rw [List.length_take] at this; omega
    have e2 : i < s.size → (IntKind.i64.wrap ((i : Int) + 1)).toNat = i + 1 := fun h => by rw [wrap64 (by omega) (by omega)]; omega
    have hx : (i : Int) < (s.size : Int) → (s.extract (i : Int).toNat (IntKind.i64.wrap ((i : Int) + 1)).toNat).size = 1 := fun h => by rw [e2 (by omega), Int.toNat_natCast]; exact ex1_size (by omega)
    refine aw_seq ?_
    refine aw_seq ?_
    refine aw_region ?_
    refine g_u (s_mv_imm rfl rfl) ?_
    refine g_u (s_mv_imm rfl rfl) ?_
    refine g_u (s_lenS rfl rfl Tryz.underlying9) ?_
    refine g_u (s_ltI rfl rfl rfl) ?_
    refine g_nil ?_
    refine normal_thn ?_
    refine aw_cond rfl (fun hb1 => ?_) (fun hb1 => ?_)
    · skip
      refine aw_skip ?_
      refine normal_thn ?_
      refine aw_seq ?_
      refine aw_block ?_
      refine aw_seq ?_
      refine aw_seq ?_
      refine aw_region ?_
      refine g_u (s_mv_imm rfl rfl) ?_
      refine g_u (s_mv_imm rfl rfl) ?_
      refine g_u (si_ix rfl rfl rfl Tryz.underlying9 (by ((try simp only [decide_eq_true_eq, decide_eq_false_iff_not, bne_iff_ne, ne_eq, beq_iff_eq, bne_eq_false_iff_eq, beq_eq_false_iff_ne, Bool.not_eq_true', Bool.not_eq_false', gt_iff_lt, ge_iff_le] at *); (repeat simp (disch := omega) only [wrap64, wrap32] at *)); omega)) ?_
      refine g_u (s_eqI rfl rfl rfl) ?_
      refine g_u (s_mv_imm rfl rfl) ?_
      refine g_case (t := 15) rfl ?_
      rintro (hb2 | hb2)
      · rw [hb2]
        refine g_skip rfl rfl rfl ?_
        refine g_skip rfl rfl rfl ?_
        refine g_skip rfl rfl rfl ?_
        refine g_skip rfl rfl rfl ?_
        refine g_u (s_pick_t rfl rfl rfl) ?_
        refine g_nil ?_
        refine normal_thn ?_
        refine aw_cond_true rfl ?_
        refine aw_region ?_
        refine g_u (s_mv_imm rfl rfl) ?_
        refine g_u (s_catS rfl rfl rfl (by show _ ≤ (9223372036854775807 : Int); (try dsimp only); first | (simp only [app_size, c0, c1, c4]; omega) | (have q := hx (of_decide_eq_true hb1); simp only [app_size, strOf_size, hexB_length, lst_len, q, c1, c4]; omega))) ?_
        refine g_u (s_as_imm rfl rfl) ?_
        refine g_nil ?_
        refine normal_thn ?_
        refine aw_seq ?_
        refine aw_region ?_
        refine g_u (s_mv_imm rfl rfl) ?_
        refine g_u (s_mv_imm rfl rfl) ?_
        refine g_u (si_ix rfl rfl rfl Tryz.underlying9 (by ((try simp only [decide_eq_true_eq, decide_eq_false_iff_not, bne_iff_ne, ne_eq, beq_iff_eq, bne_eq_false_iff_eq, beq_eq_false_iff_ne, Bool.not_eq_true', Bool.not_eq_false', gt_iff_lt, ge_iff_le] at *); (repeat simp (disch := omega) only [wrap64, wrap32] at *)); omega)) ?_
        refine g_u (s_ltI rfl rfl rfl) ?_
        refine g_nil ?_
        refine normal_thn ?_
        refine aw_cond rfl (fun hb3 => ?_) (fun hb3 => ?_)
        · skip
          refine aw_region ?_
          refine g_u (s_mv_imm rfl rfl) ?_
          refine g_u (s_catS rfl rfl rfl (by show _ ≤ (9223372036854775807 : Int); (try dsimp only); first | (simp only [app_size, c0, c1, c4]; omega) | (have q := hx (of_decide_eq_true hb1); simp only [app_size, strOf_size, hexB_length, lst_len, q, c1, c4]; omega))) ?_
          refine g_u (s_mv_imm rfl rfl) ?_
          refine g_u (s_mv_imm rfl rfl) ?_
          refine g_u (s_mv_imm rfl rfl) ?_
          refine g_u (s_add rfl rfl rfl) ?_
          refine g_u (si_lh rfl rfl rfl rfl Tryz.underlying9 (by ((try simp only [decide_eq_true_eq, decide_eq_false_iff_not, bne_iff_ne, ne_eq, beq_iff_eq, bne_eq_false_iff_eq, beq_eq_false_iff_ne, Bool.not_eq_true', Bool.not_eq_false', gt_iff_lt, ge_iff_le] at *); (repeat simp (disch := omega) only [wrap64, wrap32] at *)); omega)) ?_
          refine g_u (s_call1 (rhex_c _ (by have q := hx (of_decide_eq_true hb1); (try dsimp only); omega)) rfl rfl) ?_
          refine g_u (s_catS rfl rfl rfl (by show _ ≤ (9223372036854775807 : Int); (try dsimp only); first | (simp only [app_size, c0, c1, c4]; omega) | (have q := hx (of_decide_eq_true hb1); simp only [app_size, strOf_size, hexB_length, lst_len, q, c1, c4]; omega))) ?_
          refine g_u (s_as_imm rfl rfl) ?_
          refine g_nil ?_
          refine normal_blk ?_
          refine normal_thn ?_
          refine aw_region ?_
          refine g_u (s_mv_imm rfl rfl) ?_
          refine g_u (s_add rfl rfl rfl) ?_
          refine g_u (s_as_imm rfl rfl) ?_
          refine g_nil ?_
          refine normal_thn ?_
          change decide ((i : Int) < (s.size : Int)) = true at hb1
          have hi : i < s.size := by have := of_decide_eq_true hb1; omega
          obtain ⟨c, hc1, hc2⟩ := bAt_nat s i hi
          refine ⟨⟨i + 1, _⟩, ⟨hi, ?_⟩, ⟨rfl, rfl, look_int rfl (by rw [wrap64 (by omega) (by omega)]; rfl), trivial⟩, by dsimp only; omega⟩
          dsimp only at *
          rw [take_snoc hc1, escs_snoc, ← List.cons_append, ← h2, e2 hi, Int.toNat_natCast]
          simp only [beq_iff_eq, beq_eq_false_iff_ne, ne_eq, decide_eq_true_eq, decide_eq_false_iff_not] at *
          first | (exfalso; omega) | exact resc1 hc1 (.inl (by omega)) | exact resc1 hc1 (.inr (by omega)) | exact resc2 hc1 (by omega) (by omega) (by omega) | exact resc3 hc1 (by omega) (by omega) (by omega)
        · skip
          refine aw_region ?_
          refine g_u (s_mv_imm rfl rfl) ?_
          refine g_u (s_mv_imm rfl rfl) ?_
          refine g_u (s_mv_imm rfl rfl) ?_
          refine g_u (s_mv_imm rfl rfl) ?_
          refine g_u (s_add rfl rfl rfl) ?_
          refine g_u (si_lh rfl rfl rfl rfl Tryz.underlying9 (by ((try simp only [decide_eq_true_eq, decide_eq_false_iff_not, bne_iff_ne, ne_eq, beq_iff_eq, bne_eq_false_iff_eq, beq_eq_false_iff_ne, Bool.not_eq_true', Bool.not_eq_false', gt_iff_lt, ge_iff_le] at *); (repeat simp (disch := omega) only [wrap64, wrap32] at *)); omega)) ?_
          refine g_u (s_catS rfl rfl rfl (by show _ ≤ (9223372036854775807 : Int); (try dsimp only); first | (simp only [app_size, c0, c1, c4]; omega) | (have q := hx (of_decide_eq_true hb1); simp only [app_size, strOf_size, hexB_length, lst_len, q, c1, c4]; omega))) ?_
          refine g_u (s_as_imm rfl rfl) ?_
          refine g_nil ?_
          refine normal_blk ?_
          refine normal_thn ?_
          refine aw_region ?_
          refine g_u (s_mv_imm rfl rfl) ?_
          refine g_u (s_add rfl rfl rfl) ?_
          refine g_u (s_as_imm rfl rfl) ?_
          refine g_nil ?_
          refine normal_thn ?_
          change decide ((i : Int) < (s.size : Int)) = true at hb1
          have hi : i < s.size := by have := of_decide_eq_true hb1; omega
          obtain ⟨c, hc1, hc2⟩ := bAt_nat s i hi
          refine ⟨⟨i + 1, _⟩, ⟨hi, ?_⟩, ⟨rfl, rfl, look_int rfl (by rw [wrap64 (by omega) (by omega)]; rfl), trivial⟩, by dsimp only; omega⟩
          dsimp only at *
          rw [take_snoc hc1, escs_snoc, ← List.cons_append, ← h2, e2 hi, Int.toNat_natCast]
          simp only [beq_iff_eq, beq_eq_false_iff_ne, ne_eq, decide_eq_true_eq, decide_eq_false_iff_not] at *
          first | (exfalso; omega) | exact resc1 hc1 (.inl (by omega)) | exact resc1 hc1 (.inr (by omega)) | exact resc2 hc1 (by omega) (by omega) (by omega) | exact resc3 hc1 (by omega) (by omega) (by omega)
      · rw [hb2]
        refine g_run rfl rfl (s_mv_imm rfl rfl) ?_
        refine g_run rfl rfl (s_mv_imm rfl rfl) ?_
        refine g_run rfl rfl (si_ix rfl rfl rfl Tryz.underlying9 (by ((try simp only [decide_eq_true_eq, decide_eq_false_iff_not, bne_iff_ne, ne_eq, beq_iff_eq, bne_eq_false_iff_eq, beq_eq_false_iff_ne, Bool.not_eq_true', Bool.not_eq_false', gt_iff_lt, ge_iff_le] at *); (repeat simp (disch := omega) only [wrap64, wrap32] at *)); omega)) ?_
        refine g_run rfl rfl (s_eqI rfl rfl rfl) ?_
        refine g_u (s_pick_f rfl rfl rfl) ?_
        refine g_nil ?_
        refine normal_thn ?_
        refine aw_cond rfl (fun hb4 => ?_) (fun hb4 => ?_)
        · skip
          refine aw_region ?_
          refine g_u (s_mv_imm rfl rfl) ?_
          refine g_u (s_catS rfl rfl rfl (by show _ ≤ (9223372036854775807 : Int); (try dsimp only); first | (simp only [app_size, c0, c1, c4]; omega) | (have q := hx (of_decide_eq_true hb1); simp only [app_size, strOf_size, hexB_length, lst_len, q, c1, c4]; omega))) ?_
          refine g_u (s_as_imm rfl rfl) ?_
          refine g_nil ?_
          refine normal_thn ?_
          refine aw_seq ?_
          refine aw_region ?_
          refine g_u (s_mv_imm rfl rfl) ?_
          refine g_u (s_mv_imm rfl rfl) ?_
          refine g_u (si_ix rfl rfl rfl Tryz.underlying9 (by ((try simp only [decide_eq_true_eq, decide_eq_false_iff_not, bne_iff_ne, ne_eq, beq_iff_eq, bne_eq_false_iff_eq, beq_eq_false_iff_ne, Bool.not_eq_true', Bool.not_eq_false', gt_iff_lt, ge_iff_le] at *); (repeat simp (disch := omega) only [wrap64, wrap32] at *)); omega)) ?_
          refine g_u (s_ltI rfl rfl rfl) ?_
          refine g_nil ?_
          refine normal_thn ?_
          refine aw_cond rfl (fun hb5 => ?_) (fun hb5 => ?_)
          · skip
            refine aw_region ?_
            refine g_u (s_mv_imm rfl rfl) ?_
            refine g_u (s_catS rfl rfl rfl (by show _ ≤ (9223372036854775807 : Int); (try dsimp only); first | (simp only [app_size, c0, c1, c4]; omega) | (have q := hx (of_decide_eq_true hb1); simp only [app_size, strOf_size, hexB_length, lst_len, q, c1, c4]; omega))) ?_
            refine g_u (s_mv_imm rfl rfl) ?_
            refine g_u (s_mv_imm rfl rfl) ?_
            refine g_u (s_mv_imm rfl rfl) ?_
            refine g_u (s_add rfl rfl rfl) ?_
            refine g_u (si_lh rfl rfl rfl rfl Tryz.underlying9 (by ((try simp only [decide_eq_true_eq, decide_eq_false_iff_not, bne_iff_ne, ne_eq, beq_iff_eq, bne_eq_false_iff_eq, beq_eq_false_iff_ne, Bool.not_eq_true', Bool.not_eq_false', gt_iff_lt, ge_iff_le] at *); (repeat simp (disch := omega) only [wrap64, wrap32] at *)); omega)) ?_
            refine g_u (s_call1 (rhex_c _ (by have q := hx (of_decide_eq_true hb1); (try dsimp only); omega)) rfl rfl) ?_
            refine g_u (s_catS rfl rfl rfl (by show _ ≤ (9223372036854775807 : Int); (try dsimp only); first | (simp only [app_size, c0, c1, c4]; omega) | (have q := hx (of_decide_eq_true hb1); simp only [app_size, strOf_size, hexB_length, lst_len, q, c1, c4]; omega))) ?_
            refine g_u (s_as_imm rfl rfl) ?_
            refine g_nil ?_
            refine normal_blk ?_
            refine normal_thn ?_
            refine aw_region ?_
            refine g_u (s_mv_imm rfl rfl) ?_
            refine g_u (s_add rfl rfl rfl) ?_
            refine g_u (s_as_imm rfl rfl) ?_
            refine g_nil ?_
            refine normal_thn ?_
            change decide ((i : Int) < (s.size : Int)) = true at hb1
            have hi : i < s.size := by have := of_decide_eq_true hb1; omega
            obtain ⟨c, hc1, hc2⟩ := bAt_nat s i hi
            refine ⟨⟨i + 1, _⟩, ⟨hi, ?_⟩, ⟨rfl, rfl, look_int rfl (by rw [wrap64 (by omega) (by omega)]; rfl), trivial⟩, by dsimp only; omega⟩
            dsimp only at *
            rw [take_snoc hc1, escs_snoc, ← List.cons_append, ← h2, e2 hi, Int.toNat_natCast]
            simp only [beq_iff_eq, beq_eq_false_iff_ne, ne_eq, decide_eq_true_eq, decide_eq_false_iff_not] at *
            first | (exfalso; omega) | exact resc1 hc1 (.inl (by omega)) | exact resc1 hc1 (.inr (by omega)) | exact resc2 hc1 (by omega) (by omega) (by omega) | exact resc3 hc1 (by omega) (by omega) (by omega)
          · skip
            refine aw_region ?_
            refine g_u (s_mv_imm rfl rfl) ?_
            refine g_u (s_mv_imm rfl rfl) ?_
            refine g_u (s_mv_imm rfl rfl) ?_
            refine g_u (s_mv_imm rfl rfl) ?_
            refine g_u (s_add rfl rfl rfl) ?_
            refine g_u (si_lh rfl rfl rfl rfl Tryz.underlying9 (by ((try simp only [decide_eq_true_eq, decide_eq_false_iff_not, bne_iff_ne, ne_eq, beq_iff_eq, bne_eq_false_iff_eq, beq_eq_false_iff_ne, Bool.not_eq_true', Bool.not_eq_false', gt_iff_lt, ge_iff_le] at *); (repeat simp (disch := omega) only [wrap64, wrap32] at *)); omega)) ?_
            refine g_u (s_catS rfl rfl rfl (by show _ ≤ (9223372036854775807 : Int); (try dsimp only); first | (simp only [app_size, c0, c1, c4]; omega) | (have q := hx (of_decide_eq_true hb1); simp only [app_size, strOf_size, hexB_length, lst_len, q, c1, c4]; omega))) ?_
            refine g_u (s_as_imm rfl rfl) ?_
            refine g_nil ?_
            refine normal_blk ?_
            refine normal_thn ?_
            refine aw_region ?_
            refine g_u (s_mv_imm rfl rfl) ?_
            refine g_u (s_add rfl rfl rfl) ?_
            refine g_u (s_as_imm rfl rfl) ?_
            refine g_nil ?_
            refine normal_thn ?_
            change decide ((i : Int) < (s.size : Int)) = true at hb1
            have hi : i < s.size := by have := of_decide_eq_true hb1; omega
            obtain ⟨c, hc1, hc2⟩ := bAt_nat s i hi
            refine ⟨⟨i + 1, _⟩, ⟨hi, ?_⟩, ⟨rfl, rfl, look_int rfl (by rw [wrap64 (by omega) (by omega)]; rfl), trivial⟩, by dsimp only; omega⟩
            dsimp only at *
            rw [take_snoc hc1, escs_snoc, ← List.cons_append, ← h2, e2 hi, Int.toNat_natCast]
            simp only [beq_iff_eq, beq_eq_false_iff_ne, ne_eq, decide_eq_true_eq, decide_eq_false_iff_not] at *
            first | (exfalso; omega) | exact resc1 hc1 (.inl (by omega)) | exact resc1 hc1 (.inr (by omega)) | exact resc2 hc1 (by omega) (by omega) (by omega) | exact resc3 hc1 (by omega) (by omega) (by omega)
        · skip
          refine aw_skip ?_
          refine normal_thn ?_
          refine aw_seq ?_
          refine aw_region ?_
          refine g_u (s_mv_imm rfl rfl) ?_
          refine g_u (s_mv_imm rfl rfl) ?_
          refine g_u (si_ix rfl rfl rfl Tryz.underlying9 (by ((try simp only [decide_eq_true_eq, decide_eq_false_iff_not, bne_iff_ne, ne_eq, beq_iff_eq, bne_eq_false_iff_eq, beq_eq_false_iff_ne, Bool.not_eq_true', Bool.not_eq_false', gt_iff_lt, ge_iff_le] at *); (repeat simp (disch := omega) only [wrap64, wrap32] at *)); omega)) ?_
          refine g_u (s_ltI rfl rfl rfl) ?_
          refine g_nil ?_
          refine normal_thn ?_
          refine aw_cond rfl (fun hb6 => ?_) (fun hb6 => ?_)
          · skip
            refine aw_region ?_
            refine g_u (s_mv_imm rfl rfl) ?_
            refine g_u (s_catS rfl rfl rfl (by show _ ≤ (9223372036854775807 : Int); (try dsimp only); first | (simp only [app_size, c0, c1, c4]; omega) | (have q := hx (of_decide_eq_true hb1); simp only [app_size, strOf_size, hexB_length, lst_len, q, c1, c4]; omega))) ?_
            refine g_u (s_mv_imm rfl rfl) ?_
            refine g_u (s_mv_imm rfl rfl) ?_
            refine g_u (s_mv_imm rfl rfl) ?_
            refine g_u (s_add rfl rfl rfl) ?_
            refine g_u (si_lh rfl rfl rfl rfl Tryz.underlying9 (by ((try simp only [decide_eq_true_eq, decide_eq_false_iff_not, bne_iff_ne, ne_eq, beq_iff_eq, bne_eq_false_iff_eq, beq_eq_false_iff_ne, Bool.not_eq_true', Bool.not_eq_false', gt_iff_lt, ge_iff_le] at *); (repeat simp (disch := omega) only [wrap64, wrap32] at *)); omega)) ?_
            refine g_u (s_call1 (rhex_c _ (by have q := hx (of_decide_eq_true hb1); (try dsimp only); omega)) rfl rfl) ?_
            refine g_u (s_catS rfl rfl rfl (by show _ ≤ (9223372036854775807 : Int); (try dsimp only); first | (simp only [app_size, c0, c1, c4]; omega) | (have q := hx (of_decide_eq_true hb1); simp only [app_size, strOf_size, hexB_length, lst_len, q, c1, c4]; omega))) ?_
            refine g_u (s_as_imm rfl rfl) ?_
            refine g_nil ?_
            refine normal_blk ?_
            refine normal_thn ?_
            refine aw_region ?_
            refine g_u (s_mv_imm rfl rfl) ?_
            refine g_u (s_add rfl rfl rfl) ?_
            refine g_u (s_as_imm rfl rfl) ?_
            refine g_nil ?_
            refine normal_thn ?_
            change decide ((i : Int) < (s.size : Int)) = true at hb1
            have hi : i < s.size := by have := of_decide_eq_true hb1; omega
            obtain ⟨c, hc1, hc2⟩ := bAt_nat s i hi
            refine ⟨⟨i + 1, _⟩, ⟨hi, ?_⟩, ⟨rfl, rfl, look_int rfl (by rw [wrap64 (by omega) (by omega)]; rfl), trivial⟩, by dsimp only; omega⟩
            dsimp only at *
            rw [take_snoc hc1, escs_snoc, ← List.cons_append, ← h2, e2 hi, Int.toNat_natCast]
            simp only [beq_iff_eq, beq_eq_false_iff_ne, ne_eq, decide_eq_true_eq, decide_eq_false_iff_not] at *
            first | (exfalso; omega) | exact resc1 hc1 (.inl (by omega)) | exact resc1 hc1 (.inr (by omega)) | exact resc2 hc1 (by omega) (by omega) (by omega) | exact resc3 hc1 (by omega) (by omega) (by omega)
          · skip
            refine aw_region ?_
            refine g_u (s_mv_imm rfl rfl) ?_
            refine g_u (s_mv_imm rfl rfl) ?_
            refine g_u (s_mv_imm rfl rfl) ?_
            refine g_u (s_mv_imm rfl rfl) ?_
            refine g_u (s_add rfl rfl rfl) ?_
            refine g_u (si_lh rfl rfl rfl rfl Tryz.underlying9 (by ((try simp only [decide_eq_true_eq, decide_eq_false_iff_not, bne_iff_ne, ne_eq, beq_iff_eq, bne_eq_false_iff_eq, beq_eq_false_iff_ne, Bool.not_eq_true', Bool.not_eq_false', gt_iff_lt, ge_iff_le] at *); (repeat simp (disch := omega) only [wrap64, wrap32] at *)); omega)) ?_
            refine g_u (s_catS rfl rfl rfl (by show _ ≤ (9223372036854775807 : Int); (try dsimp only); first | (simp only [app_size, c0, c1, c4]; omega) | (have q := hx (of_decide_eq_true hb1); simp only [app_size, strOf_size, hexB_length, lst_len, q, c1, c4]; omega))) ?_
            refine g_u (s_as_imm rfl rfl) ?_
            refine g_nil ?_
            refine normal_blk ?_
            refine normal_thn ?_
            refine aw_region ?_
            refine g_u (s_mv_imm rfl rfl) ?_
            refine g_u (s_add rfl rfl rfl) ?_
            refine g_u (s_as_imm rfl rfl) ?_
            refine g_nil ?_
            refine normal_thn ?_
            change decide ((i : Int) < (s.size : Int)) = true at hb1
            have hi : i < s.size := by have := of_decide_eq_true hb1; omega
            obtain ⟨c, hc1, hc2⟩ := bAt_nat s i hi
            refine ⟨⟨i + 1, _⟩, ⟨hi, ?_⟩, ⟨rfl, rfl, look_int rfl (by rw [wrap64 (by omega) (by omega)]; rfl), trivial⟩, by dsimp only; omega⟩
            dsimp only at *
            rw [take_snoc hc1, escs_snoc, ← List.cons_append, ← h2, e2 hi, Int.toNat_natCast]
            simp only [beq_iff_eq, beq_eq_false_iff_ne, ne_eq, decide_eq_true_eq, decide_eq_false_iff_not] at *
            first | (exfalso; omega) | exact resc1 hc1 (.inl (by omega)) | exact resc1 hc1 (.inr (by omega)) | exact resc2 hc1 (by omega) (by omega) (by omega) | exact resc3 hc1 (by omega) (by omega) (by omega)
    · skip
      refine aw_exit ?_
      refine exit_thn ?_
      refine exit_thn ?_
      refine exit_blk ?_
      refine normal_thn ?_
      refine aw_seq ?_
      refine aw_region ?_
      refine g_u (s_mv_imm rfl rfl) ?_
      refine g_u (s_catS rfl rfl rfl (by show _ ≤ (9223372036854775807 : Int); (try dsimp only); first | (simp only [app_size, c0, c1, c4]; omega) | (have q := hx (of_decide_eq_true hb1); simp only [app_size, strOf_size, hexB_length, lst_len, q, c1, c4]; omega))) ?_
      refine g_u (s_as_imm rfl rfl) ?_
      refine g_nil ?_
      refine normal_thn ?_
      refine aw_ret ?_
      change decide ((i : Int) < (s.size : Int)) = false at hb1
      have hi : i = s.size := by have := of_decide_eq_false hb1; omega
      exact ⟨⟨(rfl : toAV (Al.look _ _) = some _).trans (congrArg (fun z => some (sv z)) (strOf_eq (by show lst (t ++ ⟨#[34]⟩) = _; rw [lst_app, h2, hi, List.take_of_length_le (Nat.le_of_eq hz)]; rfl))), rfl⟩, trivial⟩

set_option maxHeartbeats 400000 in
theorem rcomma_c (i : Nat) : PCall Tryz.prog Γ0 193 [iv (i : Int)] [sv (strOf (comma (i == 0)))] := by
  refine pcall_of Tryz.func193 rfl Tryz.ntmps193 (by kernel_rfl) rfl fun w0 I0 G0 => ?_
  refine aw_seq ?_
  refine aw_region ?_
  refine g_u (s_as_imm rfl rfl) ?_
  refine g_nil ?_
  refine normal_thn ?_
  refine aw_seq ?_
  refine aw_seq ?_
  refine aw_region ?_
  refine g_u (s_mv_imm rfl rfl) ?_
  refine g_u (s_eqI rfl rfl rfl) ?_
  refine g_nil ?_
  refine normal_thn ?_
  refine aw_cond rfl (fun hb1 => ?_) (fun hb1 => ?_)
  · skip
    refine aw_seq ?_
    refine aw_region ?_
    refine g_u (s_as_imm rfl rfl) ?_
    refine g_nil ?_
    refine normal_thn ?_
    refine aw_ret ?_
    refine ret_thn ?_
    exact ⟨⟨(rfl : toAV (Al.look _ _) = some _).trans (congrArg some (by (have e : i = 0 := (by have : (i : Int) = 0 := (by simpa using hb1); omega); rw [e]; rfl))), rfl⟩, trivial⟩
  · skip
    refine aw_skip ?_
    refine normal_thn ?_
    refine aw_seq ?_
    refine aw_region ?_
    refine g_u (s_as_imm rfl rfl) ?_
    refine g_nil ?_
    refine normal_thn ?_
    refine aw_ret ?_
    exact ⟨⟨(rfl : toAV (Al.look _ _) = some _).trans (congrArg some (by (have e : i ≠ 0 := (by have : (i : Int) ≠ 0 := (by simpa using hb1); omega); rw [show (i == 0) = false from by simpa using e]; rfl))), rfl⟩, trivial⟩

set_option maxHeartbeats 400000 in
theorem rsimple_c (v : GV) (ho : v.ok) (hw : v.wt ≤ 10000000) : PCall Tryz.prog Γ0 140 [v.av] [sv (strOf (simpB v))] := by
  have lv := len_wtVs v.list
  have la := len_wtAs v.map
  have ek := v.wt_eq
  have ok := v.ok_iff.1 ho
  have sl := simpB_length v
  have jl := json_len v
  refine pcall_of Tryz.func140 rfl Tryz.ntmps140 (by kernel_rfl) rfl fun w0 I0 G0 => ?_
  refine aw_seq ?_
  refine aw_region ?_
  refine g_uG (s_box_imm 1001 rfl rfl rfl rfl) rfl ?_
  refine g_u (s_as_imm rfl rfl) ?_
  refine g_nil ?_
  refine normal_thn ?_
  refine aw_seq ?_
  refine aw_seq ?_
  refine aw_region ?_
  refine g_u (s_fieldAddr rfl rfl fa91_0 rfl) ?_
  refine g_u (s_load_imm rfl rfl rfl tA5 tS5 rfl rfl) ?_
  refine g_u (s_eqI rfl rfl rfl) ?_
  refine g_nil ?_
  refine normal_thn ?_
  refine aw_cond rfl (fun hb1 => ?_) (fun hb1 => ?_)
  · skip
    refine aw_seq ?_
    refine aw_region ?_
    refine g_u (s_fieldAddr rfl rfl fa91_1 rfl) ?_
    refine g_u (s_load_imm rfl rfl rfl tA9 tS9 rfl rfl) ?_
    refine g_u (s_as_imm rfl rfl) ?_
    refine g_nil ?_
    refine normal_thn ?_
    refine aw_ret ?_
    refine ret_thn ?_
    exact ⟨⟨(rfl : toAV (Al.look _ _) = some _).trans (congrArg some (by (simp only [beq_iff_eq, beq_eq_false_iff_ne, ne_eq, decide_eq_true_eq, decide_eq_false_iff_not] at *; first | (exfalso; omega) | exact congrArg sv (simp1 (by omega)).symm | (rw [simp2 (by omega) (by omega)]; rfl) | (rw [simp2' (by omega) (by omega)]; rfl) | (rw [simp3 (by omega)]) | (rw [simp4 (by omega), lst_strOf]; rfl) | (rw [simp5 (by omega)]) | (rw [simp6 (by omega)]; rfl)))), rfl⟩, trivial⟩
  · skip
    refine aw_skip ?_
    refine normal_thn ?_
    refine aw_seq ?_
    refine aw_seq ?_
    refine aw_region ?_
    refine g_u (s_fieldAddr rfl rfl fa91_0 rfl) ?_
    refine g_u (s_load_imm rfl rfl rfl tA5 tS5 rfl rfl) ?_
    refine g_u (s_eqI rfl rfl rfl) ?_
    refine g_u (s_mv_imm rfl rfl) ?_
    refine g_case (t := 11) rfl ?_
    rintro (hb2 | hb2)
    · rw [hb2]
      refine g_run rfl rfl (s_fieldAddr rfl rfl fa91_2 rfl) ?_
      refine g_run rfl rfl (s_load_imm rfl rfl rfl tA3 tS3 rfl rfl) ?_
      refine g_run rfl rfl (s_eqI rfl rfl rfl) ?_
      refine g_u (s_pick_t rfl rfl rfl) ?_
      refine g_nil ?_
      refine normal_thn ?_
      refine aw_cond rfl (fun hb3 => ?_) (fun hb3 => ?_)
      · skip
        refine aw_seq ?_
        refine aw_region ?_
        refine g_u (s_as_imm rfl rfl) ?_
        refine g_nil ?_
        refine normal_thn ?_
        refine aw_ret ?_
        refine ret_thn ?_
        exact ⟨⟨(rfl : toAV (Al.look _ _) = some _).trans (congrArg some (by (simp only [beq_iff_eq, beq_eq_false_iff_ne, ne_eq, decide_eq_true_eq, decide_eq_false_iff_not] at *; first | (exfalso; omega) | exact congrArg sv (simp1 (by omega)).symm | (rw [simp2 (by omega) (by omega)]; rfl) | (rw [simp2' (by omega) (by omega)]; rfl) | (rw [simp3 (by omega)]) | (rw [simp4 (by omega), lst_strOf]; rfl) | (rw [simp5 (by omega)]) | (rw [simp6 (by omega)]; rfl)))), rfl⟩, trivial⟩
      · skip
        refine aw_skip ?_
        refine normal_thn ?_
        refine aw_seq ?_
        refine aw_seq ?_
        refine aw_region ?_
        refine g_u (s_fieldAddr rfl rfl fa91_0 rfl) ?_
        refine g_u (s_load_imm rfl rfl rfl tA5 tS5 rfl rfl) ?_
        refine g_u (s_eqI rfl rfl rfl) ?_
        refine g_nil ?_
        refine normal_thn ?_
        refine aw_cond rfl (fun hb4 => ?_) (fun hb4 => ?_)
        · skip
          refine aw_seq ?_
          refine aw_region ?_
          refine g_u (s_as_imm rfl rfl) ?_
          refine g_nil ?_
          refine normal_thn ?_
          refine aw_ret ?_
          refine ret_thn ?_
          exact ⟨⟨(rfl : toAV (Al.look _ _) = some _).trans (congrArg some (by (simp only [beq_iff_eq, beq_eq_false_iff_ne, ne_eq, decide_eq_true_eq, decide_eq_false_iff_not] at *; first | (exfalso; omega) | exact congrArg sv (simp1 (by omega)).symm | (rw [simp2 (by omega) (by omega)]; rfl) | (rw [simp2' (by omega) (by omega)]; rfl) | (rw [simp3 (by omega)]) | (rw [simp4 (by omega), lst_strOf]; rfl) | (rw [simp5 (by omega)]) | (rw [simp6 (by omega)]; rfl)))), rfl⟩, trivial⟩
        · skip
          refine aw_skip ?_
          refine normal_thn ?_
          refine aw_seq ?_
          refine aw_seq ?_
          refine aw_region ?_
          refine g_u (s_fieldAddr rfl rfl fa91_0 rfl) ?_
          refine g_u (s_load_imm rfl rfl rfl tA5 tS5 rfl rfl) ?_
          refine g_u (s_eqI rfl rfl rfl) ?_
          refine g_nil ?_
          refine normal_thn ?_
          refine aw_cond rfl (fun hb5 => ?_) (fun hb5 => ?_)
          · skip
            refine aw_seq ?_
            refine aw_region ?_
            refine g_u (s_fieldAddr rfl rfl fa91_2 rfl) ?_
            refine g_u (s_load_imm rfl rfl rfl tA3 tS3 rfl rfl) ?_
            refine g_u (s_call1 (rdec_c _ ok.2.2.1) rfl rfl) ?_
            refine g_u (s_as_imm rfl rfl) ?_
            refine g_nil ?_
            refine normal_thn ?_
            refine aw_ret ?_
            refine ret_thn ?_
            exact ⟨⟨(rfl : toAV (Al.look _ _) = some _).trans (congrArg some (by (simp only [beq_iff_eq, beq_eq_false_iff_ne, ne_eq, decide_eq_true_eq, decide_eq_false_iff_not] at *; first | (exfalso; omega) | exact congrArg sv (simp1 (by omega)).symm | (rw [simp2 (by omega) (by omega)]; rfl) | (rw [simp2' (by omega) (by omega)]; rfl) | (rw [simp3 (by omega)]) | (rw [simp4 (by omega), lst_strOf]; rfl) | (rw [simp5 (by omega)]) | (rw [simp6 (by omega)]; rfl)))), rfl⟩, trivial⟩
          · skip
            refine aw_skip ?_
            refine normal_thn ?_
            refine aw_seq ?_
            refine aw_seq ?_
            refine aw_region ?_
            refine g_u (s_fieldAddr rfl rfl fa91_0 rfl) ?_
            refine g_u (s_load_imm rfl rfl rfl tA5 tS5 rfl rfl) ?_
            refine g_u (s_eqI rfl rfl rfl) ?_
            refine g_nil ?_
            refine normal_thn ?_
            refine aw_cond rfl (fun hb6 => ?_) (fun hb6 => ?_)
            · skip
              refine aw_seq ?_
              refine aw_region ?_
              refine g_u (s_fieldAddr rfl rfl fa91_3 rfl) ?_
              refine g_u (s_load_imm rfl rfl rfl tA45 tS45 rfl rfl) ?_
              refine g_u (s_call1 (rhigh_c _ ok.2.2.2.1) rfl rfl) ?_
              refine g_u (s_call1 (rhex_c _ (by first | omega | (rw [strOf_size, be_length]; omega))) rfl rfl) ?_
              refine g_u (s_catS rfl rfl rfl (by show _ ≤ (9223372036854775807 : Int); simp only [strOf_size, hexB_length, lst_strOf, be_length]; first | omega | (show 2 + _ ≤ _; omega) | (have c1 : (ByteArray.mk #[48, 120]).size = 2 := rfl; omega))) ?_
              refine g_u (s_as_imm rfl rfl) ?_
              refine g_nil ?_
              refine normal_thn ?_
              refine aw_ret ?_
              refine ret_thn ?_
              exact ⟨⟨(rfl : toAV (Al.look _ _) = some _).trans (congrArg some (by (simp only [beq_iff_eq, beq_eq_false_iff_ne, ne_eq, decide_eq_true_eq, decide_eq_false_iff_not] at *; first | (exfalso; omega) | exact congrArg sv (simp1 (by omega)).symm | (rw [simp2 (by omega) (by omega)]; rfl) | (rw [simp2' (by omega) (by omega)]; rfl) | (rw [simp3 (by omega)]) | (rw [simp4 (by omega), lst_strOf]; rfl) | (rw [simp5 (by omega)]) | (rw [simp6 (by omega)]; rfl)))), rfl⟩, trivial⟩
            · skip
              refine aw_skip ?_
              refine normal_thn ?_
              refine aw_seq ?_
              refine aw_seq ?_
              refine aw_region ?_
              refine g_u (s_fieldAddr rfl rfl fa91_0 rfl) ?_
              refine g_u (s_load_imm rfl rfl rfl tA5 tS5 rfl rfl) ?_
              refine g_u (s_eqI rfl rfl rfl) ?_
              refine g_nil ?_
              refine normal_thn ?_
              refine aw_cond rfl (fun hb7 => ?_) (fun hb7 => ?_)
              · skip
                refine aw_seq ?_
                refine aw_region ?_
                refine g_u (s_fieldAddr rfl rfl fa91_1 rfl) ?_
                refine g_u (s_load_imm rfl rfl rfl tA9 tS9 rfl rfl) ?_
                refine g_u (s_call1 (rhex_c _ (by first | omega | (rw [strOf_size, be_length]; omega))) rfl rfl) ?_
                refine g_u (s_as_imm rfl rfl) ?_
                refine g_nil ?_
                refine normal_thn ?_
                refine aw_ret ?_
                refine ret_thn ?_
                exact ⟨⟨(rfl : toAV (Al.look _ _) = some _).trans (congrArg some (by (simp only [beq_iff_eq, beq_eq_false_iff_ne, ne_eq, decide_eq_true_eq, decide_eq_false_iff_not] at *; first | (exfalso; omega) | exact congrArg sv (simp1 (by omega)).symm | (rw [simp2 (by omega) (by omega)]; rfl) | (rw [simp2' (by omega) (by omega)]; rfl) | (rw [simp3 (by omega)]) | (rw [simp4 (by omega), lst_strOf]; rfl) | (rw [simp5 (by omega)]) | (rw [simp6 (by omega)]; rfl)))), rfl⟩, trivial⟩
              · skip
                refine aw_skip ?_
                refine normal_thn ?_
                refine aw_seq ?_
                refine aw_region ?_
                refine g_u (s_as_imm rfl rfl) ?_
                refine g_nil ?_
                refine normal_thn ?_
                refine aw_ret ?_
                exact ⟨⟨(rfl : toAV (Al.look _ _) = some _).trans (congrArg some (by (simp only [beq_iff_eq, beq_eq_false_iff_ne, ne_eq, decide_eq_true_eq, decide_eq_false_iff_not] at *; first | (exfalso; omega) | exact congrArg sv (simp1 (by omega)).symm | (rw [simp2 (by omega) (by omega)]; rfl) | (rw [simp2' (by omega) (by omega)]; rfl) | (rw [simp3 (by omega)]) | (rw [simp4 (by omega), lst_strOf]; rfl) | (rw [simp5 (by omega)]) | (rw [simp6 (by omega)]; rfl)))), rfl⟩, trivial⟩
    · rw [hb2]
      refine g_skip rfl rfl rfl ?_
      refine g_skip rfl rfl rfl ?_
      refine g_skip rfl rfl rfl ?_
      refine g_u (s_pick_f rfl rfl rfl) ?_
      refine g_nil ?_
      refine normal_thn ?_
      refine aw_cond_false rfl ?_
      refine aw_skip ?_
      refine normal_thn ?_
      refine aw_seq ?_
      refine aw_seq ?_
      refine aw_region ?_
      refine g_u (s_fieldAddr rfl rfl fa91_0 rfl) ?_
      refine g_u (s_load_imm rfl rfl rfl tA5 tS5 rfl rfl) ?_
      refine g_u (s_eqI rfl rfl rfl) ?_
      refine g_nil ?_
      refine normal_thn ?_
      refine aw_cond rfl (fun hb8 => ?_) (fun hb8 => ?_)
      · skip
        refine aw_seq ?_
        refine aw_region ?_
        refine g_u (s_as_imm rfl rfl) ?_
        refine g_nil ?_
        refine normal_thn ?_
        refine aw_ret ?_
        refine ret_thn ?_
        exact ⟨⟨(rfl : toAV (Al.look _ _) = some _).trans (congrArg some (by (simp only [beq_iff_eq, beq_eq_false_iff_ne, ne_eq, decide_eq_true_eq, decide_eq_false_iff_not] at *; first | (exfalso; omega) | exact congrArg sv (simp1 (by omega)).symm | (rw [simp2 (by omega) (by omega)]; rfl) | (rw [simp2' (by omega) (by omega)]; rfl) | (rw [simp3 (by omega)]) | (rw [simp4 (by omega), lst_strOf]; rfl) | (rw [simp5 (by omega)]) | (rw [simp6 (by omega)]; rfl)))), rfl⟩, trivial⟩
      · skip
        refine aw_skip ?_
        refine normal_thn ?_
        refine aw_seq ?_
        refine aw_seq ?_
        refine aw_region ?_
        refine g_u (s_fieldAddr rfl rfl fa91_0 rfl) ?_
        refine g_u (s_load_imm rfl rfl rfl tA5 tS5 rfl rfl) ?_
        refine g_u (s_eqI rfl rfl rfl) ?_
        refine g_nil ?_
        refine normal_thn ?_
        refine aw_cond rfl (fun hb9 => ?_) (fun hb9 => ?_)
        · skip
          refine aw_seq ?_
          refine aw_region ?_
          refine g_u (s_fieldAddr rfl rfl fa91_2 rfl) ?_
          refine g_u (s_load_imm rfl rfl rfl tA3 tS3 rfl rfl) ?_
          refine g_u (s_call1 (rdec_c _ ok.2.2.1) rfl rfl) ?_
          refine g_u (s_as_imm rfl rfl) ?_
          refine g_nil ?_
          refine normal_thn ?_
          refine aw_ret ?_
          refine ret_thn ?_
          exact ⟨⟨(rfl : toAV (Al.look _ _) = some _).trans (congrArg some (by (simp only [beq_iff_eq, beq_eq_false_iff_ne, ne_eq, decide_eq_true_eq, decide_eq_false_iff_not] at *; first | (exfalso; omega) | exact congrArg sv (simp1 (by omega)).symm | (rw [simp2 (by omega) (by omega)]; rfl) | (rw [simp2' (by omega) (by omega)]; rfl) | (rw [simp3 (by omega)]) | (rw [simp4 (by omega), lst_strOf]; rfl) | (rw [simp5 (by omega)]) | (rw [simp6 (by omega)]; rfl)))), rfl⟩, trivial⟩
        · skip
          refine aw_skip ?_
          refine normal_thn ?_
          refine aw_seq ?_
          refine aw_seq ?_
          refine aw_region ?_
          refine g_u (s_fieldAddr rfl rfl fa91_0 rfl) ?_
          refine g_u (s_load_imm rfl rfl rfl tA5 tS5 rfl rfl) ?_
          refine g_u (s_eqI rfl rfl rfl) ?_
          refine g_nil ?_
          refine normal_thn ?_
          refine aw_cond rfl (fun hb10 => ?_) (fun hb10 => ?_)
          · skip
            refine aw_seq ?_
            refine aw_region ?_
            refine g_u (s_fieldAddr rfl rfl fa91_3 rfl) ?_
            refine g_u (s_load_imm rfl rfl rfl tA45 tS45 rfl rfl) ?_
            refine g_u (s_call1 (rhigh_c _ ok.2.2.2.1) rfl rfl) ?_
            refine g_u (s_call1 (rhex_c _ (by first | omega | (rw [strOf_size, be_length]; omega))) rfl rfl) ?_
            refine g_u (s_catS rfl rfl rfl (by show _ ≤ (9223372036854775807 : Int); simp only [strOf_size, hexB_length, lst_strOf, be_length]; first | omega | (show 2 + _ ≤ _; omega) | (have c1 : (ByteArray.mk #[48, 120]).size = 2 := rfl; omega))) ?_
            refine g_u (s_as_imm rfl rfl) ?_
            refine g_nil ?_
            refine normal_thn ?_
            refine aw_ret ?_
            refine ret_thn ?_
            exact ⟨⟨(rfl : toAV (Al.look _ _) = some _).trans (congrArg some (by (simp only [beq_iff_eq, beq_eq_false_iff_ne, ne_eq, decide_eq_true_eq, decide_eq_false_iff_not] at *; first | (exfalso; omega) | exact congrArg sv (simp1 (by omega)).symm | (rw [simp2 (by omega) (by omega)]; rfl) | (rw [simp2' (by omega) (by omega)]; rfl) | (rw [simp3 (by omega)]) | (rw [simp4 (by omega), lst_strOf]; rfl) | (rw [simp5 (by omega)]) | (rw [simp6 (by omega)]; rfl)))), rfl⟩, trivial⟩
          · skip
            refine aw_skip ?_
            refine normal_thn ?_
            refine aw_seq ?_
            refine aw_seq ?_
            refine aw_region ?_
            refine g_u (s_fieldAddr rfl rfl fa91_0 rfl) ?_
            refine g_u (s_load_imm rfl rfl rfl tA5 tS5 rfl rfl) ?_
            refine g_u (s_eqI rfl rfl rfl) ?_
            refine g_nil ?_
            refine normal_thn ?_
            refine aw_cond rfl (fun hb11 => ?_) (fun hb11 => ?_)
            · skip
              refine aw_seq ?_
              refine aw_region ?_
              refine g_u (s_fieldAddr rfl rfl fa91_1 rfl) ?_
              refine g_u (s_load_imm rfl rfl rfl tA9 tS9 rfl rfl) ?_
              refine g_u (s_call1 (rhex_c _ (by first | omega | (rw [strOf_size, be_length]; omega))) rfl rfl) ?_
              refine g_u (s_as_imm rfl rfl) ?_
              refine g_nil ?_
              refine normal_thn ?_
              refine aw_ret ?_
              refine ret_thn ?_
              exact ⟨⟨(rfl : toAV (Al.look _ _) = some _).trans (congrArg some (by (simp only [beq_iff_eq, beq_eq_false_iff_ne, ne_eq, decide_eq_true_eq, decide_eq_false_iff_not] at *; first | (exfalso; omega) | exact congrArg sv (simp1 (by omega)).symm | (rw [simp2 (by omega) (by omega)]; rfl) | (rw [simp2' (by omega) (by omega)]; rfl) | (rw [simp3 (by omega)]) | (rw [simp4 (by omega), lst_strOf]; rfl) | (rw [simp5 (by omega)]) | (rw [simp6 (by omega)]; rfl)))), rfl⟩, trivial⟩
            · skip
              refine aw_skip ?_
              refine normal_thn ?_
              refine aw_seq ?_
              refine aw_region ?_
              refine g_u (s_as_imm rfl rfl) ?_
              refine g_nil ?_
              refine normal_thn ?_
              refine aw_ret ?_
              exact ⟨⟨(rfl : toAV (Al.look _ _) = some _).trans (congrArg some (by (simp only [beq_iff_eq, beq_eq_false_iff_ne, ne_eq, decide_eq_true_eq, decide_eq_false_iff_not] at *; first | (exfalso; omega) | exact congrArg sv (simp1 (by omega)).symm | (rw [simp2 (by omega) (by omega)]; rfl) | (rw [simp2' (by omega) (by omega)]; rfl) | (rw [simp3 (by omega)]) | (rw [simp4 (by omega), lst_strOf]; rfl) | (rw [simp5 (by omega)]) | (rw [simp6 (by omega)]; rfl)))), rfl⟩, trivial⟩

set_option maxHeartbeats 400000 in
theorem rjson_step (v : GV) (ho : v.ok) (hw : v.wt ≤ 10000000) (ih : ∀ y ∈ v.list, PCall Tryz.prog Γ0 139 [y.av] [sv (strOf (jsonB y))]) (ihm : ∀ a ∈ v.map, PCall Tryz.prog Γ0 139 [a.val.av] [sv (strOf (jsonB a.val))]) : PCall Tryz.prog Γ0 139 [v.av] [sv (strOf (jsonB v))] := by
  have lv := len_wtVs v.list
  have la := len_wtAs v.map
  have ek := v.wt_eq
  have ok := v.ok_iff.1 ho
  have sl := simpB_length v
  have jl := json_len v
  have c1 : (ByteArray.mk #[91]).size = 1 := rfl
  have c2 : (ByteArray.mk #[93]).size = 1 := rfl
  have c3 : (ByteArray.mk #[123]).size = 1 := rfl
  have c4 : (ByteArray.mk #[125]).size = 1 := rfl
  have c5 : (ByteArray.mk #[58]).size = 1 := rfl
  refine pcall_of Tryz.func139 rfl Tryz.ntmps139 (by kernel_rfl) rfl fun w0 I0 G0 => ?_
  refine aw_seq ?_
  refine aw_region ?_
  refine g_uG (s_box_imm 1001 rfl rfl rfl rfl) rfl ?_
  refine g_u (s_as_imm rfl rfl) ?_
  refine g_nil ?_
  refine normal_thn ?_
  refine aw_seq ?_
  refine aw_seq ?_
  refine aw_region ?_
  refine g_u (s_fieldAddr rfl rfl fa91_0 rfl) ?_
  refine g_u (s_load_imm rfl rfl rfl tA5 tS5 rfl rfl) ?_
  refine g_u (s_eqI rfl rfl rfl) ?_
  refine g_nil ?_
  refine normal_thn ?_
  refine aw_cond rfl (fun hb1 => ?_) (fun hb1 => ?_)
  · skip
    refine aw_seq ?_
    refine aw_region ?_
    refine g_u (s_as_imm rfl rfl) ?_
    refine g_nil ?_
    refine normal_thn ?_
    refine aw_ret ?_
    refine ret_thn ?_
    exact ⟨⟨(rfl : toAV (Al.look _ _) = some _).trans (congrArg some (by (simp only [beq_iff_eq, beq_eq_false_iff_ne, ne_eq, decide_eq_true_eq, decide_eq_false_iff_not] at *; rw [json0 (by omega)]; rfl))), rfl⟩, trivial⟩
  · skip
    refine aw_skip ?_
    refine normal_thn ?_
    refine aw_seq ?_
    refine aw_seq ?_
    refine aw_region ?_
    refine g_u (s_fieldAddr rfl rfl fa91_0 rfl) ?_
    refine g_u (s_load_imm rfl rfl rfl tA5 tS5 rfl rfl) ?_
    refine g_u (s_eqI rfl rfl rfl) ?_
    refine g_u (s_mv_imm rfl rfl) ?_
    refine g_case (t := 12) rfl ?_
    rintro (hb2 | hb2)
    · rw [hb2]
      refine g_skip rfl rfl rfl ?_
      refine g_skip rfl rfl rfl ?_
      refine g_skip rfl rfl rfl ?_
      refine g_u (s_pick_t rfl rfl rfl) ?_
      refine g_u (s_mv_imm rfl rfl) ?_
      refine g_skip rfl rfl rfl ?_
      refine g_skip rfl rfl rfl ?_
      refine g_skip rfl rfl rfl ?_
      refine g_u (s_pick_t rfl rfl rfl) ?_
      refine g_nil ?_
      refine normal_thn ?_
      refine aw_cond_true rfl ?_
      refine aw_seq ?_
      refine aw_region ?_
      refine g_u (s_load_imm rfl rfl rfl tA91 tS91 rfl rfl) ?_
      refine g_u (s_call1 (rsimple_c _ ho hw) rfl rfl) ?_
      refine g_u (s_call1 (rquote_c _ (by first | exact hka | (rw [strOf_size]; omega))) rfl rfl) ?_
      refine g_u (s_as_imm rfl rfl) ?_
      refine g_nil ?_
      refine normal_thn ?_
      refine aw_ret ?_
      refine ret_thn ?_
      exact ⟨⟨(rfl : toAV (Al.look _ _) = some _).trans (congrArg some (by (simp only [beq_iff_eq, beq_eq_false_iff_ne, ne_eq, decide_eq_true_eq, decide_eq_false_iff_not] at *; rw [jsonS (by omega)]; rw [lst_strOf]))), rfl⟩, trivial⟩
    · rw [hb2]
      refine g_run rfl rfl (s_fieldAddr rfl rfl fa91_0 rfl) ?_
      refine g_run rfl rfl (s_load_imm rfl rfl rfl tA5 tS5 rfl rfl) ?_
      refine g_run rfl rfl (s_eqI rfl rfl rfl) ?_
      refine g_u (s_pick_f rfl rfl rfl) ?_
      refine g_u (s_mv_imm rfl rfl) ?_
      refine g_case (t := 17) rfl ?_
      rintro (hb3 | hb3)
      · rw [hb3]
        refine g_skip rfl rfl rfl ?_
        refine g_skip rfl rfl rfl ?_
        refine g_skip rfl rfl rfl ?_
        refine g_u (s_pick_t rfl rfl rfl) ?_
        refine g_nil ?_
        refine normal_thn ?_
        refine aw_cond_true rfl ?_
        refine aw_seq ?_
        refine aw_region ?_
        refine g_u (s_load_imm rfl rfl rfl tA91 tS91 rfl rfl) ?_
        refine g_u (s_call1 (rsimple_c _ ho hw) rfl rfl) ?_
        refine g_u (s_call1 (rquote_c _ (by first | exact hka | (rw [strOf_size]; omega))) rfl rfl) ?_
        refine g_u (s_as_imm rfl rfl) ?_
        refine g_nil ?_
        refine normal_thn ?_
        refine aw_ret ?_
        refine ret_thn ?_
        exact ⟨⟨(rfl : toAV (Al.look _ _) = some _).trans (congrArg some (by (simp only [beq_iff_eq, beq_eq_false_iff_ne, ne_eq, decide_eq_true_eq, decide_eq_false_iff_not] at *; rw [jsonS (by omega)]; rw [lst_strOf]))), rfl⟩, trivial⟩
      · rw [hb3]
        refine g_run rfl rfl (s_fieldAddr rfl rfl fa91_0 rfl) ?_
        refine g_run rfl rfl (s_load_imm rfl rfl rfl tA5 tS5 rfl rfl) ?_
        refine g_run rfl rfl (s_eqI rfl rfl rfl) ?_
        refine g_u (s_pick_f rfl rfl rfl) ?_
        refine g_nil ?_
        refine normal_thn ?_
        refine aw_cond rfl (fun hb4 => ?_) (fun hb4 => ?_)
        · skip
          refine aw_seq ?_
          refine aw_region ?_
          refine g_u (s_load_imm rfl rfl rfl tA91 tS91 rfl rfl) ?_
          refine g_u (s_call1 (rsimple_c _ ho hw) rfl rfl) ?_
          refine g_u (s_call1 (rquote_c _ (by first | exact hka | (rw [strOf_size]; omega))) rfl rfl) ?_
          refine g_u (s_as_imm rfl rfl) ?_
          refine g_nil ?_
          refine normal_thn ?_
          refine aw_ret ?_
          refine ret_thn ?_
          exact ⟨⟨(rfl : toAV (Al.look _ _) = some _).trans (congrArg some (by (simp only [beq_iff_eq, beq_eq_false_iff_ne, ne_eq, decide_eq_true_eq, decide_eq_false_iff_not] at *; rw [jsonS (by omega)]; rw [lst_strOf]))), rfl⟩, trivial⟩
        · skip
          refine aw_skip ?_
          refine normal_thn ?_
          refine aw_seq ?_
          refine aw_region ?_
          refine g_u (s_as_imm rfl rfl) ?_
          refine g_nil ?_
          refine normal_thn ?_
          refine aw_seq ?_
          refine aw_seq ?_
          refine aw_region ?_
          refine g_u (s_fieldAddr rfl rfl fa91_0 rfl) ?_
          refine g_u (s_load_imm rfl rfl rfl tA5 tS5 rfl rfl) ?_
          refine g_u (s_eqI rfl rfl rfl) ?_
          refine g_nil ?_
          refine normal_thn ?_
          refine aw_cond rfl (fun hb5 => ?_) (fun hb5 => ?_)
          · skip
            refine aw_seq ?_
            refine aw_seq ?_
            refine aw_region ?_
            refine g_u (s_as_imm rfl rfl) ?_
            refine g_nil ?_
            refine normal_thn ?_
            refine aw_block ?_
            refine aw_loop' (fun j : Nat × ByteArray => [(1, .ptr 1001 0), (1001, .box 91 (.imm v.av)), (3, .imm (sv j.2)), (4, .imm (iv (j.1 : Int)))]) (fun j => j.1 ≤ v.list.length ∧ lst j.2 = jsonVs true (v.list.take j.1)) (fun j => v.list.length - j.1) (⟨0, ⟨#[]⟩⟩) ?_ ⟨rfl, rfl, rfl, rfl, trivial⟩ ?_
            · exact ⟨Nat.zero_le _, rfl⟩
            · rintro ⟨i, t⟩ ⟨h1, h2⟩; dsimp only at h1 h2; have hlen : t.size ≤ 150 * wtVs (v.list.take i) := by rw [← lst_len t, h2]; exact jsonVs_len _ _
              have htk := wtVs_take v.list i
              refine aw_seq ?_
              refine aw_seq ?_
              refine aw_region ?_
              refine g_u (s_mv_imm rfl rfl) ?_
              refine g_u (s_fieldAddr rfl rfl fa91_4 rfl) ?_
              refine g_u (s_load_imm rfl rfl rfl tA89 tS89 rfl rfl) ?_
              refine g_u (s_lenL rfl rfl Tryz.underlying89) ?_
              refine g_u (s_ltI rfl rfl rfl) ?_
              refine g_nil ?_
              refine normal_thn ?_
              refine aw_cond rfl (fun hb6 => ?_) (fun hb6 => ?_)
              · skip
                have hiv : i < v.list.length := by have := of_decide_eq_true hb6; simp only [List.length_map] at this; omega
                refine aw_skip ?_
                refine normal_thn ?_
                refine aw_seq ?_
                refine aw_block ?_
                refine aw_draw mixed ?_
                refine g_u (s_mv_imm rfl rfl) ?_
                refine g_u (s_mv_imm rfl rfl) ?_
                refine g_u (s_call1 (rcomma_c _) rfl rfl) ?_
                refine g_u (s_catS rfl rfl rfl (by show _ ≤ (9223372036854775807 : Int); (try dsimp only); first | (have q1 := wtVs_nth hiv; have q2 := json_len (nthV v.list i); have q3 := comma_length (i == 0); simp only [app_size, strOf_size, c1, c2, c3, c4, c5]; omega) | (have q1 := wtAs_nth hia; have q2 := jsonA_len (nthA v.map i); have q3 := comma_length (i == 0); have q4 := (nthA v.map i).wt_eq; have q5 := quoteB_length (lst (nthA v.map i).key); have q6 := lst_len (nthA v.map i).key; have q7 := json_len (nthA v.map i).val; simp only [app_size, strOf_size, c1, c2, c3, c4, c5]; omega) | (simp only [app_size, strOf_size, c1, c2, c3, c4, c5]; omega))) ?_
                refine g_u (s_fieldAddr rfl rfl fa91_4 rfl) ?_
                refine g_u (s_load_imm rfl rfl rfl tA89 tS89 rfl rfl) ?_
                refine g_u (s_mv_imm rfl rfl) ?_
                refine g_u (s_indexAddr rfl rfl rfl Tryz.underlying89 tS91 (by omega) (ixV hiv)) ?_
                refine g_u (s_load_cp rfl rfl tA91 tS91 rfl rfl) ?_
                refine g_u (s_call1 ((by first | exact ih _ (nthV_mem hiv) | exact ihm _ (nthA_mem hia))) rfl rfl) ?_
                refine g_u (s_catS rfl rfl rfl (by show _ ≤ (9223372036854775807 : Int); (try dsimp only); first | (have q1 := wtVs_nth hiv; have q2 := json_len (nthV v.list i); have q3 := comma_length (i == 0); simp only [app_size, strOf_size, c1, c2, c3, c4, c5]; omega) | (have q1 := wtAs_nth hia; have q2 := jsonA_len (nthA v.map i); have q3 := comma_length (i == 0); have q4 := (nthA v.map i).wt_eq; have q5 := quoteB_length (lst (nthA v.map i).key); have q6 := lst_len (nthA v.map i).key; have q7 := json_len (nthA v.map i).val; simp only [app_size, strOf_size, c1, c2, c3, c4, c5]; omega) | (simp only [app_size, strOf_size, c1, c2, c3, c4, c5]; omega))) ?_
                refine g_u (s_as_imm rfl rfl) ?_
                refine g_nil ⟨by kernel_rfl, ?_⟩
                refine normal_blk ?_
                refine normal_thn ?_
                refine aw_region ?_
                refine g_u (s_mv_imm rfl rfl) ?_
                refine g_u (s_add rfl rfl rfl) ?_
                refine g_u (s_as_imm rfl rfl) ?_
                refine g_nil ?_
                refine normal_thn ?_
                refine ⟨⟨i + 1, _⟩, ⟨hiv, ?_⟩, ⟨rfl, rfl, rfl, look_int rfl (by rw [wrap64 (by omega) (by omega)]; rfl), trivial⟩, by dsimp only; omega⟩
                show lst (t ++ strOf (comma (i == 0)) ++ strOf (jsonB (nthV v.list i))) = _
                rw [jsonVs_take hiv, lst_app, lst_app, lst_strOf, lst_strOf, h2]
              · skip
                have hi : i = v.list.length := by have := of_decide_eq_false hb6; simp only [List.length_map] at this; omega
                refine aw_exit ?_
                refine exit_thn ?_
                refine exit_thn ?_
                refine exit_blk ?_
                refine normal_thn ?_
                refine aw_seq ?_
                refine aw_region ?_
                refine g_u (s_mv_imm rfl rfl) ?_
                refine g_u (s_catS rfl rfl rfl (by show _ ≤ (9223372036854775807 : Int); (try dsimp only); first | (have q1 := wtVs_nth hiv; have q2 := json_len (nthV v.list i); have q3 := comma_length (i == 0); simp only [app_size, strOf_size, c1, c2, c3, c4, c5]; omega) | (have q1 := wtAs_nth hia; have q2 := jsonA_len (nthA v.map i); have q3 := comma_length (i == 0); have q4 := (nthA v.map i).wt_eq; have q5 := quoteB_length (lst (nthA v.map i).key); have q6 := lst_len (nthA v.map i).key; have q7 := json_len (nthA v.map i).val; simp only [app_size, strOf_size, c1, c2, c3, c4, c5]; omega) | (simp only [app_size, strOf_size, c1, c2, c3, c4, c5]; omega))) ?_
                refine g_u (s_catS rfl rfl rfl (by show _ ≤ (9223372036854775807 : Int); (try dsimp only); first | (have q1 := wtVs_nth hiv; have q2 := json_len (nthV v.list i); have q3 := comma_length (i == 0); simp only [app_size, strOf_size, c1, c2, c3, c4, c5]; omega) | (have q1 := wtAs_nth hia; have q2 := jsonA_len (nthA v.map i); have q3 := comma_length (i == 0); have q4 := (nthA v.map i).wt_eq; have q5 := quoteB_length (lst (nthA v.map i).key); have q6 := lst_len (nthA v.map i).key; have q7 := json_len (nthA v.map i).val; simp only [app_size, strOf_size, c1, c2, c3, c4, c5]; omega) | (simp only [app_size, strOf_size, c1, c2, c3, c4, c5]; omega))) ?_
                refine g_u (s_as_imm rfl rfl) ?_
                refine g_nil ?_
                refine normal_thn ?_
                refine aw_ret ?_
                refine ret_thn ?_
                exact ⟨⟨(rfl : toAV (Al.look _ _) = some _).trans (congrArg some (by (simp only [beq_iff_eq, beq_eq_false_iff_ne, ne_eq, decide_eq_true_eq, decide_eq_false_iff_not] at *; rw [json6 (by omega)]; refine congrArg sv (strOf_eq ?_); show lst (⟨#[91]⟩ ++ t ++ ⟨#[93]⟩) = _; rw [lst_app, lst_app, h2, hi, List.take_of_length_le (Nat.le_refl _)]; rfl))), rfl⟩, trivial⟩
          · skip
            refine aw_skip ?_
            refine normal_thn ?_
            refine aw_seq ?_
            refine aw_seq ?_
            refine aw_region ?_
            refine g_u (s_fieldAddr rfl rfl fa91_0 rfl) ?_
            refine g_u (s_load_imm rfl rfl rfl tA5 tS5 rfl rfl) ?_
            refine g_u (s_eqI rfl rfl rfl) ?_
            refine g_nil ?_
            refine normal_thn ?_
            refine aw_cond rfl (fun hb7 => ?_) (fun hb7 => ?_)
            · skip
              refine aw_seq ?_
              refine aw_seq ?_
              refine aw_region ?_
              refine g_u (s_as_imm rfl rfl) ?_
              refine g_nil ?_
              refine normal_thn ?_
              refine aw_block ?_
              refine aw_loop' (fun j : Nat × ByteArray => [(1, .ptr 1001 0), (1001, .box 91 (.imm v.av)), (3, .imm (sv j.2)), (5, .imm (iv (j.1 : Int)))]) (fun j => j.1 ≤ v.map.length ∧ lst j.2 = jsonAs true (v.map.take j.1)) (fun j => v.map.length - j.1) (⟨0, ⟨#[]⟩⟩) ?_ ⟨rfl, rfl, rfl, rfl, trivial⟩ ?_
              · exact ⟨Nat.zero_le _, rfl⟩
              · rintro ⟨i, t⟩ ⟨h1, h2⟩; dsimp only at h1 h2; have hlen : t.size ≤ 150 * wtAs (v.map.take i) := by rw [← lst_len t, h2]; exact jsonAs_len _ _
                have htk := wtAs_take v.map i
                refine aw_seq ?_
                refine aw_seq ?_
                refine aw_region ?_
                refine g_u (s_mv_imm rfl rfl) ?_
                refine g_u (s_fieldAddr rfl rfl fa91_5 rfl) ?_
                refine g_u (s_load_imm rfl rfl rfl tA46 tS46 rfl rfl) ?_
                refine g_u (s_lenL rfl rfl Tryz.underlying46) ?_
                refine g_u (s_ltI rfl rfl rfl) ?_
                refine g_nil ?_
                refine normal_thn ?_
                refine aw_cond rfl (fun hb8 => ?_) (fun hb8 => ?_)
                · skip
                  have hia : i < v.map.length := by have := of_decide_eq_true hb8; simp only [List.length_map] at this; omega
                  have hka : (nthA v.map i).key.size ≤ 100000000000 := by have q1 := wtAs_nth hia; have q4 := (nthA v.map i).wt_eq; omega
                  refine aw_skip ?_
                  refine normal_thn ?_
                  refine aw_seq ?_
                  refine aw_block ?_
                  refine aw_draw mixed ?_
                  refine g_u (s_mv_imm rfl rfl) ?_
                  refine g_u (s_mv_imm rfl rfl) ?_
                  refine g_u (s_call1 (rcomma_c _) rfl rfl) ?_
                  refine g_u (s_catS rfl rfl rfl (by show _ ≤ (9223372036854775807 : Int); (try dsimp only); first | (have q1 := wtVs_nth hiv; have q2 := json_len (nthV v.list i); have q3 := comma_length (i == 0); simp only [app_size, strOf_size, c1, c2, c3, c4, c5]; omega) | (have q1 := wtAs_nth hia; have q2 := jsonA_len (nthA v.map i); have q3 := comma_length (i == 0); have q4 := (nthA v.map i).wt_eq; have q5 := quoteB_length (lst (nthA v.map i).key); have q6 := lst_len (nthA v.map i).key; have q7 := json_len (nthA v.map i).val; simp only [app_size, strOf_size, c1, c2, c3, c4, c5]; omega) | (simp only [app_size, strOf_size, c1, c2, c3, c4, c5]; omega))) ?_
                  refine g_u (s_fieldAddr rfl rfl fa91_5 rfl) ?_
                  refine g_u (s_load_imm rfl rfl rfl tA46 tS46 rfl rfl) ?_
                  refine g_u (s_mv_imm rfl rfl) ?_
                  refine g_u (s_indexAddr rfl rfl rfl Tryz.underlying46 tS93 (by omega) (ixA hia)) ?_
                  refine g_u (s_fieldAddr_cp rfl rfl fa93_0 rfl rfl) ?_
                  refine g_u (s_load_cp rfl rfl tA9 tS9 rfl rfl) ?_
                  refine g_u (s_call1 (rquote_c _ (by first | exact hka | (rw [strOf_size]; omega))) rfl rfl) ?_
                  refine g_u (s_catS rfl rfl rfl (by show _ ≤ (9223372036854775807 : Int); (try dsimp only); first | (have q1 := wtVs_nth hiv; have q2 := json_len (nthV v.list i); have q3 := comma_length (i == 0); simp only [app_size, strOf_size, c1, c2, c3, c4, c5]; omega) | (have q1 := wtAs_nth hia; have q2 := jsonA_len (nthA v.map i); have q3 := comma_length (i == 0); have q4 := (nthA v.map i).wt_eq; have q5 := quoteB_length (lst (nthA v.map i).key); have q6 := lst_len (nthA v.map i).key; have q7 := json_len (nthA v.map i).val; simp only [app_size, strOf_size, c1, c2, c3, c4, c5]; omega) | (simp only [app_size, strOf_size, c1, c2, c3, c4, c5]; omega))) ?_
                  refine g_u (s_catS rfl rfl rfl (by show _ ≤ (9223372036854775807 : Int); (try dsimp only); first | (have q1 := wtVs_nth hiv; have q2 := json_len (nthV v.list i); have q3 := comma_length (i == 0); simp only [app_size, strOf_size, c1, c2, c3, c4, c5]; omega) | (have q1 := wtAs_nth hia; have q2 := jsonA_len (nthA v.map i); have q3 := comma_length (i == 0); have q4 := (nthA v.map i).wt_eq; have q5 := quoteB_length (lst (nthA v.map i).key); have q6 := lst_len (nthA v.map i).key; have q7 := json_len (nthA v.map i).val; simp only [app_size, strOf_size, c1, c2, c3, c4, c5]; omega) | (simp only [app_size, strOf_size, c1, c2, c3, c4, c5]; omega))) ?_
                  refine g_u (s_fieldAddr rfl rfl fa91_5 rfl) ?_
                  refine g_u (s_load_imm rfl rfl rfl tA46 tS46 rfl rfl) ?_
                  refine g_u (s_mv_imm rfl rfl) ?_
                  refine g_u (s_indexAddr rfl rfl rfl Tryz.underlying46 tS93 (by omega) (ixA hia)) ?_
                  refine g_u (s_fieldAddr_cp rfl rfl fa93_1 rfl rfl) ?_
                  refine g_u (s_load_cp rfl rfl tA91 tS91 rfl rfl) ?_
                  refine g_u (s_call1 ((by first | exact ih _ (nthV_mem hiv) | exact ihm _ (nthA_mem hia))) rfl rfl) ?_
                  refine g_u (s_catS rfl rfl rfl (by show _ ≤ (9223372036854775807 : Int); (try dsimp only); first | (have q1 := wtVs_nth hiv; have q2 := json_len (nthV v.list i); have q3 := comma_length (i == 0); simp only [app_size, strOf_size, c1, c2, c3, c4, c5]; omega) | (have q1 := wtAs_nth hia; have q2 := jsonA_len (nthA v.map i); have q3 := comma_length (i == 0); have q4 := (nthA v.map i).wt_eq; have q5 := quoteB_length (lst (nthA v.map i).key); have q6 := lst_len (nthA v.map i).key; have q7 := json_len (nthA v.map i).val; simp only [app_size, strOf_size, c1, c2, c3, c4, c5]; omega) | (simp only [app_size, strOf_size, c1, c2, c3, c4, c5]; omega))) ?_
                  refine g_u (s_as_imm rfl rfl) ?_
                  refine g_nil ⟨by kernel_rfl, ?_⟩
                  refine normal_blk ?_
                  refine normal_thn ?_
                  refine aw_region ?_
                  refine g_u (s_mv_imm rfl rfl) ?_
                  refine g_u (s_add rfl rfl rfl) ?_
                  refine g_u (s_as_imm rfl rfl) ?_
                  refine g_nil ?_
                  refine normal_thn ?_
                  refine ⟨⟨i + 1, _⟩, ⟨hia, ?_⟩, ⟨rfl, rfl, rfl, look_int rfl (by rw [wrap64 (by omega) (by omega)]; rfl), trivial⟩, by dsimp only; omega⟩
                  show lst (t ++ strOf (comma (i == 0)) ++ strOf (quoteB (lst (nthA v.map i).key)) ++ ⟨#[58]⟩ ++ strOf (jsonB (nthA v.map i).val)) = _
                  rw [jsonAs_take hia, jsonA_eq, lst_app, lst_app, lst_app, lst_app, lst_strOf, lst_strOf, lst_strOf, h2]
                  simp only [List.append_assoc]
                  rfl
                · skip
                  have hi : i = v.map.length := by have := of_decide_eq_false hb8; simp only [List.length_map] at this; omega
                  refine aw_exit ?_
                  refine exit_thn ?_
                  refine exit_thn ?_
                  refine exit_blk ?_
                  refine normal_thn ?_
                  refine aw_seq ?_
                  refine aw_region ?_
                  refine g_u (s_mv_imm rfl rfl) ?_
                  refine g_u (s_catS rfl rfl rfl (by show _ ≤ (9223372036854775807 : Int); (try dsimp only); first | (have q1 := wtVs_nth hiv; have q2 := json_len (nthV v.list i); have q3 := comma_length (i == 0); simp only [app_size, strOf_size, c1, c2, c3, c4, c5]; omega) | (have q1 := wtAs_nth hia; have q2 := jsonA_len (nthA v.map i); have q3 := comma_length (i == 0); have q4 := (nthA v.map i).wt_eq; have q5 := quoteB_length (lst (nthA v.map i).key); have q6 := lst_len (nthA v.map i).key; have q7 := json_len (nthA v.map i).val; simp only [app_size, strOf_size, c1, c2, c3, c4, c5]; omega) | (simp only [app_size, strOf_size, c1, c2, c3, c4, c5]; omega))) ?_
                  refine g_u (s_catS rfl rfl rfl (by show _ ≤ (9223372036854775807 : Int); (try dsimp only); first | (have q1 := wtVs_nth hiv; have q2 := json_len (nthV v.list i); have q3 := comma_length (i == 0); simp only [app_size, strOf_size, c1, c2, c3, c4, c5]; omega) | (have q1 := wtAs_nth hia; have q2 := jsonA_len (nthA v.map i); have q3 := comma_length (i == 0); have q4 := (nthA v.map i).wt_eq; have q5 := quoteB_length (lst (nthA v.map i).key); have q6 := lst_len (nthA v.map i).key; have q7 := json_len (nthA v.map i).val; simp only [app_size, strOf_size, c1, c2, c3, c4, c5]; omega) | (simp only [app_size, strOf_size, c1, c2, c3, c4, c5]; omega))) ?_
                  refine g_u (s_as_imm rfl rfl) ?_
                  refine g_nil ?_
                  refine normal_thn ?_
                  refine aw_ret ?_
                  refine ret_thn ?_
                  exact ⟨⟨(rfl : toAV (Al.look _ _) = some _).trans (congrArg some (by (simp only [beq_iff_eq, beq_eq_false_iff_ne, ne_eq, decide_eq_true_eq, decide_eq_false_iff_not] at *; rw [json7 (by omega)]; refine congrArg sv (strOf_eq ?_); show lst (⟨#[123]⟩ ++ t ++ ⟨#[125]⟩) = _; rw [lst_app, lst_app, h2, hi, List.take_of_length_le (Nat.le_refl _)]; rfl))), rfl⟩, trivial⟩
            · skip
              refine aw_skip ?_
              refine normal_thn ?_
              refine aw_seq ?_
              refine aw_region ?_
              refine g_u (s_load_imm rfl rfl rfl tA91 tS91 rfl rfl) ?_
              refine g_u (s_call1 (rsimple_c _ ho hw) rfl rfl) ?_
              refine g_u (s_as_imm rfl rfl) ?_
              refine g_nil ?_
              refine normal_thn ?_
              refine aw_ret ?_
              exact ⟨⟨(rfl : toAV (Al.look _ _) = some _).trans (congrArg some (by (simp only [beq_iff_eq, beq_eq_false_iff_ne, ne_eq, decide_eq_true_eq, decide_eq_false_iff_not] at *; rw [jsonE (by omega)]))), rfl⟩, trivial⟩

theorem rjson_c (v : GV) : v.ok → v.wt ≤ 10000000 → PCall Tryz.prog Γ0 139 [v.av] [sv (strOf (jsonB v))] := by
  refine GV.ind (P := fun v => v.ok → v.wt ≤ 10000000 → PCall Tryz.prog Γ0 139 [v.av] [sv (strOf (jsonB v))]) ?_ v
  intro v h1 h2 ho hw
  have ok := v.ok_iff.1 ho
  have ek := v.wt_eq
  refine rjson_step v ho hw (fun y hy => h1 y hy (ok.2.2.2.2.1 y hy) ?_) (fun a ha => h2 a ha ((GA.ok_iff a).1 (ok.2.2.2.2.2 a ha)).2 ?_)
  · have := wtVs_mem hy; omega
  · have := wtAs_mem ha; have := a.wt_eq; omega

set_option maxHeartbeats 400000 in
theorem rtext_c (v : GV) (ho : v.ok) (hw : v.wt ≤ 10000000) : PCall Tryz.prog Γ0 91 [v.av] [sv (textM v)] := by
  refine pcall_of Tryz.func91 rfl Tryz.ntmps91 (by kernel_rfl) rfl fun w0 I0 G0 => ?_
  refine aw_seq ?_
  refine aw_region ?_
  refine g_uG (s_box_imm 1001 rfl rfl rfl rfl) rfl ?_
  refine g_u (s_as_imm rfl rfl) ?_
  refine g_nil ?_
  refine normal_thn ?_
  refine aw_seq ?_
  refine aw_seq ?_
  refine aw_region ?_
  refine g_u (s_fieldAddr rfl rfl fa91_0 rfl) ?_
  refine g_u (s_load_imm rfl rfl rfl tA5 tS5 rfl rfl) ?_
  refine g_u (s_eqI rfl rfl rfl) ?_
  refine g_u (s_mv_imm rfl rfl) ?_
  refine g_case (t := 6) rfl ?_
  rintro (hb1 | hb1)
  · rw [hb1]
    refine g_skip rfl rfl rfl ?_
    refine g_skip rfl rfl rfl ?_
    refine g_skip rfl rfl rfl ?_
    refine g_u (s_pick_t rfl rfl rfl) ?_
    refine g_nil ?_
    refine normal_thn ?_
    refine aw_cond_true rfl ?_
    refine aw_seq ?_
    refine aw_region ?_
    refine g_u (s_load_imm rfl rfl rfl tA91 tS91 rfl rfl) ?_
    refine g_u (s_call1 (rjson_c v ho hw) rfl rfl) ?_
    refine g_u (s_as_imm rfl rfl) ?_
    refine g_nil ?_
    refine normal_thn ?_
    refine aw_ret ?_
    refine ret_thn ?_
    exact ⟨⟨(rfl : toAV (Al.look _ _) = some _).trans (congrArg some (by (simp only [beq_iff_eq, beq_eq_false_iff_ne, ne_eq, decide_eq_true_eq, decide_eq_false_iff_not] at *; first | rw [text6 (by omega)] | rw [textE (by omega)]))), rfl⟩, trivial⟩
  · rw [hb1]
    refine g_run rfl rfl (s_fieldAddr rfl rfl fa91_0 rfl) ?_
    refine g_run rfl rfl (s_load_imm rfl rfl rfl tA5 tS5 rfl rfl) ?_
    refine g_run rfl rfl (s_eqI rfl rfl rfl) ?_
    refine g_u (s_pick_f rfl rfl rfl) ?_
    refine g_nil ?_
    refine normal_thn ?_
    refine aw_cond rfl (fun hb2 => ?_) (fun hb2 => ?_)
    · skip
      refine aw_seq ?_
      refine aw_region ?_
      refine g_u (s_load_imm rfl rfl rfl tA91 tS91 rfl rfl) ?_
      refine g_u (s_call1 (rjson_c v ho hw) rfl rfl) ?_
      refine g_u (s_as_imm rfl rfl) ?_
      refine g_nil ?_
      refine normal_thn ?_
      refine aw_ret ?_
      refine ret_thn ?_
      exact ⟨⟨(rfl : toAV (Al.look _ _) = some _).trans (congrArg some (by (simp only [beq_iff_eq, beq_eq_false_iff_ne, ne_eq, decide_eq_true_eq, decide_eq_false_iff_not] at *; first | rw [text6 (by omega)] | rw [textE (by omega)]))), rfl⟩, trivial⟩
    · skip
      refine aw_skip ?_
      refine normal_thn ?_
      refine aw_seq ?_
      refine aw_region ?_
      refine g_u (s_load_imm rfl rfl rfl tA91 tS91 rfl rfl) ?_
      refine g_u (s_call1 (rsimple_c _ ho hw) rfl rfl) ?_
      refine g_u (s_as_imm rfl rfl) ?_
      refine g_nil ?_
      refine normal_thn ?_
      refine aw_ret ?_
      exact ⟨⟨(rfl : toAV (Al.look _ _) = some _).trans (congrArg some (by (simp only [beq_iff_eq, beq_eq_false_iff_ne, ne_eq, decide_eq_true_eq, decide_eq_false_iff_not] at *; first | rw [text6 (by omega)] | rw [textE (by omega)]))), rfl⟩, trivial⟩


end Go.Proofs

namespace Go.Proofs
open Go Go.Al
set_option maxRecDepth 10000
def truthB (n : Int) : Bs := if n = 0 then [102, 97, 108, 115, 101] else [116, 114, 117, 101]
def thingM (v : GV) : AV :=
  if v.kind = 0 then .ifc 198 (sv (strOf [110, 117, 108, 108]))
  else if v.kind = 1 then .ifc 197 (sv v.text)
  else if v.kind = 2 then .ifc 198 (sv (strOf (truthB v.num)))
  else if v.kind = 3 then .ifc 198 (sv (strOf (decB v.num)))
  else if v.kind = 4 then .ifc 197 (sv (strOf (48 :: 120 :: hexB (be 8 v.bits.toNat))))
  else if v.kind = 5 then .ifc 197 (sv (strOf (hexB (lst v.text))))
  else if v.kind = 6 then .ifc 239 (.sl 6 (v.list.map avV))
  else if v.kind = 7 then .ifc 240 (.sl 7 (v.map.map avA))
  else .ifc 198 (sv ⟨#[]⟩)

set_option maxHeartbeats 400000 in
theorem truth_c (n : Int) : PCall Tryz.prog Γ0 178 [iv n] [sv (strOf (truthB n))] := by
  refine pcall_of Tryz.func178 rfl Tryz.ntmps178 (by kernel_rfl) rfl fun w0 I0 G0 => ?_
  refine aw_seq ?_
  refine aw_region ?_
  refine g_u (s_as_imm rfl rfl) ?_
  refine g_nil ?_
  refine normal_thn ?_
  refine aw_seq ?_
  refine aw_seq ?_
  refine aw_region ?_
  refine g_u (s_mv_imm rfl rfl) ?_
  refine g_u (s_neI rfl rfl rfl) ?_
  refine g_nil ?_
  refine normal_thn ?_
  refine aw_cond rfl (fun hb1 => ?_) (fun hb1 => ?_)
  · skip
    refine aw_seq ?_
    refine aw_region ?_
    refine g_u (s_as_imm rfl rfl) ?_
    refine g_nil ?_
    refine normal_thn ?_
    refine aw_ret ?_
    refine ret_thn ?_
    exact ⟨⟨(rfl : toAV (Al.look _ _) = some _).trans (congrArg some (by (unfold truthB; first | (rw [if_neg (by simpa using hb1)]; rfl) | (rw [if_pos (by simpa using hb1)]; rfl)))), rfl⟩, trivial⟩
  · skip
    refine aw_skip ?_
    refine normal_thn ?_
    refine aw_seq ?_
    refine aw_region ?_
    refine g_u (s_as_imm rfl rfl) ?_
    refine g_nil ?_
    refine normal_thn ?_
    refine aw_ret ?_
    exact ⟨⟨(rfl : toAV (Al.look _ _) = some _).trans (congrArg some (by (unfold truthB; first | (rw [if_neg (by simpa using hb1)]; rfl) | (rw [if_pos (by simpa using hb1)]; rfl)))), rfl⟩, trivial⟩

set_option maxHeartbeats 400000 in
theorem double_c (u : Int) (h : 0 ≤ u ∧ u < 18446744073709551616) : PCall Tryz.prog Γ0 179 [uv u] [sv (strOf (48 :: 120 :: hexB (be 8 u.toNat)))] := by
  have c1 : (ByteArray.mk #[48, 120]).size = 2 := rfl
  refine pcall_of Tryz.func179 rfl Tryz.ntmps179 (by kernel_rfl) rfl fun w0 I0 G0 => ?_
  refine aw_seq ?_
  refine aw_region ?_
  refine g_u (s_as_imm rfl rfl) ?_
  refine g_nil ?_
  refine normal_thn ?_
  refine aw_seq ?_
  refine aw_region ?_
  refine g_u (s_mv_imm rfl rfl) ?_
  refine g_u (s_call1 (nil1 (n := 1) (high_c [] u h (by simp))) rfl rfl) ?_
  refine g_u (s_cvBS' (rfl) rfl rfl Tryz.underlying85 Tryz.underlying9 Tryz.underlying5) ?_
  refine g_u (s_call1 (htext_c _ (by rw [strOf_size]; simp only [List.nil_append, be_length]; omega)) rfl rfl) ?_
  refine g_u (s_catS rfl rfl rfl (by show _ ≤ (9223372036854775807 : Int); simp only [strOf_size, hexB_length, lst_strOf, List.nil_append, be_length, c1]; omega)) ?_
  refine g_u (s_as_imm rfl rfl) ?_
  refine g_nil ?_
  refine normal_thn ?_
  refine aw_ret ?_
  exact ⟨⟨(rfl : toAV (Al.look _ _) = some _).trans (congrArg some (by (rw [lst_strOf]; rfl))), rfl⟩, trivial⟩

set_option maxHeartbeats 400000 in
theorem thing_c (v : GV) (ho : v.ok) (hw : v.wt ≤ 10000000) : PCall Tryz.prog Γ0 115 [v.av] [thingM v] := by
  have lv := len_wtVs v.list
  have la := len_wtAs v.map
  have ek := v.wt_eq
  have ok := v.ok_iff.1 ho
  have sl := simpB_length v
  have jl := json_len v
  refine pcall_of Tryz.func115 rfl Tryz.ntmps115 (by kernel_rfl) rfl fun w0 I0 G0 => ?_
  refine aw_seq ?_
  refine aw_region ?_
  refine g_uG (s_box_imm 1001 rfl rfl rfl rfl) rfl ?_
  refine g_u (s_as_imm rfl rfl) ?_
  refine g_nil ?_
  refine normal_thn ?_
  refine aw_seq ?_
  refine aw_seq ?_
  refine aw_region ?_
  refine g_u (s_fieldAddr rfl rfl fa91_0 rfl) ?_
  refine g_u (s_load_imm rfl rfl rfl tA5 tS5 rfl rfl) ?_
  refine g_nil ?_
  refine normal_thn ?_
  refine aw_block ?_
  refine aw_seq ?_
  refine aw_region ?_
  refine g_u (s_eqI rfl rfl rfl) ?_
  refine g_u (s_as_imm rfl rfl) ?_
  refine g_nil ?_
  refine normal_thn ?_
  refine aw_cond rfl (fun hb1 => ?_) (fun hb1 => ?_)
  · skip
    refine aw_seq ?_
    refine aw_region ?_
    refine g_u (s_makeIface rfl rfl nI198) ?_
    refine g_u (s_as_imm rfl rfl) ?_
    refine g_nil ?_
    refine normal_thn ?_
    refine aw_ret ?_
    refine ret_blk ?_
    refine ret_thn ?_
    exact ⟨⟨(rfl : toAV (Al.look _ _) = some _).trans (congrArg some (by (simp only [beq_iff_eq, beq_eq_false_iff_ne, ne_eq, decide_eq_true_eq, decide_eq_false_iff_not] at *; unfold thingM; (repeat (first | rw [if_pos (by omega)] | rw [if_neg (by omega)])); (first | done | rfl)))), rfl⟩, trivial⟩
  · skip
    refine aw_seq ?_
    refine aw_region ?_
    refine g_u (s_eqI rfl rfl rfl) ?_
    refine g_u (s_as_imm rfl rfl) ?_
    refine g_nil ?_
    refine normal_thn ?_
    refine aw_cond rfl (fun hb2 => ?_) (fun hb2 => ?_)
    · skip
      refine aw_seq ?_
      refine aw_region ?_
      refine g_u (s_fieldAddr rfl rfl fa91_1 rfl) ?_
      refine g_u (s_load_imm rfl rfl rfl tA9 tS9 rfl rfl) ?_
      refine g_u (s_makeIface rfl rfl nI197) ?_
      refine g_u (s_as_imm rfl rfl) ?_
      refine g_nil ?_
      refine normal_thn ?_
      refine aw_ret ?_
      refine ret_blk ?_
      refine ret_thn ?_
      exact ⟨⟨(rfl : toAV (Al.look _ _) = some _).trans (congrArg some (by (simp only [beq_iff_eq, beq_eq_false_iff_ne, ne_eq, decide_eq_true_eq, decide_eq_false_iff_not] at *; unfold thingM; (repeat (first | rw [if_pos (by omega)] | rw [if_neg (by omega)])); (first | done | rfl)))), rfl⟩, trivial⟩
    · skip
      refine aw_seq ?_
      refine aw_region ?_
      refine g_u (s_eqI rfl rfl rfl) ?_
      refine g_u (s_as_imm rfl rfl) ?_
      refine g_nil ?_
      refine normal_thn ?_
      refine aw_cond rfl (fun hb3 => ?_) (fun hb3 => ?_)
      · skip
        refine aw_seq ?_
        refine aw_region ?_
        refine g_u (s_fieldAddr rfl rfl fa91_2 rfl) ?_
        refine g_u (s_load_imm rfl rfl rfl tA3 tS3 rfl rfl) ?_
        refine g_u (s_call1 (truth_c _) rfl rfl) ?_
        refine g_u (s_makeIface rfl rfl nI198) ?_
        refine g_u (s_as_imm rfl rfl) ?_
        refine g_nil ?_
        refine normal_thn ?_
        refine aw_ret ?_
        refine ret_blk ?_
        refine ret_thn ?_
        exact ⟨⟨(rfl : toAV (Al.look _ _) = some _).trans (congrArg some (by (simp only [beq_iff_eq, beq_eq_false_iff_ne, ne_eq, decide_eq_true_eq, decide_eq_false_iff_not] at *; unfold thingM; (repeat (first | rw [if_pos (by omega)] | rw [if_neg (by omega)])); (first | done | rfl)))), rfl⟩, trivial⟩
      · skip
        refine aw_seq ?_
        refine aw_region ?_
        refine g_u (s_eqI rfl rfl rfl) ?_
        refine g_u (s_as_imm rfl rfl) ?_
        refine g_nil ?_
        refine normal_thn ?_
        refine aw_cond rfl (fun hb4 => ?_) (fun hb4 => ?_)
        · skip
          refine aw_seq ?_
          refine aw_region ?_
          refine g_u (s_fieldAddr rfl rfl fa91_2 rfl) ?_
          refine g_u (s_load_imm rfl rfl rfl tA3 tS3 rfl rfl) ?_
          refine g_u (s_call1 (nil1 (n := 1) (dput_c [] _ ok.2.2.1 (by simp))) rfl rfl) ?_
          refine g_u (s_cvBS' (rfl) rfl rfl Tryz.underlying85 Tryz.underlying198 Tryz.underlying5) ?_
          refine g_u (s_makeIface rfl rfl nI198) ?_
          refine g_u (s_as_imm rfl rfl) ?_
          refine g_nil ?_
          refine normal_thn ?_
          refine aw_ret ?_
          refine ret_blk ?_
          refine ret_thn ?_
          exact ⟨⟨(rfl : toAV (Al.look _ _) = some _).trans (congrArg some (by (simp only [beq_iff_eq, beq_eq_false_iff_ne, ne_eq, decide_eq_true_eq, decide_eq_false_iff_not] at *; unfold thingM; (repeat (first | rw [if_pos (by omega)] | rw [if_neg (by omega)])); (first | done | rfl)))), rfl⟩, trivial⟩
        · skip
          refine aw_seq ?_
          refine aw_region ?_
          refine g_u (s_eqI rfl rfl rfl) ?_
          refine g_u (s_as_imm rfl rfl) ?_
          refine g_nil ?_
          refine normal_thn ?_
          refine aw_cond rfl (fun hb5 => ?_) (fun hb5 => ?_)
          · skip
            refine aw_seq ?_
            refine aw_region ?_
            refine g_u (s_fieldAddr rfl rfl fa91_3 rfl) ?_
            refine g_u (s_load_imm rfl rfl rfl tA45 tS45 rfl rfl) ?_
            refine g_u (s_call1 (double_c _ ok.2.2.2.1) rfl rfl) ?_
            refine g_u (s_makeIface rfl rfl nI197) ?_
            refine g_u (s_as_imm rfl rfl) ?_
            refine g_nil ?_
            refine normal_thn ?_
            refine aw_ret ?_
            refine ret_blk ?_
            refine ret_thn ?_
            exact ⟨⟨(rfl : toAV (Al.look _ _) = some _).trans (congrArg some (by (simp only [beq_iff_eq, beq_eq_false_iff_ne, ne_eq, decide_eq_true_eq, decide_eq_false_iff_not] at *; unfold thingM; (repeat (first | rw [if_pos (by omega)] | rw [if_neg (by omega)])); (first | done | rfl)))), rfl⟩, trivial⟩
          · skip
            refine aw_seq ?_
            refine aw_region ?_
            refine g_u (s_eqI rfl rfl rfl) ?_
            refine g_u (s_as_imm rfl rfl) ?_
            refine g_nil ?_
            refine normal_thn ?_
            refine aw_cond rfl (fun hb6 => ?_) (fun hb6 => ?_)
            · skip
              refine aw_seq ?_
              refine aw_region ?_
              refine g_u (s_fieldAddr rfl rfl fa91_1 rfl) ?_
              refine g_u (s_load_imm rfl rfl rfl tA9 tS9 rfl rfl) ?_
              refine g_u (s_call1 (htext_c _ (by omega)) rfl rfl) ?_
              refine g_u (s_makeIface rfl rfl nI197) ?_
              refine g_u (s_as_imm rfl rfl) ?_
              refine g_nil ?_
              refine normal_thn ?_
              refine aw_ret ?_
              refine ret_blk ?_
              refine ret_thn ?_
              exact ⟨⟨(rfl : toAV (Al.look _ _) = some _).trans (congrArg some (by (simp only [beq_iff_eq, beq_eq_false_iff_ne, ne_eq, decide_eq_true_eq, decide_eq_false_iff_not] at *; unfold thingM; (repeat (first | rw [if_pos (by omega)] | rw [if_neg (by omega)])); (first | done | rfl)))), rfl⟩, trivial⟩
            · skip
              refine aw_seq ?_
              refine aw_region ?_
              refine g_u (s_eqI rfl rfl rfl) ?_
              refine g_u (s_as_imm rfl rfl) ?_
              refine g_nil ?_
              refine normal_thn ?_
              refine aw_cond rfl (fun hb7 => ?_) (fun hb7 => ?_)
              · skip
                refine aw_seq ?_
                refine aw_region ?_
                refine g_u (s_fieldAddr rfl rfl fa91_4 rfl) ?_
                refine g_u (s_load_imm rfl rfl rfl tA89 tS89 rfl rfl) ?_
                refine g_u (s_makeIface rfl rfl nI239) ?_
                refine g_u (s_as_imm rfl rfl) ?_
                refine g_nil ?_
                refine normal_thn ?_
                refine aw_ret ?_
                refine ret_blk ?_
                refine ret_thn ?_
                exact ⟨⟨(rfl : toAV (Al.look _ _) = some _).trans (congrArg some (by (simp only [beq_iff_eq, beq_eq_false_iff_ne, ne_eq, decide_eq_true_eq, decide_eq_false_iff_not] at *; unfold thingM; (repeat (first | rw [if_pos (by omega)] | rw [if_neg (by omega)])); (first | done | rfl)))), rfl⟩, trivial⟩
              · skip
                refine aw_seq ?_
                refine aw_region ?_
                refine g_u (s_eqI rfl rfl rfl) ?_
                refine g_u (s_as_imm rfl rfl) ?_
                refine g_nil ?_
                refine normal_thn ?_
                refine aw_cond rfl (fun hb8 => ?_) (fun hb8 => ?_)
                · skip
                  refine aw_seq ?_
                  refine aw_region ?_
                  refine g_u (s_fieldAddr rfl rfl fa91_5 rfl) ?_
                  refine g_u (s_load_imm rfl rfl rfl tA46 tS46 rfl rfl) ?_
                  refine g_u (s_makeIface rfl rfl nI240) ?_
                  refine g_u (s_as_imm rfl rfl) ?_
                  refine g_nil ?_
                  refine normal_thn ?_
                  refine aw_ret ?_
                  refine ret_blk ?_
                  refine ret_thn ?_
                  exact ⟨⟨(rfl : toAV (Al.look _ _) = some _).trans (congrArg some (by (simp only [beq_iff_eq, beq_eq_false_iff_ne, ne_eq, decide_eq_true_eq, decide_eq_false_iff_not] at *; unfold thingM; (repeat (first | rw [if_pos (by omega)] | rw [if_neg (by omega)])); (first | done | rfl)))), rfl⟩, trivial⟩
                · skip
                  refine aw_skip ?_
                  refine normal_blk ?_
                  refine normal_thn ?_
                  refine aw_seq ?_
                  refine aw_region ?_
                  refine g_u (s_makeIface rfl rfl nI198) ?_
                  refine g_u (s_as_imm rfl rfl) ?_
                  refine g_nil ?_
                  refine normal_thn ?_
                  refine aw_ret ?_
                  exact ⟨⟨(rfl : toAV (Al.look _ _) = some _).trans (congrArg some (by (simp only [beq_iff_eq, beq_eq_false_iff_ne, ne_eq, decide_eq_true_eq, decide_eq_false_iff_not] at *; unfold thingM; (repeat (first | rw [if_pos (by omega)] | rw [if_neg (by omega)])); (first | done | rfl)))), rfl⟩, trivial⟩

theorem thing_p {v : GV} (h : v.kind ≠ 1 ∧ v.kind ≠ 4 ∧ v.kind ≠ 5 ∧ v.kind ≠ 6 ∧ v.kind ≠ 7) (c : PCall Tryz.prog Γ0 115 [v.av] [thingM v]) : PCall Tryz.prog Γ0 115 [v.av] [.ifc 198 (sv (strOf (jsonB v)))] := by
  have e : thingM v = .ifc 198 (sv (strOf (jsonB v))) := by
    unfold thingM
    by_cases h0 : v.kind = 0
    · rw [if_pos h0, json0 h0]
    · rw [if_neg h0, if_neg h.1, jsonE (by omega)]
      by_cases h2 : v.kind = 2
      · rw [if_pos h2]
        by_cases hn : v.num = 0
        · rw [simp2 h2 hn, truthB, if_pos hn]
        · rw [simp2' h2 hn, truthB, if_neg hn]
      · rw [if_neg h2]
        by_cases h3 : v.kind = 3
        · rw [if_pos h3, simp3 h3]
        · rw [if_neg h3, if_neg h.2.1, if_neg h.2.2.1, if_neg h.2.2.2.1, if_neg h.2.2.2.2, simp6 (by omega)]; rfl
  rw [← e]; exact c
theorem thing_q {v : GV} (h : v.kind = 1 ∨ v.kind = 4 ∨ v.kind = 5) (c : PCall Tryz.prog Γ0 115 [v.av] [thingM v]) : PCall Tryz.prog Γ0 115 [v.av] [.ifc 197 (sv (strOf (simpB v)))] := by
  have e : thingM v = .ifc 197 (sv (strOf (simpB v))) := by
    unfold thingM
    rcases h with h | h | h
    · rw [if_neg (by omega), if_pos h, simp1 h]
    · rw [if_neg (by omega), if_neg (by omega), if_neg (by omega), if_neg (by omega), if_pos h, simp4 h]
    · rw [if_neg (by omega), if_neg (by omega), if_neg (by omega), if_neg (by omega), if_neg (by omega), if_pos h, simp5 h]
  rw [← e]; exact c
theorem thing_l {v : GV} (h : v.kind = 6) (c : PCall Tryz.prog Γ0 115 [v.av] [thingM v]) : PCall Tryz.prog Γ0 115 [v.av] [.ifc 239 (.sl 6 (v.list.map avV))] := by
  have e : thingM v = .ifc 239 (.sl 6 (v.list.map avV)) := by
    unfold thingM
    rw [if_neg (by omega), if_neg (by omega), if_neg (by omega), if_neg (by omega), if_neg (by omega), if_neg (by omega), if_pos h]
  rw [← e]; exact c
theorem thing_m {v : GV} (h : v.kind = 7) (c : PCall Tryz.prog Γ0 115 [v.av] [thingM v]) : PCall Tryz.prog Γ0 115 [v.av] [.ifc 240 (.sl 7 (v.map.map avA))] := by
  have e : thingM v = .ifc 240 (.sl 7 (v.map.map avA)) := by
    unfold thingM
    rw [if_neg (by omega), if_neg (by omega), if_neg (by omega), if_neg (by omega), if_neg (by omega), if_neg (by omega), if_neg (by omega), if_pos h]
  rw [← e]; exact c

set_option maxHeartbeats 400000 in
theorem lay_p (v : GV) (ho : v.ok) (hw : v.wt ≤ 10000000) (xs : List AV) (hx : W1 xs) (hl : xs.length + 150 * v.wt ≤ 5000000000) (hk : v.kind ≠ 1 ∧ v.kind ≠ 4 ∧ v.kind ≠ 5 ∧ v.kind ≠ 6 ∧ v.kind ≠ 7) : MCall Tryz.prog Γ0 181 [.slg 100001 1 xs, .imm v.av] [(100001, .tok 1 xs)] (.slg 100001 1 (xs ++ bytesL (jsonB v))) [(100001, .tok 1 (xs ++ bytesL (jsonB v)))] := by
  have lv := len_wtVs v.list
  have la := len_wtAs v.map
  have ek := v.wt_eq
  have ok := v.ok_iff.1 ho
  have sl := simpB_length v
  have jl := json_len v
  have e0 : bytesL (strOf (jsonB v)).data.toList = bytesL (jsonB v) := by rw [strOf_list]
  refine mcall_of (rs := [.slg 100001 1 (xs ++ bytesL (jsonB v))]) Tryz.func181 rfl Tryz.ntmps181 (by kernel_rfl) rfl rfl rfl rfl rfl fun w0 I0 G0 E => ?_
  refine aw_seq ?_
  refine aw_region ?_
  refine g_uG (s_box_imm 1003 rfl rfl rfl rfl) rfl ?_
  refine g_u (s_as_imm rfl rfl) ?_
  refine g_nil ?_
  refine normal_thn ?_
  refine aw_seq ?_
  refine aw_seq ?_
  refine aw_region ?_
  refine g_u (s_load_imm rfl rfl rfl tA91 tS91 rfl rfl) ?_
  refine g_u (s_call1 (thing_p hk (thing_c v ho hw)) rfl rfl) ?_
  refine g_nil ?_
  refine normal_thn ?_
  refine aw_block ?_
  refine aw_seq ?_
  refine aw_region ?_
  refine g_u (s_assert_yes rfl rfl nI198) ?_
  refine g_u (s_extract rfl rfl rfl rfl) ?_
  refine g_u (s_extract rfl rfl rfl rfl) ?_
  refine g_nil ?_
  refine normal_thn ?_
  refine aw_cond_true rfl ?_
  refine aw_seq ?_
  refine aw_region ?_
  refine g_u (s_as_imm rfl rfl) ?_
  refine g_nil ?_
  refine normal_thn ?_
  refine aw_seq ?_
  refine aw_region ?_
  refine g_u (s_mv_slg rfl rfl) ?_
  refine g_u (s_mv_imm rfl rfl) ?_
  refine g_u (s_appendS rfl rfl rfl rfl rfl Tryz.underlying85 Tryz.underlying198 tS5 zv5 rfl by5 (by rw [strOf_size]; omega) (by rw [strOf_size]; omega)) ?_
  refine g_u (s_as_slg rfl rfl) ?_
  refine g_nil ?_
  refine normal_thn ?_
  refine aw_ret ?_
  refine ret_blk ?_
  refine ret_thn ?_
  exact ⟨⟨.inr ⟨_, rfl, look_slg rfl (by rw [e0]), rfl⟩, trivial⟩, ⟨look_tok rfl (by rw [e0]), trivial⟩⟩

set_option maxHeartbeats 400000 in
theorem lay_q (v : GV) (ho : v.ok) (hw : v.wt ≤ 10000000) (xs : List AV) (hx : W1 xs) (hl : xs.length + 150 * v.wt ≤ 5000000000) (hk : v.kind = 1 ∨ v.kind = 4 ∨ v.kind = 5) : MCall Tryz.prog Γ0 181 [.slg 100001 1 xs, .imm v.av] [(100001, .tok 1 xs)] (.slg 100001 1 (xs ++ bytesL (jsonB v))) [(100001, .tok 1 (xs ++ bytesL (jsonB v)))] := by
  have lv := len_wtVs v.list
  have la := len_wtAs v.map
  have ek := v.wt_eq
  have ok := v.ok_iff.1 ho
  have sl := simpB_length v
  have jl := json_len v
  refine mcall_of (rs := [.slg 100001 1 (xs ++ bytesL (jsonB v))]) Tryz.func181 rfl Tryz.ntmps181 (by kernel_rfl) rfl rfl rfl rfl rfl fun w0 I0 G0 E => ?_
  refine aw_seq ?_
  refine aw_region ?_
  refine g_uG (s_box_imm 1003 rfl rfl rfl rfl) rfl ?_
  refine g_u (s_as_imm rfl rfl) ?_
  refine g_nil ?_
  refine normal_thn ?_
  refine aw_seq ?_
  refine aw_seq ?_
  refine aw_region ?_
  refine g_u (s_load_imm rfl rfl rfl tA91 tS91 rfl rfl) ?_
  refine g_u (s_call1 (thing_q hk (thing_c v ho hw)) rfl rfl) ?_
  refine g_nil ?_
  refine normal_thn ?_
  refine aw_block ?_
  refine aw_seq ?_
  refine aw_region ?_
  refine g_u (s_assert_no rfl rfl nI198 tZ198 (fun z h => by rw [zv198] at h; cases h; rfl) rfl) ?_
  refine g_u (s_extract rfl rfl rfl rfl) ?_
  refine g_u (s_extract rfl rfl rfl rfl) ?_
  refine g_nil ?_
  refine normal_thn ?_
  refine aw_cond_false rfl ?_
  refine aw_seq ?_
  refine aw_region ?_
  refine g_u (s_assert_yes rfl rfl nI197) ?_
  refine g_u (s_extract rfl rfl rfl rfl) ?_
  refine g_u (s_extract rfl rfl rfl rfl) ?_
  refine g_nil ?_
  refine normal_thn ?_
  refine aw_cond_true rfl ?_
  refine aw_seq ?_
  refine aw_region ?_
  refine g_u (s_as_imm rfl rfl) ?_
  refine g_nil ?_
  refine normal_thn ?_
  refine aw_seq ?_
  refine aw_region ?_
  refine g_u (s_mv_slg rfl rfl) ?_
  refine g_u (s_mv_imm rfl rfl) ?_
  refine g_uG (s_mcall [(3014, 20001)] (jput_c _ _ hx (by rw [strOf_size]; omega) (by omega)) rfl rfl ⟨.inr ⟨_, rfl, rfl⟩, .inl rfl, trivial⟩ trivial rfl rfl rfl) rfl ?_
  refine g_u (s_as_slg rfl rfl) ?_
  refine g_nil ?_
  refine normal_thn ?_
  refine aw_renTok 20001 100001 1 (xs ++ bytesL (quoteB (lst (strOf (simpB v))))) [(4, .slg 100001 1 (xs ++ bytesL (quoteB (lst (strOf (simpB v))))))] rfl rfl rfl rfl rfl rfl ⟨.inr (.inl ⟨rfl, rfl⟩), trivial⟩ (by rw [List.length_append, bytesL_len]; simp only [quoteB, List.length_cons]; omega) ?_
  refine aw_ret ?_
  refine ret_blk ?_
  refine ret_thn ?_
  exact ⟨⟨.inr ⟨_, rfl, look_slg rfl (by rw [jsonS hk, lst_strOf]), rfl⟩, trivial⟩, ⟨look_tok rfl (by rw [jsonS hk, lst_strOf]), trivial⟩⟩

theorem bytesL_cons (c : UInt8) (l : Bs) : bytesL (c :: l) = .v (byteV c) :: bytesL l := rfl
theorem bytesL_nil : bytesL [] = [] := rfl
theorem W1.app {a b : List AV} (h : W1 a) (k : W1 b) : W1 (a ++ b) := fun x hx => (List.mem_append.1 hx).elim (h x) (k x)

set_option maxHeartbeats 400000 in
theorem lay_l (v : GV) (ho : v.ok) (hw : v.wt ≤ 10000000) (xs : List AV) (hx : W1 xs) (hl : xs.length + 150 * v.wt ≤ 5000000000) (hk : v.kind = 6) (ih : ∀ y ∈ v.list, ∀ xs : List AV, W1 xs → xs.length + 150 * y.wt ≤ 5000000000 → MCall Tryz.prog Γ0 181 [.slg 100001 1 xs, .imm y.av] [(100001, .tok 1 xs)] (.slg 100001 1 (xs ++ bytesL (jsonB y))) [(100001, .tok 1 (xs ++ bytesL (jsonB y)))]) : MCall Tryz.prog Γ0 181 [.slg 100001 1 xs, .imm v.av] [(100001, .tok 1 xs)] (.slg 100001 1 (xs ++ bytesL (jsonB v))) [(100001, .tok 1 (xs ++ bytesL (jsonB v)))] := by
  have lv := len_wtVs v.list
  have la := len_wtAs v.map
  have ek := v.wt_eq
  have ok := v.ok_iff.1 ho
  have sl := simpB_length v
  have jl := json_len v
  refine mcall_of (rs := [.slg 100001 1 (xs ++ bytesL (jsonB v))]) Tryz.func181 rfl Tryz.ntmps181 (by kernel_rfl) rfl rfl rfl rfl rfl fun w0 I0 G0 E => ?_
  refine aw_seq ?_
  refine aw_region ?_
  refine g_uG (s_box_imm 1003 rfl rfl rfl rfl) rfl ?_
  refine g_u (s_as_imm rfl rfl) ?_
  refine g_nil ?_
  refine normal_thn ?_
  refine aw_seq ?_
  refine aw_seq ?_
  refine aw_region ?_
  refine g_u (s_load_imm rfl rfl rfl tA91 tS91 rfl rfl) ?_
  refine g_u (s_call1 (thing_l hk (thing_c v ho hw)) rfl rfl) ?_
  refine g_nil ?_
  refine normal_thn ?_
  refine aw_block ?_
  refine aw_seq ?_
  refine aw_region ?_
  refine g_u (s_assert_no rfl rfl nI198 tZ198 (fun z h => by rw [zv198] at h; cases h; rfl) rfl) ?_
  refine g_u (s_extract rfl rfl rfl rfl) ?_
  refine g_u (s_extract rfl rfl rfl rfl) ?_
  refine g_nil ?_
  refine normal_thn ?_
  refine aw_cond_false rfl ?_
  refine aw_seq ?_
  refine aw_region ?_
  refine g_u (s_assert_no rfl rfl nI197 tZ197 (fun z h => by rw [zv197] at h; cases h; rfl) rfl) ?_
  refine g_u (s_extract rfl rfl rfl rfl) ?_
  refine g_u (s_extract rfl rfl rfl rfl) ?_
  refine g_nil ?_
  refine normal_thn ?_
  refine aw_cond_false rfl ?_
  refine aw_seq ?_
  refine aw_region ?_
  refine g_u (s_assert_yes rfl rfl nI239) ?_
  refine g_u (s_extract rfl rfl rfl rfl) ?_
  refine g_u (s_extract rfl rfl rfl rfl) ?_
  refine g_nil ?_
  refine normal_thn ?_
  refine aw_cond_true rfl ?_
  refine aw_seq ?_
  refine aw_region ?_
  refine g_u (s_as_imm rfl rfl) ?_
  refine g_nil ?_
  refine normal_thn ?_
  refine aw_seq ?_
  refine aw_region ?_
  refine g_u (s_mv_slg rfl rfl) ?_
  refine g_u (s_buildSlice (X0 := z5) rfl Tryz.underlying85 tS5 tZ5 rfl rfl rfl rfl rfl rfl rfl rfl) ?_
  refine g_u (s_append rfl rfl rfl rfl rfl Tryz.underlying85 Tryz.underlying85 tS5 zv5 rfl (by decide) by5 (by (try dsimp only); simp only [List.length_append, List.length_cons, List.length_nil]; omega) (by (try dsimp only); simp only [List.length_append, List.length_cons, List.length_nil]; omega)) ?_
  refine g_u (s_as_slg rfl rfl) ?_
  refine g_nil ?_
  refine normal_thn ?_
  refine aw_seq ?_
  refine aw_seq ?_
  refine aw_region ?_
  refine g_u (s_mv_imm rfl rfl) ?_
  refine g_u (s_lenL rfl rfl Tryz.underlying239) ?_
  refine g_u (s_mv_imm rfl rfl) ?_
  refine g_nil ?_
  refine normal_thn ?_
  refine aw_block ?_
  refine aw_loop' (fun j : Nat × List AV => [(0, .slg 100001 1 j.2), (100001, .tok 1 j.2), (33, .imm (.sl 6 (v.list.map avV))), (34, .imm (iv (v.list.length : Int))), (35, .imm (iv (j.1 : Int)))]) (fun j => j.1 ≤ v.list.length ∧ j.2 = xs ++ bytesL (91 :: jsonVs true (v.list.take j.1))) (fun j => v.list.length - j.1) (⟨0, xs ++ bytesL [91]⟩) ?_ ⟨rfl, rfl, rfl, look_int rfl (by rw [List.length_map]), rfl, trivial⟩ ?_
  · exact ⟨Nat.zero_le _, rfl⟩
  · rintro ⟨i, ys⟩ ⟨h1, h2⟩; dsimp only at h1 h2; have hlen : ys.length ≤ xs.length + 1 + 150 * wtVs (v.list.take i) := by have := jsonVs_len (v.list.take i) true; rw [h2, List.length_append, bytesL_len, List.length_cons]; omega
    have hwy : W1 ys := by rw [h2]; exact hx.app (W1.bytes _)
    have htk := wtVs_take v.list i
    refine aw_seq ?_
    refine aw_region ?_
    refine g_u (s_ltI rfl rfl rfl) ?_
    refine g_nil ?_
    refine normal_thn ?_
    refine aw_seq ?_
    refine aw_cond rfl (fun hb1 => ?_) (fun hb1 => ?_)
    · skip
      have hiv : i < v.list.length := by have := of_decide_eq_true hb1; simp only [List.length_map] at this; omega
      refine aw_skip ?_
      refine normal_thn ?_
      refine aw_seq ?_
      refine aw_block ?_
      refine aw_seq ?_
      refine aw_region ?_
      refine g_u (s_mv_imm rfl rfl) ?_
      refine g_u (s_indexAddr rfl rfl rfl Tryz.underlying239 tS91 (by omega) (ixV hiv)) ?_
      refine g_u (s_load_cp rfl rfl tA91 tS91 rfl rfl) ?_
      refine g_uG (s_alloc' 1009 rfl rfl rfl tZ91) rfl ?_
      refine g_u (s_as_imm rfl rfl) ?_
      refine g_u (s_store_imm rfl rfl rfl tS91 rfl rfl) ?_
      refine g_nil ?_
      refine normal_thn ?_
      refine aw_seq ?_
      refine aw_seq ?_
      refine aw_region ?_
      refine g_u (s_mv_imm rfl rfl) ?_
      refine g_u (s_gtI rfl rfl rfl) ?_
      refine g_nil ?_
      refine normal_thn ?_
      refine aw_cond rfl (fun hb2 => ?_) (fun hb2 => ?_)
      · skip
        have hc : comma (i == 0) = [44] := by have hp : i ≠ 0 := (by have := of_decide_eq_true hb2; omega); rw [show (i == 0) = false from by simpa using hp]; rfl
        refine aw_region ?_
        refine g_u (s_mv_slg rfl rfl) ?_
        refine g_u (s_buildSlice (X0 := z5) rfl Tryz.underlying85 tS5 tZ5 rfl rfl rfl rfl rfl rfl rfl rfl) ?_
        refine g_u (s_append rfl rfl rfl rfl rfl Tryz.underlying85 Tryz.underlying85 tS5 zv5 rfl (by decide) by5 (by (try dsimp only); simp only [List.length_append, List.length_cons, List.length_nil]; omega) (by (try dsimp only); simp only [List.length_append, List.length_cons, List.length_nil]; omega)) ?_
        refine g_u (s_as_slg rfl rfl) ?_
        refine g_nil ?_
        refine normal_thn ?_
        refine aw_region ?_
        refine g_u (s_mv_slg rfl rfl) ?_
        refine g_u (s_load_agg rfl rfl rfl tA91 tS91 rfl rfl) ?_
        refine g_uG (s_mcall [(100001, 100001)] (ih _ (nthV_mem hiv) _ (by first | exact hwy | exact hwy.app (W1.bytes [44])) (by have q1 := wtVs_nth hiv; (try simp only [List.length_append, List.length_cons, List.length_nil]); omega)) rfl rfl ⟨.inl rfl, .inl rfl, trivial⟩ ⟨rfl, trivial⟩ rfl rfl rfl) rfl ?_
        refine g_u (s_as_slg rfl rfl) ?_
        refine g_nil ?_
        refine normal_blk ?_
        refine normal_thn ?_
        refine aw_region ?_
        refine g_u (s_add rfl rfl rfl) ?_
        refine g_u (s_mv_imm rfl rfl) ?_
        refine g_nil ?_
        refine normal_thn ?_
        refine ⟨⟨i + 1, _⟩, ⟨hiv, ?_⟩, ⟨rfl, rfl, rfl, rfl, look_int rfl (by rw [wrap64 (by omega) (by omega)]; rfl), trivial⟩, by dsimp only; omega⟩
        dsimp only
        rw [jsonVs_take hiv, hc]
        subst h2
        simp only [List.append_assoc, List.cons_append, List.nil_append, ← bytesL_app, bytesL_cons, bytesL_nil, strOf_list, lst_strOf]
        try rfl
      · skip
        have hc : comma (i == 0) = [] := by have hp : i = 0 := (by have := of_decide_eq_false hb2; omega); rw [hp]; rfl
        refine aw_skip ?_
        refine normal_thn ?_
        refine aw_region ?_
        refine g_u (s_mv_slg rfl rfl) ?_
        refine g_u (s_load_agg rfl rfl rfl tA91 tS91 rfl rfl) ?_
        refine g_uG (s_mcall [(100001, 100001)] (ih _ (nthV_mem hiv) _ (by first | exact hwy | exact hwy.app (W1.bytes [44])) (by have q1 := wtVs_nth hiv; (try simp only [List.length_append, List.length_cons, List.length_nil]); omega)) rfl rfl ⟨.inl rfl, .inl rfl, trivial⟩ ⟨rfl, trivial⟩ rfl rfl rfl) rfl ?_
        refine g_u (s_as_slg rfl rfl) ?_
        refine g_nil ?_
        refine normal_blk ?_
        refine normal_thn ?_
        refine aw_region ?_
        refine g_u (s_add rfl rfl rfl) ?_
        refine g_u (s_mv_imm rfl rfl) ?_
        refine g_nil ?_
        refine normal_thn ?_
        refine ⟨⟨i + 1, _⟩, ⟨hiv, ?_⟩, ⟨rfl, rfl, rfl, rfl, look_int rfl (by rw [wrap64 (by omega) (by omega)]; rfl), trivial⟩, by dsimp only; omega⟩
        dsimp only
        rw [jsonVs_take hiv, hc]
        subst h2
        simp only [List.append_assoc, List.cons_append, List.nil_append, ← bytesL_app, bytesL_cons, bytesL_nil, strOf_list, lst_strOf]
        try rfl
    · skip
      have hi : i = v.list.length := by have := of_decide_eq_false hb1; simp only [List.length_map] at this; omega
      refine aw_exit ?_
      refine exit_thn ?_
      refine exit_thn ?_
      refine exit_blk ?_
      refine normal_thn ?_
      refine aw_seq ?_
      refine aw_region ?_
      refine g_u (s_mv_slg rfl rfl) ?_
      refine g_u (s_buildSlice (X0 := z5) rfl Tryz.underlying85 tS5 tZ5 rfl rfl rfl rfl rfl rfl rfl rfl) ?_
      refine g_u (s_append rfl rfl rfl rfl rfl Tryz.underlying85 Tryz.underlying85 tS5 zv5 rfl (by decide) by5 (by (try dsimp only); simp only [List.length_append, List.length_cons, List.length_nil]; omega) (by (try dsimp only); simp only [List.length_append, List.length_cons, List.length_nil]; omega)) ?_
      refine g_u (s_as_slg rfl rfl) ?_
      refine g_nil ?_
      refine normal_thn ?_
      refine aw_ret ?_
      refine ret_blk ?_
      refine ret_thn ?_
      exact ⟨⟨.inr ⟨_, rfl, look_slg rfl (by rw [json6 hk, h2, hi, List.take_of_length_le (Nat.le_refl _), List.append_assoc]; exact congrArg (xs ++ ·) (bytesL_app _ [93])), rfl⟩, trivial⟩, ⟨look_tok rfl (by rw [json6 hk, h2, hi, List.take_of_length_le (Nat.le_refl _), List.append_assoc]; exact congrArg (xs ++ ·) (bytesL_app _ [93])), trivial⟩⟩

set_option maxHeartbeats 400000 in
theorem lay_m (v : GV) (ho : v.ok) (hw : v.wt ≤ 10000000) (xs : List AV) (hx : W1 xs) (hl : xs.length + 150 * v.wt ≤ 5000000000) (hk : v.kind = 7) (ih : ∀ a ∈ v.map, ∀ xs : List AV, W1 xs → xs.length + 150 * a.val.wt ≤ 5000000000 → MCall Tryz.prog Γ0 181 [.slg 100001 1 xs, .imm a.val.av] [(100001, .tok 1 xs)] (.slg 100001 1 (xs ++ bytesL (jsonB a.val))) [(100001, .tok 1 (xs ++ bytesL (jsonB a.val)))]) : MCall Tryz.prog Γ0 181 [.slg 100001 1 xs, .imm v.av] [(100001, .tok 1 xs)] (.slg 100001 1 (xs ++ bytesL (jsonB v))) [(100001, .tok 1 (xs ++ bytesL (jsonB v)))] := by
  have lv := len_wtVs v.list
  have la := len_wtAs v.map
  have ek := v.wt_eq
  have ok := v.ok_iff.1 ho
  have sl := simpB_length v
  have jl := json_len v
  refine mcall_of (rs := [.slg 100001 1 (xs ++ bytesL (jsonB v))]) Tryz.func181 rfl Tryz.ntmps181 (by kernel_rfl) rfl rfl rfl rfl rfl fun w0 I0 G0 E => ?_
  refine aw_seq ?_
  refine aw_region ?_
  refine g_uG (s_box_imm 1003 rfl rfl rfl rfl) rfl ?_
  refine g_u (s_as_imm rfl rfl) ?_
  refine g_nil ?_
  refine normal_thn ?_
  refine aw_seq ?_
  refine aw_seq ?_
  refine aw_region ?_
  refine g_u (s_load_imm rfl rfl rfl tA91 tS91 rfl rfl) ?_
  refine g_u (s_call1 (thing_m hk (thing_c v ho hw)) rfl rfl) ?_
  refine g_nil ?_
  refine normal_thn ?_
  refine aw_block ?_
  refine aw_seq ?_
  refine aw_region ?_
  refine g_u (s_assert_no rfl rfl nI198 tZ198 (fun z h => by rw [zv198] at h; cases h; rfl) rfl) ?_
  refine g_u (s_extract rfl rfl rfl rfl) ?_
  refine g_u (s_extract rfl rfl rfl rfl) ?_
  refine g_nil ?_
  refine normal_thn ?_
  refine aw_cond_false rfl ?_
  refine aw_seq ?_
  refine aw_region ?_
  refine g_u (s_assert_no rfl rfl nI197 tZ197 (fun z h => by rw [zv197] at h; cases h; rfl) rfl) ?_
  refine g_u (s_extract rfl rfl rfl rfl) ?_
  refine g_u (s_extract rfl rfl rfl rfl) ?_
  refine g_nil ?_
  refine normal_thn ?_
  refine aw_cond_false rfl ?_
  refine aw_seq ?_
  refine aw_region ?_
  refine g_u (s_assert_no rfl rfl nI239 tZ239 (fun z h => by rw [zv239] at h; cases h; rfl) rfl) ?_
  refine g_u (s_extract rfl rfl rfl rfl) ?_
  refine g_u (s_extract rfl rfl rfl rfl) ?_
  refine g_nil ?_
  refine normal_thn ?_
  refine aw_cond_false rfl ?_
  refine aw_seq ?_
  refine aw_region ?_
  refine g_u (s_assert_yes rfl rfl nI240) ?_
  refine g_u (s_extract rfl rfl rfl rfl) ?_
  refine g_u (s_extract rfl rfl rfl rfl) ?_
  refine g_nil ?_
  refine normal_thn ?_
  refine aw_cond_true rfl ?_
  refine aw_seq ?_
  refine aw_region ?_
  refine g_u (s_as_imm rfl rfl) ?_
  refine g_nil ?_
  refine normal_thn ?_
  refine aw_seq ?_
  refine aw_region ?_
  refine g_u (s_mv_slg rfl rfl) ?_
  refine g_u (s_buildSlice (X0 := z5) rfl Tryz.underlying85 tS5 tZ5 rfl rfl rfl rfl rfl rfl rfl rfl) ?_
  refine g_u (s_append rfl rfl rfl rfl rfl Tryz.underlying85 Tryz.underlying85 tS5 zv5 rfl (by decide) by5 (by (try dsimp only); (try (have q1 := wtAs_nth hia; have q2 := (nthA v.map i).wt_eq; have q3 := quoteB_length (lst (nthA v.map i).key); have q4 := lst_len (nthA v.map i).key)); (try simp only [List.length_append, List.length_cons, List.length_nil, bytesL_len]); omega) (by (try dsimp only); (try (have q1 := wtAs_nth hia; have q2 := (nthA v.map i).wt_eq; have q3 := quoteB_length (lst (nthA v.map i).key); have q4 := lst_len (nthA v.map i).key)); (try simp only [List.length_append, List.length_cons, List.length_nil, bytesL_len]); omega)) ?_
  refine g_u (s_as_slg rfl rfl) ?_
  refine g_nil ?_
  refine normal_thn ?_
  refine aw_seq ?_
  refine aw_seq ?_
  refine aw_region ?_
  refine g_u (s_mv_imm rfl rfl) ?_
  refine g_u (s_lenL rfl rfl Tryz.underlying240) ?_
  refine g_u (s_mv_imm rfl rfl) ?_
  refine g_nil ?_
  refine normal_thn ?_
  refine aw_block ?_
  refine aw_loop' (fun j : Nat × List AV => [(0, .slg 100001 1 j.2), (100001, .tok 1 j.2), (58, .imm (.sl 7 (v.map.map avA))), (59, .imm (iv (v.map.length : Int))), (60, .imm (iv (j.1 : Int)))]) (fun j => j.1 ≤ v.map.length ∧ j.2 = xs ++ bytesL (123 :: jsonAs true (v.map.take j.1))) (fun j => v.map.length - j.1) (⟨0, xs ++ bytesL [123]⟩) ?_ ⟨rfl, rfl, rfl, look_int rfl (by rw [List.length_map]), rfl, trivial⟩ ?_
  · exact ⟨Nat.zero_le _, rfl⟩
  · rintro ⟨i, ys⟩ ⟨h1, h2⟩; dsimp only at h1 h2; have hlen : ys.length ≤ xs.length + 1 + 150 * wtAs (v.map.take i) := by have := jsonAs_len (v.map.take i) true; rw [h2, List.length_append, bytesL_len, List.length_cons]; omega
    have hwy : W1 ys := by rw [h2]; exact hx.app (W1.bytes _)
    have htk := wtAs_take v.map i
    refine aw_seq ?_
    refine aw_region ?_
    refine g_u (s_ltI rfl rfl rfl) ?_
    refine g_nil ?_
    refine normal_thn ?_
    refine aw_seq ?_
    refine aw_cond rfl (fun hb1 => ?_) (fun hb1 => ?_)
    · skip
      have hia : i < v.map.length := by have := of_decide_eq_true hb1; simp only [List.length_map] at this; omega
      have hka : (nthA v.map i).key.size ≤ 10000000000 := by have q1 := wtAs_nth hia; have q4 := (nthA v.map i).wt_eq; omega
      refine aw_skip ?_
      refine normal_thn ?_
      refine aw_seq ?_
      refine aw_block ?_
      refine aw_seq ?_
      refine aw_region ?_
      refine g_u (s_mv_imm rfl rfl) ?_
      refine g_u (s_indexAddr rfl rfl rfl Tryz.underlying240 tS93 (by omega) (ixA hia)) ?_
      refine g_u (s_load_cp rfl rfl tA93 tS93 rfl rfl) ?_
      refine g_uG (s_alloc' 1012 rfl rfl rfl tZ93) rfl ?_
      refine g_u (s_as_imm rfl rfl) ?_
      refine g_u (s_store_imm rfl rfl rfl tS93 rfl rfl) ?_
      refine g_nil ?_
      refine normal_thn ?_
      refine aw_seq ?_
      refine aw_seq ?_
      refine aw_region ?_
      refine g_u (s_mv_imm rfl rfl) ?_
      refine g_u (s_gtI rfl rfl rfl) ?_
      refine g_nil ?_
      refine normal_thn ?_
      refine aw_cond rfl (fun hb2 => ?_) (fun hb2 => ?_)
      · skip
        have hc : comma (i == 0) = [44] := by have hp : i ≠ 0 := (by have := of_decide_eq_true hb2; omega); rw [show (i == 0) = false from by simpa using hp]; rfl
        refine aw_region ?_
        refine g_u (s_mv_slg rfl rfl) ?_
        refine g_u (s_buildSlice (X0 := z5) rfl Tryz.underlying85 tS5 tZ5 rfl rfl rfl rfl rfl rfl rfl rfl) ?_
        refine g_u (s_append rfl rfl rfl rfl rfl Tryz.underlying85 Tryz.underlying85 tS5 zv5 rfl (by decide) by5 (by (try dsimp only); (try (have q1 := wtAs_nth hia; have q2 := (nthA v.map i).wt_eq; have q3 := quoteB_length (lst (nthA v.map i).key); have q4 := lst_len (nthA v.map i).key)); (try simp only [List.length_append, List.length_cons, List.length_nil, bytesL_len]); omega) (by (try dsimp only); (try (have q1 := wtAs_nth hia; have q2 := (nthA v.map i).wt_eq; have q3 := quoteB_length (lst (nthA v.map i).key); have q4 := lst_len (nthA v.map i).key)); (try simp only [List.length_append, List.length_cons, List.length_nil, bytesL_len]); omega)) ?_
        refine g_u (s_as_slg rfl rfl) ?_
        refine g_nil ?_
        refine normal_thn ?_
        refine aw_draw mixed ?_
        refine g_u (s_mv_slg rfl rfl) ?_
        refine g_u (s_fieldAddr rfl rfl fa93_0 rfl) ?_
        refine g_u (s_load_imm rfl rfl rfl tA9 tS9 rfl rfl) ?_
        refine g_uG (s_mcall [(3014, 20001)] (jput_c _ _ (by first | exact hwy | exact hwy.app (W1.bytes [44])) hka (by have q1 := wtAs_nth hia; have q2 := (nthA v.map i).wt_eq; have q3 := quoteB_length (lst (nthA v.map i).key); have q4 := lst_len (nthA v.map i).key; (try simp only [List.length_append, List.length_cons, List.length_nil, bytesL_len]); omega)) rfl rfl ⟨.inr ⟨_, rfl, rfl⟩, .inl rfl, trivial⟩ trivial rfl rfl rfl) rfl ?_
        refine g_u (s_buildSlice (X0 := z5) rfl Tryz.underlying85 tS5 tZ5 rfl rfl rfl rfl rfl rfl rfl rfl) ?_
        refine g_u (s_append rfl rfl rfl rfl rfl Tryz.underlying85 Tryz.underlying85 tS5 zv5 rfl (by decide) by5 (by (try dsimp only); (try (have q1 := wtAs_nth hia; have q2 := (nthA v.map i).wt_eq; have q3 := quoteB_length (lst (nthA v.map i).key); have q4 := lst_len (nthA v.map i).key)); (try simp only [List.length_append, List.length_cons, List.length_nil, bytesL_len]); omega) (by (try dsimp only); (try (have q1 := wtAs_nth hia; have q2 := (nthA v.map i).wt_eq; have q3 := quoteB_length (lst (nthA v.map i).key); have q4 := lst_len (nthA v.map i).key)); (try simp only [List.length_append, List.length_cons, List.length_nil, bytesL_len]); omega)) ?_
        refine g_u (s_fieldAddr rfl rfl fa93_1 rfl) ?_
        refine g_u (s_load_imm rfl rfl rfl tA91 tS91 rfl rfl) ?_
        refine g_uG (s_mcall [(100001, 20001)] (ih _ (nthA_mem hia) _ (by first | exact ((hwy.app (W1.bytes _)).app (W1.bytes [58])) | exact (((hwy.app (W1.bytes [44])).app (W1.bytes _)).app (W1.bytes [58]))) (by show _ + 150 * (nthA v.map i).val.wt ≤ 5000000000; have q1 := wtAs_nth hia; have q2 := (nthA v.map i).wt_eq; have q3 := quoteB_length (lst (nthA v.map i).key); have q4 := lst_len (nthA v.map i).key; (try simp only [List.length_append, List.length_cons, List.length_nil, bytesL_len]); omega)) rfl rfl ⟨.inl rfl, .inl rfl, trivial⟩ ⟨rfl, trivial⟩ rfl rfl rfl) rfl ?_
        refine g_u (s_as_slg rfl rfl) ?_
        refine g_nil ⟨by kernel_rfl, ?_⟩
        refine normal_blk ?_
        refine normal_thn ?_
        refine aw_renTok 20001 100001 1 _ [(0, .slg 100001 1 _), (58, .imm (.sl 7 (v.map.map avA))), (59, .imm (iv (v.map.length : Int))), (60, .imm (iv (i : Int)))] rfl rfl rfl rfl rfl rfl ⟨.inr (.inl ⟨rfl, rfl⟩), .inl ⟨rfl, rfl⟩, .inl ⟨rfl, rfl⟩, .inl ⟨rfl, rfl⟩, trivial⟩ (by simp only [List.length_append, List.length_cons, List.length_nil, bytesL_len]; omega) ?_
        refine aw_region ?_
        refine g_u (s_add rfl rfl rfl) ?_
        refine g_u (s_mv_imm rfl rfl) ?_
        refine g_nil ?_
        refine normal_thn ?_
        refine ⟨⟨i + 1, _⟩, ⟨hia, ?_⟩, ⟨rfl, rfl, rfl, rfl, look_int rfl (by rw [wrap64 (by omega) (by omega)]; rfl), trivial⟩, by dsimp only; omega⟩
        dsimp only
        rw [jsonAs_take hia, hc, jsonA_eq]
        subst h2
        simp only [List.append_assoc, List.cons_append, List.nil_append, ← bytesL_app, bytesL_cons, bytesL_nil, strOf_list, lst_strOf]
        try rfl
      · skip
        have hc : comma (i == 0) = [] := by have hp : i = 0 := (by have := of_decide_eq_false hb2; omega); rw [hp]; rfl
        refine aw_skip ?_
        refine normal_thn ?_
        refine aw_draw mixed ?_
        refine g_u (s_mv_slg rfl rfl) ?_
        refine g_u (s_fieldAddr rfl rfl fa93_0 rfl) ?_
        refine g_u (s_load_imm rfl rfl rfl tA9 tS9 rfl rfl) ?_
        refine g_uG (s_mcall [(3014, 20002)] (jput_c _ _ (by first | exact hwy | exact hwy.app (W1.bytes [44])) hka (by have q1 := wtAs_nth hia; have q2 := (nthA v.map i).wt_eq; have q3 := quoteB_length (lst (nthA v.map i).key); have q4 := lst_len (nthA v.map i).key; (try simp only [List.length_append, List.length_cons, List.length_nil, bytesL_len]); omega)) rfl rfl ⟨.inr ⟨_, rfl, rfl⟩, .inl rfl, trivial⟩ trivial rfl rfl rfl) rfl ?_
        refine g_u (s_buildSlice (X0 := z5) rfl Tryz.underlying85 tS5 tZ5 rfl rfl rfl rfl rfl rfl rfl rfl) ?_
        refine g_u (s_append rfl rfl rfl rfl rfl Tryz.underlying85 Tryz.underlying85 tS5 zv5 rfl (by decide) by5 (by (try dsimp only); (try (have q1 := wtAs_nth hia; have q2 := (nthA v.map i).wt_eq; have q3 := quoteB_length (lst (nthA v.map i).key); have q4 := lst_len (nthA v.map i).key)); (try simp only [List.length_append, List.length_cons, List.length_nil, bytesL_len]); omega) (by (try dsimp only); (try (have q1 := wtAs_nth hia; have q2 := (nthA v.map i).wt_eq; have q3 := quoteB_length (lst (nthA v.map i).key); have q4 := lst_len (nthA v.map i).key)); (try simp only [List.length_append, List.length_cons, List.length_nil, bytesL_len]); omega)) ?_
        refine g_u (s_fieldAddr rfl rfl fa93_1 rfl) ?_
        refine g_u (s_load_imm rfl rfl rfl tA91 tS91 rfl rfl) ?_
        refine g_uG (s_mcall [(100001, 20002)] (ih _ (nthA_mem hia) _ (by first | exact ((hwy.app (W1.bytes _)).app (W1.bytes [58])) | exact (((hwy.app (W1.bytes [44])).app (W1.bytes _)).app (W1.bytes [58]))) (by show _ + 150 * (nthA v.map i).val.wt ≤ 5000000000; have q1 := wtAs_nth hia; have q2 := (nthA v.map i).wt_eq; have q3 := quoteB_length (lst (nthA v.map i).key); have q4 := lst_len (nthA v.map i).key; (try simp only [List.length_append, List.length_cons, List.length_nil, bytesL_len]); omega)) rfl rfl ⟨.inl rfl, .inl rfl, trivial⟩ ⟨rfl, trivial⟩ rfl rfl rfl) rfl ?_
        refine g_u (s_as_slg rfl rfl) ?_
        refine g_nil ⟨by kernel_rfl, ?_⟩
        refine normal_blk ?_
        refine normal_thn ?_
        refine aw_renTok 20002 100001 1 _ [(0, .slg 100001 1 _), (58, .imm (.sl 7 (v.map.map avA))), (59, .imm (iv (v.map.length : Int))), (60, .imm (iv (i : Int)))] rfl rfl rfl rfl rfl rfl ⟨.inr (.inl ⟨rfl, rfl⟩), .inl ⟨rfl, rfl⟩, .inl ⟨rfl, rfl⟩, .inl ⟨rfl, rfl⟩, trivial⟩ (by simp only [List.length_append, List.length_cons, List.length_nil, bytesL_len]; omega) ?_
        refine aw_region ?_
        refine g_u (s_add rfl rfl rfl) ?_
        refine g_u (s_mv_imm rfl rfl) ?_
        refine g_nil ?_
        refine normal_thn ?_
        refine ⟨⟨i + 1, _⟩, ⟨hia, ?_⟩, ⟨rfl, rfl, rfl, rfl, look_int rfl (by rw [wrap64 (by omega) (by omega)]; rfl), trivial⟩, by dsimp only; omega⟩
        dsimp only
        rw [jsonAs_take hia, hc, jsonA_eq]
        subst h2
        simp only [List.append_assoc, List.cons_append, List.nil_append, ← bytesL_app, bytesL_cons, bytesL_nil, strOf_list, lst_strOf]
        try rfl
    · skip
      have hi : i = v.map.length := by have := of_decide_eq_false hb1; simp only [List.length_map] at this; omega
      refine aw_exit ?_
      refine exit_thn ?_
      refine exit_thn ?_
      refine exit_blk ?_
      refine normal_thn ?_
      refine aw_seq ?_
      refine aw_region ?_
      refine g_u (s_mv_slg rfl rfl) ?_
      refine g_u (s_buildSlice (X0 := z5) rfl Tryz.underlying85 tS5 tZ5 rfl rfl rfl rfl rfl rfl rfl rfl) ?_
      refine g_u (s_append rfl rfl rfl rfl rfl Tryz.underlying85 Tryz.underlying85 tS5 zv5 rfl (by decide) by5 (by (try dsimp only); (try (have q1 := wtAs_nth hia; have q2 := (nthA v.map i).wt_eq; have q3 := quoteB_length (lst (nthA v.map i).key); have q4 := lst_len (nthA v.map i).key)); (try simp only [List.length_append, List.length_cons, List.length_nil, bytesL_len]); omega) (by (try dsimp only); (try (have q1 := wtAs_nth hia; have q2 := (nthA v.map i).wt_eq; have q3 := quoteB_length (lst (nthA v.map i).key); have q4 := lst_len (nthA v.map i).key)); (try simp only [List.length_append, List.length_cons, List.length_nil, bytesL_len]); omega)) ?_
      refine g_u (s_as_slg rfl rfl) ?_
      refine g_nil ?_
      refine normal_thn ?_
      refine aw_ret ?_
      refine ret_blk ?_
      refine ret_thn ?_
      exact ⟨⟨.inr ⟨_, rfl, look_slg rfl (by rw [json7 hk, h2, hi, List.take_of_length_le (Nat.le_refl _), List.append_assoc]; exact congrArg (xs ++ ·) (bytesL_app _ [125])), rfl⟩, trivial⟩, ⟨look_tok rfl (by rw [json7 hk, h2, hi, List.take_of_length_le (Nat.le_refl _), List.append_assoc]; exact congrArg (xs ++ ·) (bytesL_app _ [125])), trivial⟩⟩

theorem lay_c (v : GV) : v.ok → v.wt ≤ 10000000 → ∀ xs : List AV, W1 xs → xs.length + 150 * v.wt ≤ 5000000000 → MCall Tryz.prog Γ0 181 [.slg 100001 1 xs, .imm v.av] [(100001, .tok 1 xs)] (.slg 100001 1 (xs ++ bytesL (jsonB v))) [(100001, .tok 1 (xs ++ bytesL (jsonB v)))] := by
  refine GV.ind (P := fun v => v.ok → v.wt ≤ 10000000 → ∀ xs : List AV, W1 xs → xs.length + 150 * v.wt ≤ 5000000000 → MCall Tryz.prog Γ0 181 [.slg 100001 1 xs, .imm v.av] [(100001, .tok 1 xs)] (.slg 100001 1 (xs ++ bytesL (jsonB v))) [(100001, .tok 1 (xs ++ bytesL (jsonB v)))]) ?_ v
  intro v h1 h2 ho hw xs hx hl
  have ok := v.ok_iff.1 ho
  have ek := v.wt_eq
  by_cases h6 : v.kind = 6
  · exact lay_l v ho hw xs hx hl h6 fun y hy ys hy1 hy2 => h1 y hy (ok.2.2.2.2.1 y hy) (by have := wtVs_mem hy; omega) ys hy1 hy2
  by_cases h7 : v.kind = 7
  · exact lay_m v ho hw xs hx hl h7 fun a ha ys hy1 hy2 => h2 a ha ((GA.ok_iff a).1 (ok.2.2.2.2.2 a ha)).2 (by have := wtAs_mem ha; have := a.wt_eq; omega) ys hy1 hy2
  by_cases hq : v.kind = 1 ∨ v.kind = 4 ∨ v.kind = 5
  · exact lay_q v ho hw xs hx hl hq
  · exact lay_p v ho hw xs hx hl (by omega)

set_option maxHeartbeats 400000 in
theorem json_c (v : GV) (ho : v.ok) (hw : v.wt ≤ 10000000) : PCall Tryz.prog Γ0 116 [v.av] [sv (strOf (jsonB v))] := by
  have lv := len_wtVs v.list
  have la := len_wtAs v.map
  have ek := v.wt_eq
  have ok := v.ok_iff.1 ho
  have sl := simpB_length v
  have jl := json_len v
  refine pcall_of Tryz.func116 rfl Tryz.ntmps116 (by kernel_rfl) rfl fun w0 I0 G0 => ?_
  refine aw_seq ?_
  refine aw_region ?_
  refine g_uG (s_box_imm 1001 rfl rfl rfl rfl) rfl ?_
  refine g_u (s_as_imm rfl rfl) ?_
  refine g_nil ?_
  refine normal_thn ?_
  refine aw_seq ?_
  refine aw_region ?_
  refine g_u (s_load_imm rfl rfl rfl tA91 tS91 rfl rfl) ?_
  refine g_u (s_call1 (pcall_nil (n := 1) (xs := [v.av]) (lay_c v ho hw [] (fun x hx => by cases hx) (by simp only [List.length_nil]; omega))) rfl rfl) ?_
  refine g_u (s_cvBS' (rfl) rfl rfl Tryz.underlying85 Tryz.underlying9 Tryz.underlying5) ?_
  refine g_u (s_as_imm rfl rfl) ?_
  refine g_nil ?_
  refine normal_thn ?_
  refine aw_ret ?_
  exact ⟨⟨(rfl : toAV (Al.look _ _) = some _).trans (congrArg some (by rfl)), rfl⟩, trivial⟩

set_option maxHeartbeats 400000 in
theorem text_q (v : GV) (ho : v.ok) (hw : v.wt ≤ 10000000) (hk : v.kind = 1 ∨ v.kind = 4 ∨ v.kind = 5) : PCall Tryz.prog Γ0 82 [v.av] [sv (textM v)] := by
  have lv := len_wtVs v.list
  have la := len_wtAs v.map
  have ek := v.wt_eq
  have ok := v.ok_iff.1 ho
  have sl := simpB_length v
  have jl := json_len v
  refine pcall_of Tryz.func82 rfl Tryz.ntmps82 (by kernel_rfl) rfl fun w0 I0 G0 => ?_
  refine aw_seq ?_
  refine aw_region ?_
  refine g_uG (s_box_imm 1001 rfl rfl rfl rfl) rfl ?_
  refine g_u (s_as_imm rfl rfl) ?_
  refine g_nil ?_
  refine normal_thn ?_
  refine aw_seq ?_
  refine aw_seq ?_
  refine aw_region ?_
  refine g_u (s_load_imm rfl rfl rfl tA91 tS91 rfl rfl) ?_
  refine g_u (s_call1 (thing_q hk (thing_c v ho hw)) rfl rfl) ?_
  refine g_nil ?_
  refine normal_thn ?_
  refine aw_block ?_
  refine aw_seq ?_
  refine aw_region ?_
  refine g_u (s_assert_yes rfl rfl nI197) ?_
  refine g_u (s_extract rfl rfl rfl rfl) ?_
  refine g_u (s_extract rfl rfl rfl rfl) ?_
  refine g_nil ?_
  refine normal_thn ?_
  refine aw_cond_true rfl ?_
  refine aw_seq ?_
  refine aw_region ?_
  refine g_u (s_as_imm rfl rfl) ?_
  refine g_nil ?_
  refine normal_thn ?_
  refine aw_seq ?_
  refine aw_region ?_
  refine g_u (s_mv_imm rfl rfl) ?_
  refine g_u (s_as_imm rfl rfl) ?_
  refine g_nil ?_
  refine normal_thn ?_
  refine aw_ret ?_
  refine ret_blk ?_
  refine ret_thn ?_
  exact ⟨⟨(rfl : toAV (Al.look _ _) = some _).trans (congrArg some (by (rw [textE (by omega)]))), rfl⟩, trivial⟩

set_option maxHeartbeats 400000 in
theorem text_p (v : GV) (ho : v.ok) (hw : v.wt ≤ 10000000) (hk : v.kind ≠ 1 ∧ v.kind ≠ 4 ∧ v.kind ≠ 5 ∧ v.kind ≠ 6 ∧ v.kind ≠ 7) : PCall Tryz.prog Γ0 82 [v.av] [sv (textM v)] := by
  have lv := len_wtVs v.list
  have la := len_wtAs v.map
  have ek := v.wt_eq
  have ok := v.ok_iff.1 ho
  have sl := simpB_length v
  have jl := json_len v
  refine pcall_of Tryz.func82 rfl Tryz.ntmps82 (by kernel_rfl) rfl fun w0 I0 G0 => ?_
  refine aw_seq ?_
  refine aw_region ?_
  refine g_uG (s_box_imm 1001 rfl rfl rfl rfl) rfl ?_
  refine g_u (s_as_imm rfl rfl) ?_
  refine g_nil ?_
  refine normal_thn ?_
  refine aw_seq ?_
  refine aw_seq ?_
  refine aw_region ?_
  refine g_u (s_load_imm rfl rfl rfl tA91 tS91 rfl rfl) ?_
  refine g_u (s_call1 (thing_p hk (thing_c v ho hw)) rfl rfl) ?_
  refine g_nil ?_
  refine normal_thn ?_
  refine aw_block ?_
  refine aw_seq ?_
  refine aw_region ?_
  refine g_u (s_assert_no rfl rfl nI197 tZ197 (fun z h => by rw [zv197] at h; cases h; rfl) rfl) ?_
  refine g_u (s_extract rfl rfl rfl rfl) ?_
  refine g_u (s_extract rfl rfl rfl rfl) ?_
  refine g_nil ?_
  refine normal_thn ?_
  refine aw_cond_false rfl ?_
  refine aw_seq ?_
  refine aw_region ?_
  refine g_u (s_assert_yes rfl rfl nI198) ?_
  refine g_u (s_extract rfl rfl rfl rfl) ?_
  refine g_u (s_extract rfl rfl rfl rfl) ?_
  refine g_nil ?_
  refine normal_thn ?_
  refine aw_cond_true rfl ?_
  refine aw_seq ?_
  refine aw_region ?_
  refine g_u (s_as_imm rfl rfl) ?_
  refine g_nil ?_
  refine normal_thn ?_
  refine aw_seq ?_
  refine aw_seq ?_
  refine aw_region ?_
  refine g_u (s_fieldAddr rfl rfl fa91_0 rfl) ?_
  refine g_u (s_load_imm rfl rfl rfl tA5 tS5 rfl rfl) ?_
  refine g_u (s_eqI rfl rfl rfl) ?_
  refine g_nil ?_
  refine normal_thn ?_
  refine aw_cond rfl (fun hb1 => ?_) (fun hb1 => ?_)
  · skip
    refine aw_seq ?_
    refine aw_region ?_
    refine g_u (s_as_imm rfl rfl) ?_
    refine g_nil ?_
    refine normal_thn ?_
    refine aw_ret ?_
    refine ret_thn ?_
    refine ret_blk ?_
    refine ret_thn ?_
    exact ⟨⟨(rfl : toAV (Al.look _ _) = some _).trans (congrArg some (by (simp only [beq_iff_eq, beq_eq_false_iff_ne, ne_eq, decide_eq_true_eq, decide_eq_false_iff_not] at *; rw [textE (by omega), simp6 (by omega)]; rfl))), rfl⟩, trivial⟩
  · skip
    refine aw_skip ?_
    refine normal_thn ?_
    refine aw_seq ?_
    refine aw_region ?_
    refine g_u (s_mv_imm rfl rfl) ?_
    refine g_u (s_as_imm rfl rfl) ?_
    refine g_nil ?_
    refine normal_thn ?_
    refine aw_ret ?_
    refine ret_blk ?_
    refine ret_thn ?_
    exact ⟨⟨(rfl : toAV (Al.look _ _) = some _).trans (congrArg some (by (simp only [beq_iff_eq, beq_eq_false_iff_ne, ne_eq, decide_eq_true_eq, decide_eq_false_iff_not] at *; rw [textE (by omega), jsonE (by omega)]))), rfl⟩, trivial⟩

set_option maxHeartbeats 400000 in
theorem text_l (v : GV) (ho : v.ok) (hw : v.wt ≤ 10000000) (hk : v.kind = 6) : PCall Tryz.prog Γ0 82 [v.av] [sv (textM v)] := by
  have lv := len_wtVs v.list
  have la := len_wtAs v.map
  have ek := v.wt_eq
  have ok := v.ok_iff.1 ho
  have sl := simpB_length v
  have jl := json_len v
  refine pcall_of Tryz.func82 rfl Tryz.ntmps82 (by kernel_rfl) rfl fun w0 I0 G0 => ?_
  refine aw_seq ?_
  refine aw_region ?_
  refine g_uG (s_box_imm 1001 rfl rfl rfl rfl) rfl ?_
  refine g_u (s_as_imm rfl rfl) ?_
  refine g_nil ?_
  refine normal_thn ?_
  refine aw_seq ?_
  refine aw_seq ?_
  refine aw_region ?_
  refine g_u (s_load_imm rfl rfl rfl tA91 tS91 rfl rfl) ?_
  refine g_u (s_call1 (thing_l hk (thing_c v ho hw)) rfl rfl) ?_
  refine g_nil ?_
  refine normal_thn ?_
  refine aw_block ?_
  refine aw_seq ?_
  refine aw_region ?_
  refine g_u (s_assert_no rfl rfl nI197 tZ197 (fun z h => by rw [zv197] at h; cases h; rfl) rfl) ?_
  refine g_u (s_extract rfl rfl rfl rfl) ?_
  refine g_u (s_extract rfl rfl rfl rfl) ?_
  refine g_nil ?_
  refine normal_thn ?_
  refine aw_cond_false rfl ?_
  refine aw_seq ?_
  refine aw_region ?_
  refine g_u (s_assert_no rfl rfl nI198 tZ198 (fun z h => by rw [zv198] at h; cases h; rfl) rfl) ?_
  refine g_u (s_extract rfl rfl rfl rfl) ?_
  refine g_u (s_extract rfl rfl rfl rfl) ?_
  refine g_nil ?_
  refine normal_thn ?_
  refine aw_cond_false rfl ?_
  refine aw_skip ?_
  refine normal_blk ?_
  refine normal_thn ?_
  refine aw_seq ?_
  refine aw_region ?_
  refine g_u (s_load_imm rfl rfl rfl tA91 tS91 rfl rfl) ?_
  refine g_u (s_call1 (json_c v ho hw) rfl rfl) ?_
  refine g_u (s_as_imm rfl rfl) ?_
  refine g_nil ?_
  refine normal_thn ?_
  refine aw_ret ?_
  exact ⟨⟨(rfl : toAV (Al.look _ _) = some _).trans (congrArg some (by (rw [text6 (by omega)]))), rfl⟩, trivial⟩

set_option maxHeartbeats 400000 in
theorem text_m (v : GV) (ho : v.ok) (hw : v.wt ≤ 10000000) (hk : v.kind = 7) : PCall Tryz.prog Γ0 82 [v.av] [sv (textM v)] := by
  have lv := len_wtVs v.list
  have la := len_wtAs v.map
  have ek := v.wt_eq
  have ok := v.ok_iff.1 ho
  have sl := simpB_length v
  have jl := json_len v
  refine pcall_of Tryz.func82 rfl Tryz.ntmps82 (by kernel_rfl) rfl fun w0 I0 G0 => ?_
  refine aw_seq ?_
  refine aw_region ?_
  refine g_uG (s_box_imm 1001 rfl rfl rfl rfl) rfl ?_
  refine g_u (s_as_imm rfl rfl) ?_
  refine g_nil ?_
  refine normal_thn ?_
  refine aw_seq ?_
  refine aw_seq ?_
  refine aw_region ?_
  refine g_u (s_load_imm rfl rfl rfl tA91 tS91 rfl rfl) ?_
  refine g_u (s_call1 (thing_m hk (thing_c v ho hw)) rfl rfl) ?_
  refine g_nil ?_
  refine normal_thn ?_
  refine aw_block ?_
  refine aw_seq ?_
  refine aw_region ?_
  refine g_u (s_assert_no rfl rfl nI197 tZ197 (fun z h => by rw [zv197] at h; cases h; rfl) rfl) ?_
  refine g_u (s_extract rfl rfl rfl rfl) ?_
  refine g_u (s_extract rfl rfl rfl rfl) ?_
  refine g_nil ?_
  refine normal_thn ?_
  refine aw_cond_false rfl ?_
  refine aw_seq ?_
  refine aw_region ?_
  refine g_u (s_assert_no rfl rfl nI198 tZ198 (fun z h => by rw [zv198] at h; cases h; rfl) rfl) ?_
  refine g_u (s_extract rfl rfl rfl rfl) ?_
  refine g_u (s_extract rfl rfl rfl rfl) ?_
  refine g_nil ?_
  refine normal_thn ?_
  refine aw_cond_false rfl ?_
  refine aw_skip ?_
  refine normal_blk ?_
  refine normal_thn ?_
  refine aw_seq ?_
  refine aw_region ?_
  refine g_u (s_load_imm rfl rfl rfl tA91 tS91 rfl rfl) ?_
  refine g_u (s_call1 (json_c v ho hw) rfl rfl) ?_
  refine g_u (s_as_imm rfl rfl) ?_
  refine g_nil ?_
  refine normal_thn ?_
  refine aw_ret ?_
  exact ⟨⟨(rfl : toAV (Al.look _ _) = some _).trans (congrArg some (by (rw [text6 (by omega)]))), rfl⟩, trivial⟩

theorem text_c (v : GV) (ho : v.ok) (hw : v.wt ≤ 10000000) : PCall Tryz.prog Γ0 82 [v.av] [sv (textM v)] := by
  by_cases h6 : v.kind = 6
  · exact text_l v ho hw h6
  by_cases h7 : v.kind = 7
  · exact text_m v ho hw h7
  by_cases hq : v.kind = 1 ∨ v.kind = 4 ∨ v.kind = 5
  · exact text_q v ho hw hq
  · exact text_p v ho hw (by omega)

end Go.Proofs

namespace Go.Proofs
open Go Go.Al
set_option maxRecDepth 10000
set_option maxHeartbeats 400000 in
theorem leftV_st (v : GV) (n : Int) (hn : -1 ≤ n ∧ n ≤ 1000000000) (ih : ∀ y ∈ v.list, ∀ n : Int, -1 ≤ n ∧ n ≤ 1000000000 → PCall Tryz.prog Γ0 48 [y.av, iv n] [iv (leftV y n)]) (ihm : ∀ n : Int, -1 ≤ n ∧ n ≤ 1000000000 → PCall Tryz.prog Γ0 23 [.sl 7 (v.map.map avA), iv n] [iv (leftAs v.map n)]) : PCall Tryz.prog Γ0 48 [v.av, iv n] [iv (leftV v n)] := by
  have ek := v.wt_eq
  refine pcall_of Tryz.func48 rfl Tryz.ntmps48 (by kernel_rfl) rfl fun w0 I0 G0 => ?_
  refine aw_seq ?_
  refine aw_region ?_
  refine g_uG (s_box_imm 1002 rfl rfl rfl rfl) rfl ?_
  refine g_u (s_as_imm rfl rfl) ?_
  refine g_nil ?_
  refine normal_thn ?_
  refine aw_seq ?_
  refine aw_seq ?_
  refine aw_region ?_
  refine g_u (s_mv_imm rfl rfl) ?_
  refine g_u (s_ltI rfl rfl rfl) ?_
  refine g_u (s_mv_imm rfl rfl) ?_
  refine g_case (t := 8) rfl ?_
  rintro (hb1 | hb1)
  · rw [hb1]
    have hn0 : n < 0 := of_decide_eq_true hb1
    refine g_skip rfl rfl rfl ?_
    refine g_skip rfl rfl rfl ?_
    refine g_skip rfl rfl rfl ?_
    refine g_skip rfl rfl rfl ?_
    refine g_skip rfl rfl rfl ?_
    refine g_u (s_pick_t rfl rfl rfl) ?_
    refine g_nil ?_
    refine normal_thn ?_
    refine aw_cond_true rfl ?_
    refine aw_seq ?_
    refine aw_region ?_
    refine g_u (s_as_imm rfl rfl) ?_
    refine g_nil ?_
    refine normal_thn ?_
    refine aw_ret ?_
    refine ret_thn ?_
    exact ⟨⟨(rfl : toAV (Al.look _ _) = some _).trans (congrArg some (by (exact congrArg iv (by rw [leftV_F, if_pos hn0])))), rfl⟩, trivial⟩
  · rw [hb1]
    have hn0 : ¬ n < 0 := of_decide_eq_false hb1
    refine g_run rfl rfl (s_fieldAddr rfl rfl fa91_1 rfl) ?_
    refine g_run rfl rfl (s_load_imm rfl rfl rfl tA9 tS9 rfl rfl) ?_
    refine g_run rfl rfl (s_lenS rfl rfl Tryz.underlying9) ?_
    refine g_run rfl rfl (s_mv_imm rfl rfl) ?_
    refine g_run rfl rfl (s_gtI rfl rfl rfl) ?_
    refine g_u (s_pick_f rfl rfl rfl) ?_
    refine g_nil ?_
    refine normal_thn ?_
    refine aw_cond rfl (fun hb2 => ?_) (fun hb2 => ?_)
    · skip
      have ht0 : (v.text.size : Int) > n := of_decide_eq_true hb2
      refine aw_seq ?_
      refine aw_region ?_
      refine g_u (s_as_imm rfl rfl) ?_
      refine g_nil ?_
      refine normal_thn ?_
      refine aw_ret ?_
      refine ret_thn ?_
      exact ⟨⟨(rfl : toAV (Al.look _ _) = some _).trans (congrArg some (by (exact congrArg iv (by rw [leftV_F, if_neg hn0]; unfold leftF; rw [if_neg (by omega)])))), rfl⟩, trivial⟩
    · skip
      have ht0 : ¬ (v.text.size : Int) > n := of_decide_eq_false hb2
      have hL : -1 ≤ n - 1 - v.text.size := by omega
      refine aw_skip ?_
      refine normal_thn ?_
      refine aw_seq ?_
      refine aw_region ?_
      refine g_u (s_mv_imm rfl rfl) ?_
      refine g_u (s_sub rfl rfl rfl) ?_
      refine g_u (s_fieldAddr rfl rfl fa91_1 rfl) ?_
      refine g_u (s_load_imm rfl rfl rfl tA9 tS9 rfl rfl) ?_
      refine g_u (s_lenS rfl rfl Tryz.underlying9) ?_
      refine g_u (s_sub rfl rfl rfl) ?_
      refine g_u (s_as_imm rfl rfl) ?_
      refine g_nil ?_
      refine normal_thn ?_
      refine aw_seq ?_
      refine aw_seq ?_
      refine aw_region ?_
      refine g_u (s_as_imm rfl rfl) ?_
      refine g_nil ?_
      refine normal_thn ?_
      refine aw_block ?_
      refine aw_loop' (fun i : Nat => [(2, .ptr 1002 0), (1002, .box 91 (.imm v.av)), (1, .imm (iv (leftF (n - 1 - v.text.size) (wtVs (v.list.take i))))), (5, .imm (iv (i : Int)))]) (fun i => i ≤ v.list.length) (fun i => v.list.length - i) (0) ?_ ⟨rfl, rfl, look_int rfl (by rw [show wtVs (v.list.take 0) = 0 from rfl, leftF_zero hL, wrap64 (n := n - 1) (by omega) (by omega), wrap64 (by omega) (by omega)]), rfl, trivial⟩ ?_
      · exact Nat.zero_le _
      · rintro i h1; have h1 : i ≤ v.list.length := h1; have bd := leftF_bd hL (wtVs (v.list.take i))
        refine aw_seq ?_
        refine aw_seq ?_
        refine aw_region ?_
        refine g_u (s_mv_imm rfl rfl) ?_
        refine g_u (s_fieldAddr rfl rfl fa91_4 rfl) ?_
        refine g_u (s_load_imm rfl rfl rfl tA89 tS89 rfl rfl) ?_
        refine g_u (s_lenL rfl rfl Tryz.underlying89) ?_
        refine g_u (s_ltI rfl rfl rfl) ?_
        refine g_u (s_mv_imm rfl rfl) ?_
        refine g_case (t := 26) rfl ?_
        rintro (hb3 | hb3)
        · rw [hb3]
          have hiv : i < v.list.length := by have := of_decide_eq_true hb3; (try simp only [List.length_map] at this); omega
          refine g_run rfl rfl (s_mv_imm rfl rfl) ?_
          refine g_run rfl rfl (s_geI rfl rfl rfl) ?_
          refine g_u (s_pick_t rfl rfl rfl) ?_
          refine g_nil ?_
          refine normal_thn ?_
          refine aw_cond rfl (fun hb4 => ?_) (fun hb4 => ?_)
          · skip
            have hs : 0 ≤ leftF (n - 1 - v.text.size) (wtVs (v.list.take i)) := of_decide_eq_true hb4
            have hi9 := leftV_len hs h1
            refine aw_skip ?_
            refine normal_thn ?_
            refine aw_seq ?_
            refine aw_block ?_
            refine aw_region ?_
            refine g_u (s_fieldAddr rfl rfl fa91_4 rfl) ?_
            refine g_u (s_load_imm rfl rfl rfl tA89 tS89 rfl rfl) ?_
            refine g_u (s_mv_imm rfl rfl) ?_
            refine g_u (s_indexAddr rfl rfl rfl Tryz.underlying89 tS91 (by omega) (ixV hiv)) ?_
            refine g_u (s_load_cp rfl rfl tA91 tS91 rfl rfl) ?_
            refine g_u (s_mv_imm rfl rfl) ?_
            refine g_u (s_call1 (ih _ (nthV_mem hiv) _ ⟨bd.1, by have := bd.2; omega⟩) rfl rfl) ?_
            refine g_u (s_as_imm rfl rfl) ?_
            refine g_nil ?_
            refine normal_blk ?_
            refine normal_thn ?_
            refine aw_region ?_
            refine g_u (s_mv_imm rfl rfl) ?_
            refine g_u (s_add rfl rfl rfl) ?_
            refine g_u (s_as_imm rfl rfl) ?_
            refine g_nil ?_
            refine normal_thn ?_
            refine ⟨i + 1, hiv, ⟨rfl, rfl, look_int rfl (leftV_step hiv hs), look_int rfl (by rw [wrap64 (by omega) (by omega)]; rfl), trivial⟩, by (try dsimp only); omega⟩
          · skip
            have hs : ¬ 0 ≤ leftF (n - 1 - v.text.size) (wtVs (v.list.take i)) := of_decide_eq_false hb4
            refine aw_exit ?_
            refine exit_thn ?_
            refine exit_thn ?_
            refine exit_blk ?_
            refine normal_thn ?_
            refine aw_seq ?_
            refine aw_region ?_
            refine g_u (s_fieldAddr rfl rfl fa91_5 rfl) ?_
            refine g_u (s_load_imm rfl rfl rfl tA46 tS46 rfl rfl) ?_
            refine g_u (s_mv_imm rfl rfl) ?_
            refine g_u (s_call1 (ihm _ ⟨bd.1, by have := bd.2; omega⟩) rfl rfl) ?_
            refine g_u (s_as_imm rfl rfl) ?_
            refine g_nil ?_
            refine normal_thn ?_
            refine aw_ret ?_
            exact ⟨⟨(rfl : toAV (Al.look _ _) = some _).trans (congrArg some (by (exact congrArg iv (leftV_fin hn0 ht0 (by first | exact .inl hivn | exact .inr (by omega)))))), rfl⟩, trivial⟩
        · rw [hb3]
          have hivn : i = v.list.length := by have := of_decide_eq_false hb3; (try simp only [List.length_map] at this); omega
          refine g_skip rfl rfl rfl ?_
          refine g_skip rfl rfl rfl ?_
          refine g_u (s_pick_f rfl rfl rfl) ?_
          refine g_nil ?_
          refine normal_thn ?_
          refine aw_cond_false rfl ?_
          refine aw_exit ?_
          refine exit_thn ?_
          refine exit_thn ?_
          refine exit_blk ?_
          refine normal_thn ?_
          refine aw_seq ?_
          refine aw_region ?_
          refine g_u (s_fieldAddr rfl rfl fa91_5 rfl) ?_
          refine g_u (s_load_imm rfl rfl rfl tA46 tS46 rfl rfl) ?_
          refine g_u (s_mv_imm rfl rfl) ?_
          refine g_u (s_call1 (ihm _ ⟨bd.1, by have := bd.2; omega⟩) rfl rfl) ?_
          refine g_u (s_as_imm rfl rfl) ?_
          refine g_nil ?_
          refine normal_thn ?_
          refine aw_ret ?_
          exact ⟨⟨(rfl : toAV (Al.look _ _) = some _).trans (congrArg some (by (exact congrArg iv (leftV_fin hn0 ht0 (by first | exact .inl hivn | exact .inr (by omega)))))), rfl⟩, trivial⟩

set_option maxHeartbeats 400000 in
theorem leftAs_st (l : List GA) (n : Int) (hn : -1000000000000 ≤ n ∧ n ≤ 1000000000) (ih : ∀ a ∈ l, ∀ n : Int, -1 ≤ n ∧ n ≤ 1000000000 → PCall Tryz.prog Γ0 48 [a.val.av, iv n] [iv (leftV a.val n)]) : PCall Tryz.prog Γ0 23 [.sl 7 (l.map avA), iv n] [iv (leftAs l n)] := by
  refine pcall_of Tryz.func23 rfl Tryz.ntmps23 (by kernel_rfl) rfl fun w0 I0 G0 => ?_
  refine aw_seq ?_
  refine aw_region ?_
  refine g_u (s_as_imm rfl rfl) ?_
  refine g_nil ?_
  refine normal_thn ?_
  refine aw_seq ?_
  refine aw_seq ?_
  refine aw_region ?_
  refine g_u (s_as_imm rfl rfl) ?_
  refine g_nil ?_
  refine normal_thn ?_
  refine aw_block ?_
  refine aw_loop' (fun i : Nat => [(0, .imm (.sl 7 (l.map avA))), (1, .imm (iv (leftAs (l.take i) n))), (5, .imm (iv (i : Int)))]) (fun i => i ≤ l.length) (fun i => l.length - i) (0) ?_ ⟨rfl, look_int rfl (leftAs_zero l).symm, rfl, trivial⟩ ?_
  · exact Nat.zero_le _
  · rintro i h1; have h1 : i ≤ l.length := h1; have bd := leftAs_bd' (l.take i) n
    refine aw_seq ?_
    refine aw_seq ?_
    refine aw_region ?_
    refine g_u (s_mv_imm rfl rfl) ?_
    refine g_u (s_mv_imm rfl rfl) ?_
    refine g_u (s_lenL rfl rfl Tryz.underlying46) ?_
    refine g_u (s_ltI rfl rfl rfl) ?_
    refine g_u (s_mv_imm rfl rfl) ?_
    refine g_case (t := 10) rfl ?_
    rintro (hb1 | hb1)
    · rw [hb1]
      have hia : i < l.length := by have := of_decide_eq_true hb1; (try simp only [List.length_map] at this); omega
      refine g_run rfl rfl (s_mv_imm rfl rfl) ?_
      refine g_run rfl rfl (s_geI rfl rfl rfl) ?_
      refine g_u (s_pick_t rfl rfl rfl) ?_
      refine g_nil ?_
      refine normal_thn ?_
      refine aw_cond rfl (fun hb2 => ?_) (fun hb2 => ?_)
      · skip
        have hs : 0 ≤ leftAs (l.take i) n := of_decide_eq_true hb2
        have hi9 := leftAs_len hs h1
        refine aw_skip ?_
        refine normal_thn ?_
        refine aw_seq ?_
        refine aw_block ?_
        refine aw_seq ?_
        refine aw_seq ?_
        refine aw_region ?_
        refine g_u (s_mv_imm rfl rfl) ?_
        refine g_u (s_mv_imm rfl rfl) ?_
        refine g_u (s_indexAddr rfl rfl rfl Tryz.underlying46 tS93 (by omega) (ixA hia)) ?_
        refine g_u (s_fieldAddr_cp rfl rfl fa93_0 rfl rfl) ?_
        refine g_u (s_load_cp rfl rfl tA9 tS9 rfl rfl) ?_
        refine g_u (s_lenS rfl rfl Tryz.underlying9) ?_
        refine g_u (s_mv_imm rfl rfl) ?_
        refine g_u (s_gtI rfl rfl rfl) ?_
        refine g_nil ?_
        refine normal_thn ?_
        refine aw_cond rfl (fun hb3 => ?_) (fun hb3 => ?_)
        · skip
          have hk : ((nthA l i).key.size : Int) > leftAs (l.take i) n := of_decide_eq_true hb3
          refine aw_seq ?_
          refine aw_region ?_
          refine g_u (s_as_imm rfl rfl) ?_
          refine g_nil ?_
          refine normal_thn ?_
          refine aw_ret ?_
          refine ret_thn ?_
          refine ret_blk ?_
          refine ret_thn ?_
          refine ret_thn ?_
          refine ret_blk ?_
          refine ret_thn ?_
          exact ⟨⟨(rfl : toAV (Al.look _ _) = some _).trans (congrArg some (by (exact congrArg iv (leftAs_out hia hs hk)))), rfl⟩, trivial⟩
        · skip
          have hk : ¬ ((nthA l i).key.size : Int) > leftAs (l.take i) n := of_decide_eq_false hb3
          have ew : IntKind.i64.wrap (leftAs (l.take i) n - (nthA l i).key.size) = leftAs (l.take i) n - (nthA l i).key.size := wrap64 (by omega) (by omega)
          refine aw_skip ?_
          refine normal_thn ?_
          refine aw_draw mixed ?_
          refine g_u (s_mv_imm rfl rfl) ?_
          refine g_u (s_mv_imm rfl rfl) ?_
          refine g_u (s_indexAddr rfl rfl rfl Tryz.underlying46 tS93 (by omega) (ixA hia)) ?_
          refine g_u (s_fieldAddr_cp rfl rfl fa93_1 rfl rfl) ?_
          refine g_u (s_load_cp rfl rfl tA91 tS91 rfl rfl) ?_
          refine g_u (s_mv_imm rfl rfl) ?_
          refine g_u (s_mv_imm rfl rfl) ?_
          refine g_u (s_mv_imm rfl rfl) ?_
          refine g_u (s_indexAddr rfl rfl rfl Tryz.underlying46 tS93 (by omega) (ixA hia)) ?_
          refine g_u (s_fieldAddr_cp rfl rfl fa93_0 rfl rfl) ?_
          refine g_u (s_load_cp rfl rfl tA9 tS9 rfl rfl) ?_
          refine g_u (s_lenS rfl rfl Tryz.underlying9) ?_
          refine g_u (s_sub rfl rfl rfl) ?_
          refine g_u (s_call1 ((show PCall Tryz.prog Γ0 48 [(nthA l i).val.av, iv (IntKind.i64.wrap (leftAs (l.take i) n - (nthA l i).key.size))] [iv (leftV (nthA l i).val (leftAs (l.take i) n - (nthA l i).key.size))] from by rw [ew]; exact ih _ (nthA_mem hia) _ ⟨by omega, by omega⟩)) rfl rfl) ?_
          refine g_u (s_as_imm rfl rfl) ?_
          refine g_nil ⟨by kernel_rfl, ?_⟩
          refine normal_blk ?_
          refine normal_thn ?_
          refine aw_region ?_
          refine g_u (s_mv_imm rfl rfl) ?_
          refine g_u (s_add rfl rfl rfl) ?_
          refine g_u (s_as_imm rfl rfl) ?_
          refine g_nil ?_
          refine normal_thn ?_
          refine ⟨i + 1, hia, ⟨rfl, look_int rfl (leftAs_step hia hs hk), look_int rfl (by rw [wrap64 (by omega) (by omega)]; rfl), trivial⟩, by (try dsimp only); omega⟩
      · skip
        have hs : ¬ 0 ≤ leftAs (l.take i) n := of_decide_eq_false hb2
        refine aw_exit ?_
        refine exit_thn ?_
        refine exit_thn ?_
        refine exit_blk ?_
        refine normal_thn ?_
        refine aw_seq ?_
        refine aw_region ?_
        refine g_u (s_mv_imm rfl rfl) ?_
        refine g_u (s_as_imm rfl rfl) ?_
        refine g_nil ?_
        refine normal_thn ?_
        refine aw_ret ?_
        exact ⟨⟨(rfl : toAV (Al.look _ _) = some _).trans (congrArg some (by (exact congrArg iv (leftAs_fin (by first | exact .inl hian | exact .inr (by omega)))))), rfl⟩, trivial⟩
    · rw [hb1]
      have hian : i = l.length := by have := of_decide_eq_false hb1; (try simp only [List.length_map] at this); omega
      refine g_skip rfl rfl rfl ?_
      refine g_skip rfl rfl rfl ?_
      refine g_u (s_pick_f rfl rfl rfl) ?_
      refine g_nil ?_
      refine normal_thn ?_
      refine aw_cond_false rfl ?_
      refine aw_exit ?_
      refine exit_thn ?_
      refine exit_thn ?_
      refine exit_blk ?_
      refine normal_thn ?_
      refine aw_seq ?_
      refine aw_region ?_
      refine g_u (s_mv_imm rfl rfl) ?_
      refine g_u (s_as_imm rfl rfl) ?_
      refine g_nil ?_
      refine normal_thn ?_
      refine aw_ret ?_
      exact ⟨⟨(rfl : toAV (Al.look _ _) = some _).trans (congrArg some (by (exact congrArg iv (leftAs_fin (by first | exact .inl hian | exact .inr (by omega)))))), rfl⟩, trivial⟩

theorem leftV_c (v : GV) : ∀ n : Int, -1 ≤ n ∧ n ≤ 1000000000 → PCall Tryz.prog Γ0 48 [v.av, iv n] [iv (leftV v n)] := by
  refine GV.ind (P := fun v => ∀ n : Int, -1 ≤ n ∧ n ≤ 1000000000 → PCall Tryz.prog Γ0 48 [v.av, iv n] [iv (leftV v n)]) ?_ v
  intro v h1 h2 n hn
  exact leftV_st v n hn h1 fun n hn => leftAs_st v.map n (by omega) h2
theorem leftAs_c (l : List GA) (n : Int) (hn : -1000000000000 ≤ n ∧ n ≤ 1000000000) : PCall Tryz.prog Γ0 23 [.sl 7 (l.map avA), iv n] [iv (leftAs l n)] := leftAs_st l n hn fun a _ => leftV_c a.val

end Go.Proofs

namespace Go.Proofs
open Go Go.Al
set_option maxRecDepth 10000
theorem z52_w : AV.width z52 = 42 := by kernel_rfl
theorem z107_w : AV.width z107 = 26 := by kernel_rfl
end Go.Proofs

namespace Go.Proofs
open Go Go.Al
set_option maxRecDepth 10000
theorem cmp216 : cmpFn Tryz.prog 216 := ⟨_, Tryz.func216, by kernel_rfl, rfl, by kernel_rfl, by kernel_rfl⟩
set_option maxHeartbeats 400000 in
theorem cmp_197_c (s t : ByteArray) : PCall Tryz.prog Γ0 197 [sv s, sv t] [iv (cmpK s t)] := by
  refine pcall_of Tryz.func197 rfl Tryz.ntmps197 (by kernel_rfl) rfl fun w0 I0 G0 => ?_
  refine aw_seq ?_
  refine aw_region ?_
  refine g_u (s_as_imm rfl rfl) ?_
  refine g_nil ?_
  refine normal_thn ?_
  refine aw_seq ?_
  refine aw_region ?_
  refine g_u (s_mv_imm rfl rfl) ?_
  refine g_u (s_mv_imm rfl rfl) ?_
  refine g_u (s_cmpS cmp216 rfl rfl rfl) ?_
  refine g_u (s_as_imm rfl rfl) ?_
  refine g_nil ?_
  refine normal_thn ?_
  refine aw_ret ?_
  exact ⟨⟨(rfl : toAV (Al.look _ _) = some _).trans (congrArg some (by rfl)), rfl⟩, trivial⟩

set_option maxHeartbeats 400000 in
theorem cmp_149_c (s t : ByteArray) : PCall Tryz.prog Γ0 149 [sv s, sv t] [iv (cmpK s t)] := by
  refine pcall_of Tryz.func149 rfl Tryz.ntmps149 (by kernel_rfl) rfl fun w0 I0 G0 => ?_
  refine aw_seq ?_
  refine aw_region ?_
  refine g_u (s_as_imm rfl rfl) ?_
  refine g_nil ?_
  refine normal_thn ?_
  refine aw_seq ?_
  refine aw_region ?_
  refine g_u (s_mv_imm rfl rfl) ?_
  refine g_u (s_mv_imm rfl rfl) ?_
  refine g_u (s_call1 (cmp_197_c _ _) rfl rfl) ?_
  refine g_u (s_as_imm rfl rfl) ?_
  refine g_nil ?_
  refine normal_thn ?_
  refine aw_ret ?_
  exact ⟨⟨(rfl : toAV (Al.look _ _) = some _).trans (congrArg some (by rfl)), rfl⟩, trivial⟩

set_option maxHeartbeats 400000 in
theorem cmpA_c (a : GA) (k : ByteArray) : PCall Tryz.prog Γ0 148 [a.av, sv k] [iv (cmpK a.key k)] := by
  refine pcall_of Tryz.func148 rfl Tryz.ntmps148 (by kernel_rfl) rfl fun w0 I0 G0 => ?_
  refine aw_seq ?_
  refine aw_region ?_
  refine g_uG (s_box_imm 1002 rfl rfl rfl rfl) rfl ?_
  refine g_u (s_as_imm rfl rfl) ?_
  refine g_nil ?_
  refine normal_thn ?_
  refine aw_seq ?_
  refine aw_region ?_
  refine g_u (s_fieldAddr rfl rfl fa93_0 rfl) ?_
  refine g_u (s_load_imm rfl rfl rfl tA9 tS9 rfl rfl) ?_
  refine g_u (s_mv_imm rfl rfl) ?_
  refine g_u (s_call1 (cmp_149_c _ _) rfl rfl) ?_
  refine g_u (s_as_imm rfl rfl) ?_
  refine g_nil ?_
  refine normal_thn ?_
  refine aw_ret ?_
  exact ⟨⟨(rfl : toAV (Al.look _ _) = some _).trans (congrArg some (by rfl)), rfl⟩, trivial⟩

set_option maxHeartbeats 400000 in
theorem bsf_c (l : List GA) (k : ByteArray) (hr : risA none l) (hl : l.length ≤ 1000000000000) : PCall Tryz.prog Γ0 147 [.sl 7 (l.map avA), sv k, .fn (.func 148) [] []] [iv (posA l k : Nat), bv (hasA l k)] := by
  refine pcall_of Tryz.func147 rfl Tryz.ntmps147 (by kernel_rfl) rfl fun w0 I0 G0 => ?_
  refine aw_seq ?_
  refine aw_region ?_
  refine g_u (s_as_imm rfl rfl) ?_
  refine g_u (s_as_imm rfl rfl) ?_
  refine g_nil ?_
  refine normal_thn ?_
  refine aw_seq ?_
  refine aw_region ?_
  refine g_u (s_mv_imm rfl rfl) ?_
  refine g_u (s_lenL rfl rfl Tryz.underlying46) ?_
  refine g_u (s_as_imm rfl rfl) ?_
  refine g_nil ?_
  refine normal_thn ?_
  refine aw_seq ?_
  refine aw_region ?_
  refine g_u (s_mv_imm rfl rfl) ?_
  refine g_u (s_as_imm rfl rfl) ?_
  refine g_u (s_as_imm rfl rfl) ?_
  refine g_nil ?_
  refine normal_thn ?_
  refine aw_seq ?_
  refine aw_block ?_
  refine aw_loop' (fun j : Nat × Nat => [(0, .imm (.sl 7 (l.map avA))), (1, .imm (sv k)), (2, .imm (.fn (.func 148) [] [])), (8, .imm (iv (l.length : Int))), (9, .imm (iv (j.1 : Int))), (10, .imm (iv (j.2 : Int)))]) (fun j => j.1 ≤ j.2 ∧ j.2 ≤ l.length ∧ (∀ i, i < j.1 → ltB (nthA l i).key k = true) ∧ (∀ i, j.2 ≤ i → i < l.length → ltB (nthA l i).key k = false)) (fun j => j.2 - j.1) (⟨0, l.length⟩) ?_ ⟨rfl, rfl, rfl, look_int rfl (by rw [List.length_map]), rfl, look_int rfl (by rw [List.length_map]), trivial⟩ ?_
  · exact ⟨Nat.zero_le _, Nat.le_refl _, fun i h => absurd h (Nat.not_lt_zero _), fun i h1 h2 => absurd h2 (Nat.not_lt.2 h1)⟩
  · rintro ⟨lo, hi⟩ ⟨h1, h2, h3, h4⟩; dsimp only at h1 h2 h3 h4
    have em : IntKind.i64.wrap ((IntKind.u64.wrap (IntKind.i64.wrap ((lo : Int) + (hi : Int)))).fdiv (2 ^ (min (1 : Int).toNat IntKind.u64.bits))) = (((lo + hi) / 2 : Nat) : Int) := by rw [wrap64 (n := (lo : Int) + (hi : Int)) (by omega) (by omega), wrapu64 (by omega) (by omega), Int.fdiv_eq_ediv_of_nonneg _ (by decide), show (2 : Int) ^ (min (1 : Int).toNat IntKind.u64.bits) = 2 from by decide, wrap64 (by omega) (by omega)]; omega
    refine aw_seq ?_
    refine aw_seq ?_
    refine aw_region ?_
    refine g_u (s_mv_imm rfl rfl) ?_
    refine g_u (s_mv_imm rfl rfl) ?_
    refine g_u (s_ltI rfl rfl rfl) ?_
    refine g_nil ?_
    refine normal_thn ?_
    refine aw_cond rfl (fun hb1 => ?_) (fun hb1 => ?_)
    · skip
      have hmid : (lo + hi) / 2 < l.length := by have := of_decide_eq_true hb1; omega
      refine aw_skip ?_
      refine normal_thn ?_
      refine aw_block ?_
      refine aw_seq ?_
      refine aw_region ?_
      refine g_u (s_mv_imm rfl rfl) ?_
      refine g_u (s_mv_imm rfl rfl) ?_
      refine g_u (s_add rfl rfl rfl) ?_
      refine g_u (s_cvII rfl rfl Tryz.underlying3 Tryz.underlying194) ?_
      refine g_u (s_shr rfl rfl rfl (by first | decide | omega | (((try simp only [decide_eq_true_eq, decide_eq_false_iff_not, bne_iff_ne, ne_eq, beq_iff_eq, bne_eq_false_iff_eq, beq_eq_false_iff_ne, Bool.not_eq_true', Bool.not_eq_false', gt_iff_lt, ge_iff_le] at *); (repeat simp (disch := omega) only [wrap64, wrap32] at *)); omega))) ?_
      refine g_u (s_cvII rfl rfl Tryz.underlying194 Tryz.underlying3) ?_
      refine g_u (s_as_imm rfl rfl) ?_
      refine g_nil ?_
      refine normal_thn ?_
      refine aw_seq ?_
      refine aw_region ?_
      refine g_u (s_mv_imm rfl rfl) ?_
      refine g_u (s_mv_imm rfl rfl) ?_
      refine g_u (s_mv_imm rfl rfl) ?_
      refine g_u (s_indexAddr rfl rfl rfl Tryz.underlying46 tS93 (by erw [em]; omega) ((congrArg (fun z : Int => (l.map avA)[z.toNat]?) em).trans (ixA hmid))) ?_
      refine g_u (s_load_cp rfl rfl tA93 tS93 rfl rfl) ?_
      refine g_u (s_mv_imm rfl rfl) ?_
      refine g_u (s_callv1 (cmpA_c _ _) rfl rfl rfl) ?_
      refine g_u (s_ltI rfl rfl rfl) ?_
      refine g_nil ?_
      refine normal_thn ?_
      refine aw_cond rfl (fun hb2 => ?_) (fun hb2 => ?_)
      · skip
        have hk : ltB (nthA l ((lo + hi) / 2)).key k = true := (cmpK_lt _ _).1 (of_decide_eq_true hb2)
        refine aw_region ?_
        refine g_u (s_mv_imm rfl rfl) ?_
        refine g_u (s_add rfl rfl rfl) ?_
        refine g_u (s_as_imm rfl rfl) ?_
        refine g_nil ?_
        refine normal_blk ?_
        refine normal_thn ?_
        have hlt : lo < hi := by have := of_decide_eq_true hb1; omega
        first
          | exact ⟨⟨(lo + hi) / 2 + 1, hi⟩, ⟨by dsimp only; omega, h2, fun i hi1 => ris_left hr hmid hk (by dsimp only at hi1; omega), h4⟩, ⟨rfl, rfl, rfl, rfl, look_int rfl (by erw [em]; rw [wrap64 (by omega) (by omega)]; rfl), rfl, trivial⟩, by dsimp only; omega⟩
          | exact ⟨⟨lo, (lo + hi) / 2⟩, ⟨by dsimp only; omega, by dsimp only; omega, h3, fun i hi1 hi2 => ris_right hr hk hi1 hi2⟩, ⟨rfl, rfl, rfl, rfl, rfl, look_int rfl em, trivial⟩, by dsimp only; omega⟩
      · skip
        have hk : ltB (nthA l ((lo + hi) / 2)).key k = false := by cases hq : ltB (nthA l ((lo + hi) / 2)).key k; rfl; exact absurd ((cmpK_lt _ _).2 hq) (of_decide_eq_false hb2)
        refine aw_region ?_
        refine g_u (s_mv_imm rfl rfl) ?_
        refine g_u (s_as_imm rfl rfl) ?_
        refine g_nil ?_
        refine normal_blk ?_
        refine normal_thn ?_
        have hlt : lo < hi := by have := of_decide_eq_true hb1; omega
        first
          | exact ⟨⟨(lo + hi) / 2 + 1, hi⟩, ⟨by dsimp only; omega, h2, fun i hi1 => ris_left hr hmid hk (by dsimp only at hi1; omega), h4⟩, ⟨rfl, rfl, rfl, rfl, look_int rfl (by erw [em]; rw [wrap64 (by omega) (by omega)]; rfl), rfl, trivial⟩, by dsimp only; omega⟩
          | exact ⟨⟨lo, (lo + hi) / 2⟩, ⟨by dsimp only; omega, by dsimp only; omega, h3, fun i hi1 hi2 => ris_right hr hk hi1 hi2⟩, ⟨rfl, rfl, rfl, rfl, rfl, look_int rfl em, trivial⟩, by dsimp only; omega⟩
    · skip
      have hlo : lo = hi := by have := of_decide_eq_false hb1; omega
      have hp : lo = posA l k := posA_spec l k lo (by omega) h3 (fun i hi1 hi2 => h4 i (by omega) hi2)
      refine aw_exit ?_
      refine exit_thn ?_
      refine exit_thn ?_
      refine exit_blk ?_
      refine normal_thn ?_
      refine aw_seq ?_
      refine aw_region ?_
      refine g_u (s_mv_imm rfl rfl) ?_
      refine g_u (s_mv_imm rfl rfl) ?_
      refine g_u (s_mv_imm rfl rfl) ?_
      refine g_u (s_ltI rfl rfl rfl) ?_
      refine g_u (s_mv_imm rfl rfl) ?_
      refine g_case (t := 39) rfl ?_
      rintro (hb3 | hb3)
      · rw [hb3]
        have hll : lo < l.length := by have := of_decide_eq_true hb3; (try simp only [List.length_map] at this); omega
        refine g_run rfl rfl (s_mv_imm rfl rfl) ?_
        refine g_run rfl rfl (s_mv_imm rfl rfl) ?_
        refine g_run rfl rfl (s_mv_imm rfl rfl) ?_
        refine g_run rfl rfl (s_indexAddr rfl rfl rfl Tryz.underlying46 tS93 (by omega) (ixA hll)) ?_
        refine g_run rfl rfl (s_load_cp rfl rfl tA93 tS93 rfl rfl) ?_
        refine g_run rfl rfl (s_mv_imm rfl rfl) ?_
        refine g_run rfl rfl (s_callv1 (cmpA_c _ _) rfl rfl rfl) ?_
        refine g_run rfl rfl (s_eqI rfl rfl rfl) ?_
        refine g_u (s_pick_t rfl rfl rfl) ?_
        refine g_u (s_as_imm rfl rfl) ?_
        refine g_u (s_as_imm rfl rfl) ?_
        refine g_nil ?_
        refine normal_thn ?_
        refine aw_ret ?_
        exact ⟨⟨(rfl : toAV (Al.look _ _) = some _).trans (congrArg (fun n : Nat => some (iv n)) hp), rfl⟩, ⟨(rfl : toAV (Al.look _ _) = some _).trans (congrArg (fun b => some (bv b)) (by rw [hasA, ← hp, decide_eq_true hll, Bool.true_and, ← Bool.coe_iff_coe]; simp only [beq_iff_eq, decide_eq_true_eq]; exact cmpK_eq _ _)), rfl⟩, trivial⟩
      · rw [hb3]
        have hll : ¬ lo < l.length := by have := of_decide_eq_false hb3; (try simp only [List.length_map] at this); omega
        refine g_skip rfl rfl rfl ?_
        refine g_skip rfl rfl rfl ?_
        refine g_skip rfl rfl rfl ?_
        refine g_skip rfl rfl rfl ?_
        refine g_skip rfl rfl rfl ?_
        refine g_skip rfl rfl rfl ?_
        refine g_skip rfl rfl rfl ?_
        refine g_skip rfl rfl rfl ?_
        refine g_u (s_pick_f rfl rfl rfl) ?_
        refine g_u (s_as_imm rfl rfl) ?_
        refine g_u (s_as_imm rfl rfl) ?_
        refine g_nil ?_
        refine normal_thn ?_
        refine aw_ret ?_
        exact ⟨⟨(rfl : toAV (Al.look _ _) = some _).trans (congrArg (fun n : Nat => some (iv n)) hp), rfl⟩, ⟨(rfl : toAV (Al.look _ _) = some _).trans (congrArg (fun b => some (bv b)) (by rw [hasA, ← hp, decide_eq_false hll, Bool.false_and])), rfl⟩, trivial⟩

set_option maxHeartbeats 400000 in
theorem find_c (l : List GA) (k : ByteArray) (hr : risA none l) (hl : l.length ≤ 1000000000000) : PCall Tryz.prog Γ0 97 [.sl 7 (l.map avA), sv k] [iv (posA l k : Nat), bv (hasA l k)] := by
  refine pcall_of Tryz.func97 rfl Tryz.ntmps97 (by kernel_rfl) rfl fun w0 I0 G0 => ?_
  refine aw_seq ?_
  refine aw_region ?_
  refine g_u (s_as_imm rfl rfl) ?_
  refine g_u (s_as_imm rfl rfl) ?_
  refine g_nil ?_
  refine normal_thn ?_
  refine aw_seq ?_
  refine aw_region ?_
  refine g_u (s_mv_imm rfl rfl) ?_
  refine g_u (s_mv_imm rfl rfl) ?_
  refine g_u (s_call2 (bsf_c l k hr hl) rfl rfl) ?_
  refine g_u (s_extract rfl rfl rfl rfl) ?_
  refine g_u (s_extract rfl rfl rfl rfl) ?_
  refine g_u (s_as_imm rfl rfl) ?_
  refine g_u (s_as_imm rfl rfl) ?_
  refine g_nil ?_
  refine normal_thn ?_
  refine aw_ret ?_
  exact ⟨⟨(rfl : toAV (Al.look _ _) = some _).trans (congrArg some (by rfl)), rfl⟩, ⟨(rfl : toAV (Al.look _ _) = some _).trans (congrArg some (by rfl)), rfl⟩, trivial⟩

set_option maxHeartbeats 400000 in
theorem get_c (l : List GA) (k : ByteArray) (hr : risA none l) (hl : l.length ≤ 1000000000000) : PCall Tryz.prog Γ0 152 [.sl 7 (l.map avA), sv k] [((getA l k).getD zeroV).av, bv (getA l k).isSome] := by
  refine pcall_of Tryz.func152 rfl Tryz.ntmps152 (by kernel_rfl) rfl fun w0 I0 G0 => ?_
  refine aw_seq ?_
  refine aw_region ?_
  refine g_uG (s_alloc' 1004 rfl rfl rfl tZ91) rfl ?_
  refine g_u (s_as_imm rfl rfl) ?_
  refine g_nil ?_
  refine normal_thn ?_
  refine aw_seq ?_
  refine aw_seq ?_
  refine aw_region ?_
  refine g_u (s_mv_imm rfl rfl) ?_
  refine g_u (s_mv_imm rfl rfl) ?_
  refine g_u (s_call2 (find_c l k hr hl) rfl rfl) ?_
  refine g_u (s_mv_tup rfl rfl) ?_
  refine g_u (s_extract rfl rfl rfl rfl) ?_
  refine g_u (s_extract rfl rfl rfl rfl) ?_
  refine g_u (s_as_imm rfl rfl) ?_
  refine g_u (s_as_imm rfl rfl) ?_
  refine g_nil ?_
  refine normal_thn ?_
  refine aw_seq ?_
  refine aw_region ?_
  refine g_u (s_mv_imm rfl rfl) ?_
  refine g_nil ?_
  refine normal_thn ?_
  refine aw_cond rfl (fun hb1 => ?_) (fun hb1 => ?_)
  · skip
    have hh : hasA l k = true := hb1
    have hll : posA l k < l.length := by unfold hasA at hh; simp at hh; exact hh.1
    refine aw_seq ?_
    refine aw_region ?_
    refine g_u (s_mv_imm rfl rfl) ?_
    refine g_u (s_mv_imm rfl rfl) ?_
    refine g_u (s_indexAddr rfl rfl rfl Tryz.underlying46 tS93 (by omega) (ixA hll)) ?_
    refine g_u (s_fieldAddr_cp rfl rfl fa93_1 rfl rfl) ?_
    refine g_u (s_load_cp rfl rfl tA91 tS91 rfl rfl) ?_
    refine g_u (s_store_imm rfl rfl rfl tS91 rfl rfl) ?_
    refine g_u (s_as_imm rfl rfl) ?_
    refine g_nil ?_
    refine normal_thn ?_
    refine aw_ret ?_
    refine ret_thn ?_
    exact ⟨⟨_, _, _, _, _, _, _, rfl, rfl, tA91, tS91, rfl, rfl, (rfl : toAV _ = some _).trans (congrArg some (by (rw [getA_pos hr k, if_pos hh]; rfl)))⟩, ⟨(rfl : toAV (Al.look _ _) = some _).trans (congrArg some (by (rw [getA_pos hr k, if_pos hh]; rfl))), rfl⟩, trivial⟩
  · skip
    have hh : hasA l k = false := hb1
    refine aw_skip ?_
    refine normal_thn ?_
    refine aw_seq ?_
    refine aw_region ?_
    refine g_u (s_build rfl tU91 us91 pl91 rfl rfl rfl rfl) ?_
    refine g_u (s_store_imm rfl rfl rfl tS91 rfl rfl) ?_
    refine g_u (s_as_imm rfl rfl) ?_
    refine g_nil ?_
    refine normal_thn ?_
    refine aw_ret ?_
    exact ⟨⟨_, _, _, _, _, _, _, rfl, rfl, tA91, tS91, rfl, rfl, (rfl : toAV _ = some _).trans (congrArg some (by (rw [getA_pos hr k, if_neg (by rw [hh]; decide)]; rfl)))⟩, ⟨(rfl : toAV (Al.look _ _) = some _).trans (congrArg some (by (rw [getA_pos hr k, if_neg (by rw [hh]; decide)]; rfl))), rfl⟩, trivial⟩

theorem getA_ok {l : List GA} (k : ByteArray) (h : ∀ a ∈ l, a.ok) : ((getA l k).getD zeroV).ok ∧ ((getA l k).getD zeroV).wt ≤ 1 + wtAs l := by
  cases hg : getA l k with
  | none => exact ⟨by simp only [Option.getD_none]; rw [GV.ok_iff]; exact ⟨by decide, by decide, by decide, by decide, fun x hx => absurd hx (by simp [zeroV, GV.list]), fun x hx => absurd hx (by simp [zeroV, GV.map])⟩, by simp only [Option.getD_none]; rw [GV.wt_eq]; simp [zeroV, GV.list, GV.map, GV.text, wtVs, wtAs]; exact Nat.zero_le _⟩
  | some v =>
    obtain ⟨a, ha, rfl, _⟩ := getA_mem hg
    have := wtAs_mem ha
    have := a.wt_eq
    exact ⟨((GA.ok_iff a).1 (h a ha)).2, by simp only [Option.getD_some]; omega⟩

set_option maxHeartbeats 400000 in
theorem textA_c (l : List GA) (k : ByteArray) (hr : risA none l) (hl : l.length ≤ 1000000000000) (ho : ∀ a ∈ l, a.ok) (hw : wtAs l ≤ 9000000) : PCall Tryz.prog Γ0 99 [.sl 7 (l.map avA), sv k] [sv (textA l k)] := by
  refine pcall_of Tryz.func99 rfl Tryz.ntmps99 (by kernel_rfl) rfl fun w0 I0 G0 => ?_
  refine aw_seq ?_
  refine aw_region ?_
  refine g_u (s_as_imm rfl rfl) ?_
  refine g_nil ?_
  refine normal_thn ?_
  refine aw_seq ?_
  refine aw_region ?_
  refine g_u (s_mv_imm rfl rfl) ?_
  refine g_u (s_mv_imm rfl rfl) ?_
  refine g_u (s_call2 (get_c l k hr hl) rfl rfl) ?_
  refine g_u (s_mv_tup rfl rfl) ?_
  refine g_u (s_extract rfl rfl rfl rfl) ?_
  refine g_u (s_extract rfl rfl rfl rfl) ?_
  refine g_uG (s_alloc' 1005 rfl rfl rfl tZ91) rfl ?_
  refine g_u (s_store_imm rfl rfl rfl tS91 rfl rfl) ?_
  refine g_u (s_as_imm rfl rfl) ?_
  refine g_nil ?_
  refine normal_thn ?_
  refine aw_seq ?_
  refine aw_region ?_
  refine g_u (s_load_agg rfl rfl rfl tA91 tS91 rfl rfl) ?_
  refine g_u (s_call1 (text_c _ (getA_ok k ho).1 (by have := (getA_ok k ho).2; omega)) rfl rfl) ?_
  refine g_u (s_as_imm rfl rfl) ?_
  refine g_nil ?_
  refine normal_thn ?_
  refine aw_ret ?_
  exact ⟨⟨(rfl : toAV (Al.look _ _) = some _).trans (congrArg some (by rfl)), rfl⟩, trivial⟩

set_option maxHeartbeats 400000 in
theorem rget_c (l : List GA) (k : ByteArray) (hl : l.length ≤ 1000000000000) : PCall Tryz.prog Γ0 157 [.sl 7 (l.map avA), sv k] [((getA l k).getD zeroV).av, bv (getA l k).isSome] := by
  refine pcall_of Tryz.func157 rfl Tryz.ntmps157 (by kernel_rfl) rfl fun w0 I0 G0 => ?_
  refine aw_seq ?_
  refine aw_region ?_
  refine g_uG (s_alloc' 1004 rfl rfl rfl tZ91) rfl ?_
  refine g_u (s_as_imm rfl rfl) ?_
  refine g_nil ?_
  refine normal_thn ?_
  refine aw_seq ?_
  refine aw_seq ?_
  refine aw_region ?_
  refine g_u (s_as_imm rfl rfl) ?_
  refine g_nil ?_
  refine normal_thn ?_
  refine aw_block ?_
  refine aw_loop' (fun i : Nat => [(0, .imm (.sl 7 (l.map avA))), (1, .imm (sv k)), (4, .ptr 1004 0), (1004, .box 91 (.imm z91)), (5, .imm (bv false)), (6, .imm (iv (i : Int)))]) (fun i => i ≤ l.length ∧ getA l k = getA (l.drop i) k) (fun i => l.length - i) (0) ?_ ⟨rfl, rfl, rfl, rfl, rfl, rfl, trivial⟩ ?_
  · exact ⟨Nat.zero_le _, rfl⟩
  · rintro i ⟨h1, h2⟩; (try dsimp only at h1 h2)
    refine aw_seq ?_
    refine aw_seq ?_
    refine aw_region ?_
    refine g_u (s_mv_imm rfl rfl) ?_
    refine g_u (s_mv_imm rfl rfl) ?_
    refine g_u (s_lenL rfl rfl Tryz.underlying46) ?_
    refine g_u (s_ltI rfl rfl rfl) ?_
    refine g_nil ?_
    refine normal_thn ?_
    refine aw_cond rfl (fun hb1 => ?_) (fun hb1 => ?_)
    · skip
      have hi : i < l.length := by have := of_decide_eq_true hb1; (try simp only [List.length_map] at this); omega
      refine aw_skip ?_
      refine normal_thn ?_
      refine aw_seq ?_
      refine aw_block ?_
      refine aw_seq ?_
      refine aw_region ?_
      refine g_u (s_mv_imm rfl rfl) ?_
      refine g_u (s_mv_imm rfl rfl) ?_
      refine g_u (s_indexAddr rfl rfl rfl Tryz.underlying46 tS93 (by omega) (ixA hi)) ?_
      refine g_u (s_fieldAddr_cp rfl rfl fa93_0 rfl rfl) ?_
      refine g_u (s_load_cp rfl rfl tA9 tS9 rfl rfl) ?_
      refine g_u (s_mv_imm rfl rfl) ?_
      refine g_u (s_eqS rfl rfl rfl) ?_
      refine g_nil ?_
      refine normal_thn ?_
      refine aw_cond rfl (fun hb2 => ?_) (fun hb2 => ?_)
      · skip
        have hke : (nthA l i).key = k := by have e := hb2; rw [str_beq] at e; exact of_decide_eq_true e
        refine aw_seq ?_
        refine aw_region ?_
        refine g_u (s_mv_imm rfl rfl) ?_
        refine g_u (s_mv_imm rfl rfl) ?_
        refine g_u (s_indexAddr rfl rfl rfl Tryz.underlying46 tS93 (by omega) (ixA hi)) ?_
        refine g_u (s_fieldAddr_cp rfl rfl fa93_1 rfl rfl) ?_
        refine g_u (s_load_cp rfl rfl tA91 tS91 rfl rfl) ?_
        refine g_u (s_store_imm rfl rfl rfl tS91 rfl rfl) ?_
        refine g_u (s_as_imm rfl rfl) ?_
        refine g_nil ?_
        refine normal_thn ?_
        refine aw_ret ?_
        refine ret_blk ?_
        refine ret_thn ?_
        refine ret_thn ?_
        refine ret_blk ?_
        refine ret_thn ?_
        exact ⟨⟨_, _, _, _, _, _, _, rfl, rfl, tA91, tS91, rfl, rfl, (rfl : toAV _ = some _).trans (congrArg some (by (rw [h2, getA_drop hi, if_pos hke]; rfl)))⟩, ⟨(rfl : toAV (Al.look _ _) = some _).trans (congrArg some (by (rw [h2, getA_drop hi, if_pos hke]; rfl))), rfl⟩, trivial⟩
      · skip
        have hke : ¬ (nthA l i).key = k := by have e := hb2; rw [str_beq] at e; exact of_decide_eq_false e
        refine aw_skip ?_
        refine normal_blk ?_
        refine normal_thn ?_
        refine aw_region ?_
        refine g_u (s_mv_imm rfl rfl) ?_
        refine g_u (s_add rfl rfl rfl) ?_
        refine g_u (s_as_imm rfl rfl) ?_
        refine g_nil ?_
        refine normal_thn ?_
        refine ⟨i + 1, ⟨hi, by rw [h2, getA_drop hi, if_neg hke]⟩, ⟨rfl, rfl, rfl, rfl, rfl, look_int rfl (by rw [wrap64 (by omega) (by omega)]; rfl), trivial⟩, by (try dsimp only); omega⟩
    · skip
      have hin : i = l.length := by have := of_decide_eq_false hb1; (try simp only [List.length_map] at this); omega
      refine aw_exit ?_
      refine exit_thn ?_
      refine exit_thn ?_
      refine exit_blk ?_
      refine normal_thn ?_
      refine aw_seq ?_
      refine aw_region ?_
      refine g_u (s_build rfl tU91 us91 pl91 rfl rfl rfl rfl) ?_
      refine g_u (s_store_imm rfl rfl rfl tS91 rfl rfl) ?_
      refine g_u (s_as_imm rfl rfl) ?_
      refine g_nil ?_
      refine normal_thn ?_
      refine aw_ret ?_
      exact ⟨⟨_, _, _, _, _, _, _, rfl, rfl, tA91, tS91, rfl, rfl, (rfl : toAV _ = some _).trans (congrArg some (by (rw [h2, hin, List.drop_length]; rfl)))⟩, ⟨(rfl : toAV (Al.look _ _) = some _).trans (congrArg some (by (rw [h2, hin, List.drop_length]; rfl))), rfl⟩, trivial⟩

set_option maxHeartbeats 400000 in
theorem rtextA_c (l : List GA) (k : ByteArray) (ho : ∀ a ∈ l, a.ok) (hw : wtAs l ≤ 9000000) : PCall Tryz.prog Γ0 103 [.sl 7 (l.map avA), sv k] [sv (textA l k)] := by
  have q1 := len_wtAs l
  refine pcall_of Tryz.func103 rfl Tryz.ntmps103 (by kernel_rfl) rfl fun w0 I0 G0 => ?_
  refine aw_seq ?_
  refine aw_region ?_
  refine g_u (s_as_imm rfl rfl) ?_
  refine g_nil ?_
  refine normal_thn ?_
  refine aw_seq ?_
  refine aw_region ?_
  refine g_u (s_mv_imm rfl rfl) ?_
  refine g_u (s_mv_imm rfl rfl) ?_
  refine g_u (s_call2 (rget_c _ _ (by first | assumption | omega)) rfl rfl) ?_
  refine g_u (s_mv_tup rfl rfl) ?_
  refine g_u (s_extract rfl rfl rfl rfl) ?_
  refine g_u (s_extract rfl rfl rfl rfl) ?_
  refine g_uG (s_alloc' 1005 rfl rfl rfl tZ91) rfl ?_
  refine g_u (s_store_imm rfl rfl rfl tS91 rfl rfl) ?_
  refine g_u (s_as_imm rfl rfl) ?_
  refine g_nil ?_
  refine normal_thn ?_
  refine aw_seq ?_
  refine aw_region ?_
  refine g_u (s_load_agg rfl rfl rfl tA91 tS91 rfl rfl) ?_
  refine g_u (s_call1 (rtext_c _ (getA_ok k ho).1 (by have := (getA_ok k ho).2; omega)) rfl rfl) ?_
  refine g_u (s_as_imm rfl rfl) ?_
  refine g_nil ?_
  refine normal_thn ?_
  refine aw_ret ?_
  exact ⟨⟨(rfl : toAV (Al.look _ _) = some _).trans (congrArg some (by rfl)), rfl⟩, trivial⟩

set_option maxHeartbeats 400000 in
theorem rservice_c (r : GRes) (ho : ∀ a ∈ r.attrs, a.ok) (hw : wtAs r.attrs ≤ 9000000) : PCall Tryz.prog Γ0 72 [r.av] [sv (serviceM r)] := by
  refine pcall_of Tryz.func72 rfl Tryz.ntmps72 (by kernel_rfl) rfl fun w0 I0 G0 => ?_
  refine aw_seq ?_
  refine aw_region ?_
  refine g_uG (s_box_imm 1001 rfl rfl rfl rfl) rfl ?_
  refine g_u (s_as_imm rfl rfl) ?_
  refine g_nil ?_
  refine normal_thn ?_
  refine aw_seq ?_
  refine aw_region ?_
  refine g_u (s_fieldAddr rfl rfl fa58_0 rfl) ?_
  refine g_u (s_load_imm rfl rfl rfl tA46 tS46 rfl rfl) ?_
  refine g_u (s_call1 (rtextA_c r.attrs skey ho hw) rfl rfl) ?_
  refine g_u (s_as_imm rfl rfl) ?_
  refine g_nil ?_
  refine normal_thn ?_
  refine aw_ret ?_
  exact ⟨⟨(rfl : toAV (Al.look _ _) = some _).trans (congrArg some (by rfl)), rfl⟩, trivial⟩

set_option maxHeartbeats 400000 in
theorem service_c (r : GRes) (ho : ∀ a ∈ r.attrs, a.ok) (hw : wtAs r.attrs ≤ 9000000) (hr : risA none r.attrs) : PCall Tryz.prog Γ0 68 [r.av] [sv (serviceM r)] := by
  have q1 := len_wtAs r.attrs
  refine pcall_of Tryz.func68 rfl Tryz.ntmps68 (by kernel_rfl) rfl fun w0 I0 G0 => ?_
  refine aw_seq ?_
  refine aw_region ?_
  refine g_uG (s_box_imm 1001 rfl rfl rfl rfl) rfl ?_
  refine g_u (s_as_imm rfl rfl) ?_
  refine g_nil ?_
  refine normal_thn ?_
  refine aw_seq ?_
  refine aw_region ?_
  refine g_u (s_fieldAddr rfl rfl fa58_0 rfl) ?_
  refine g_u (s_load_imm rfl rfl rfl tA46 tS46 rfl rfl) ?_
  refine g_u (s_call1 (textA_c r.attrs skey hr (by omega) ho hw) rfl rfl) ?_
  refine g_u (s_as_imm rfl rfl) ?_
  refine g_nil ?_
  refine normal_thn ?_
  refine aw_ret ?_
  exact ⟨⟨(rfl : toAV (Al.look _ _) = some _).trans (congrArg some (by rfl)), rfl⟩, trivial⟩

end Go.Proofs

namespace Go.Proofs
open Go Go.Al
set_option maxRecDepth 10000
set_option maxHeartbeats 400000 in
theorem rattrs_c (l : List GA) (ho : ∀ a ∈ l, a.ok) (hw : wtAs l ≤ 10000000) : PCall Tryz.prog Γ0 70 [.sl 7 (l.map avA)] [iv (attrsW l : Nat)] := by
  have q0 := attrsW_le l
  have qs := attrsW_sum l
  have ql := len_wtAs l
  refine pcall_of Tryz.func70 rfl Tryz.ntmps70 (by kernel_rfl) rfl fun w0 I0 G0 => ?_
  refine aw_seq ?_
  refine aw_region ?_
  refine g_u (s_as_imm rfl rfl) ?_
  refine g_nil ?_
  refine normal_thn ?_
  refine aw_seq ?_
  refine aw_region ?_
  refine g_u (s_as_imm rfl rfl) ?_
  refine g_nil ?_
  refine normal_thn ?_
  refine aw_seq ?_
  refine aw_seq ?_
  refine aw_region ?_
  refine g_u (s_as_imm rfl rfl) ?_
  refine g_nil ?_
  refine normal_thn ?_
  refine aw_block ?_
  refine aw_loop' (fun i : Nat => [(0, .imm (.sl 7 (l.map avA))), (3, .imm (iv (sumBy attrW (l.take i) : Nat))), (4, .imm (iv (i : Int)))]) (fun i => i ≤ l.length) (fun i => l.length - i) (0) ?_ ⟨rfl, rfl, rfl, trivial⟩ ?_
  · exact Nat.zero_le _
  · rintro i h1; have h1 : i ≤ l.length := h1; have hs0 := sumBy_take attrW l i
    refine aw_seq ?_
    refine aw_seq ?_
    refine aw_region ?_
    refine g_u (s_mv_imm rfl rfl) ?_
    refine g_u (s_mv_imm rfl rfl) ?_
    refine g_u (s_lenL rfl rfl Tryz.underlying46) ?_
    refine g_u (s_ltI rfl rfl rfl) ?_
    refine g_nil ?_
    refine normal_thn ?_
    refine aw_cond rfl (fun hb1 => ?_) (fun hb1 => ?_)
    · skip
      have hi : i < l.length := by have := of_decide_eq_true hb1; (try simp only [List.length_map] at this); omega
      have hx : (nthA l i).val.wt ≤ 10000000 := by have := wtAs_mem (nthA_mem hi); have := (nthA l i).wt_eq; omega
      have hy := textM_le (nthA l i).val
      have hz := wtAs_mem (nthA_mem hi)
      have hz2 := (nthA l i).wt_eq
      refine aw_skip ?_
      refine normal_thn ?_
      refine aw_seq ?_
      refine aw_block ?_
      refine aw_draw mixed ?_
      refine g_u (s_mv_imm rfl rfl) ?_
      refine g_u (s_add rfl rfl rfl) ?_
      refine g_u (s_mv_imm rfl rfl) ?_
      refine g_u (s_mv_imm rfl rfl) ?_
      refine g_u (s_indexAddr rfl rfl rfl Tryz.underlying46 tS93 (by omega) (ixA hi)) ?_
      refine g_u (s_fieldAddr_cp rfl rfl fa93_0 rfl rfl) ?_
      refine g_u (s_load_cp rfl rfl tA9 tS9 rfl rfl) ?_
      refine g_u (s_lenS rfl rfl Tryz.underlying9) ?_
      refine g_u (s_mul rfl rfl rfl) ?_
      refine g_u (s_add rfl rfl rfl) ?_
      refine g_u (s_mv_imm rfl rfl) ?_
      refine g_u (s_mv_imm rfl rfl) ?_
      refine g_u (s_indexAddr rfl rfl rfl Tryz.underlying46 tS93 (by omega) (ixA hi)) ?_
      refine g_u (s_fieldAddr_cp rfl rfl fa93_1 rfl rfl) ?_
      refine g_u (s_load_cp rfl rfl tA91 tS91 rfl rfl) ?_
      refine g_u (s_call1 (rtext_c _ ((GA.ok_iff _).1 (ho _ (nthA_mem hi))).2 hx) rfl rfl) ?_
      refine g_u (s_lenS rfl rfl Tryz.underlying9) ?_
      refine g_u (s_mul rfl rfl rfl) ?_
      refine g_u (s_add rfl rfl rfl) ?_
      refine g_u (s_as_imm rfl rfl) ?_
      refine g_nil ⟨by kernel_rfl, ?_⟩
      refine normal_blk ?_
      refine normal_thn ?_
      refine aw_region ?_
      refine g_u (s_mv_imm rfl rfl) ?_
      refine g_u (s_add rfl rfl rfl) ?_
      refine g_u (s_as_imm rfl rfl) ?_
      refine g_nil ?_
      refine normal_thn ?_
      have q1 := sumBy_nth_le (F := attrW) (d := a0) hi
      have q2 := sumBy_nth (F := attrW) (d := a0) hi
      refine ⟨i + 1, hi, ⟨rfl, look_int rfl (by rw [q2]; have qa : attrW (nth l i a0) = 64 + 6 * (nthA l i).key.size + 12 * (textM (nthA l i).val).size := rfl; (try dsimp only); ((try simp only [decide_eq_true_eq, decide_eq_false_iff_not, bne_iff_ne, ne_eq, beq_iff_eq, bne_eq_false_iff_eq, beq_eq_false_iff_ne, Bool.not_eq_true', Bool.not_eq_false', gt_iff_lt, ge_iff_le] at *); (repeat simp (disch := omega) only [wrap64, wrap32] at *)); omega), look_int rfl (by rw [wrap64 (by omega) (by omega)]; rfl), trivial⟩, by (try dsimp only); omega⟩
    · skip
      have hin : i = l.length := by have := of_decide_eq_false hb1; (try simp only [List.length_map] at this); omega
      refine aw_exit ?_
      refine exit_thn ?_
      refine exit_thn ?_
      refine exit_blk ?_
      refine normal_thn ?_
      refine aw_seq ?_
      refine aw_region ?_
      refine g_u (s_mv_imm rfl rfl) ?_
      refine g_u (s_as_imm rfl rfl) ?_
      refine g_nil ?_
      refine normal_thn ?_
      refine aw_ret ?_
      exact ⟨⟨(rfl : toAV (Al.look _ _) = some _).trans (congrArg some (by (exact congrArg iv (by rw [hin, List.take_length, ← attrsW_sum])))), rfl⟩, trivial⟩

set_option maxHeartbeats 400000 in
theorem rspanW_c (s : GSpan) (t : ByteArray) (ho : s.ok) (hw : s.wt ≤ 1000000) (ht : t.size ≤ 10000000) : PCall Tryz.prog Γ0 102 [s.av, sv t] [iv (spanW s t : Nat)] := by
  have q0 := spanW_le s t ht
  have qe := spanW_eq s t
  have qw : s.wt = 1 + s.state.size + s.name.size + s.note.size + wtAs s.attrs + sumBy GE.wt s.events + sumBy GL.wt s.links := rfl
  have ql := sumBy_len GE.wt (fun e => by unfold GE.wt; omega) s.events
  have qm := sumBy_len GL.wt (fun e => by unfold GL.wt; omega) s.links
  refine pcall_of Tryz.func102 rfl Tryz.ntmps102 (by kernel_rfl) rfl fun w0 I0 G0 => ?_
  refine aw_seq ?_
  refine aw_region ?_
  refine g_uG (s_box_imm 1002 rfl rfl rfl rfl) rfl ?_
  refine g_u (s_as_imm rfl rfl) ?_
  refine g_nil ?_
  refine normal_thn ?_
  refine aw_seq ?_
  refine aw_draw mixed ?_
  refine g_u (s_mv_imm rfl rfl) ?_
  refine g_u (s_fieldAddr rfl rfl fa52_3 rfl) ?_
  refine g_u (s_load_imm rfl rfl rfl tA9 tS9 rfl rfl) ?_
  refine g_u (s_catS rfl rfl rfl (by show _ ≤ (9223372036854775807 : Int); (try dsimp only); (try simp only [app_size]); omega)) ?_
  refine g_u (s_fieldAddr rfl rfl fa52_4 rfl) ?_
  refine g_u (s_load_imm rfl rfl rfl tA9 tS9 rfl rfl) ?_
  refine g_u (s_catS rfl rfl rfl (by show _ ≤ (9223372036854775807 : Int); (try dsimp only); (try simp only [app_size]); omega)) ?_
  refine g_u (s_fieldAddr rfl rfl fa52_11 rfl) ?_
  refine g_u (s_fieldAddr rfl rfl fa50_1 rfl) ?_
  refine g_u (s_load_imm rfl rfl rfl tA9 tS9 rfl rfl) ?_
  refine g_u (s_catS rfl rfl rfl (by show _ ≤ (9223372036854775807 : Int); (try dsimp only); (try simp only [app_size]); omega)) ?_
  refine g_u (s_lenS rfl rfl Tryz.underlying9) ?_
  refine g_u (s_mul rfl rfl rfl) ?_
  refine g_u (s_add rfl rfl rfl) ?_
  refine g_u (s_fieldAddr rfl rfl fa52_8 rfl) ?_
  refine g_u (s_load_imm rfl rfl rfl tA46 tS46 rfl rfl) ?_
  refine g_u (s_call1 (rattrs_c _ ho.2.2.2.1 (by omega)) rfl rfl) ?_
  refine g_u (s_add rfl rfl rfl) ?_
  refine g_u (s_as_imm rfl rfl) ?_
  refine g_nil ⟨by kernel_rfl, ?_⟩
  refine normal_thn ?_
  refine aw_seq ?_
  refine aw_seq ?_
  refine aw_region ?_
  refine g_u (s_as_imm rfl rfl) ?_
  refine g_nil ?_
  refine normal_thn ?_
  refine aw_block ?_
  refine aw_loop' (fun i : Nat => [(2, .ptr 1002 0), (1002, .box 52 (.imm s.av)), (5, .imm (iv (((512 + 6 * (t.size + s.state.size + s.name.size + s.note.size) + attrsW s.attrs) + sumBy evW (s.events.take i) : Nat) : Int))), (6, .imm (iv (i : Int)))]) (fun i => i ≤ s.events.length) (fun i => s.events.length - i) (0) ?_ ⟨rfl, rfl, look_int rfl (by simp only [app_size]; rw [show sumBy evW (s.events.take 0) = 0 from rfl]; ((try simp only [decide_eq_true_eq, decide_eq_false_iff_not, bne_iff_ne, ne_eq, beq_iff_eq, bne_eq_false_iff_eq, beq_eq_false_iff_ne, Bool.not_eq_true', Bool.not_eq_false', gt_iff_lt, ge_iff_le] at *); (repeat simp (disch := omega) only [wrap64, wrap32] at *)); omega), rfl, trivial⟩ ?_
  · exact Nat.zero_le _
  · rintro i h1; have h1 : i ≤ s.events.length := h1; have hs0 := sumBy_take evW s.events i
    refine aw_seq ?_
    refine aw_seq ?_
    refine aw_region ?_
    refine g_u (s_mv_imm rfl rfl) ?_
    refine g_u (s_fieldAddr rfl rfl fa52_9 rfl) ?_
    refine g_u (s_load_imm rfl rfl rfl tA47 tS47 rfl rfl) ?_
    refine g_u (s_lenL rfl rfl Tryz.underlying47) ?_
    refine g_u (s_ltI rfl rfl rfl) ?_
    refine g_nil ?_
    refine normal_thn ?_
    refine aw_cond rfl (fun hb1 => ?_) (fun hb1 => ?_)
    · skip
      have hi : i < s.events.length := by have := of_decide_eq_true hb1; (try simp only [List.length_map] at this); omega
      have q3 := sumBy_nth_le (F := evW) (d := ge0) hi
      have qa : evW (nth s.events i ge0) = 64 + 6 * (nthE s.events i).name.size + attrsW (nthE s.events i).attrs := rfl
      have hx : wtAs (nthE s.events i).attrs ≤ 10000000 := by have h5 := sumBy_mem GE.wt (nthE_mem hi); have h6 : (nthE s.events i).wt = 1 + (nthE s.events i).name.size + wtAs (nthE s.events i).attrs := rfl; omega
      refine aw_skip ?_
      refine normal_thn ?_
      refine aw_seq ?_
      refine aw_block ?_
      refine aw_draw mixed ?_
      refine g_u (s_mv_imm rfl rfl) ?_
      refine g_u (s_add rfl rfl rfl) ?_
      refine g_u (s_fieldAddr rfl rfl fa52_9 rfl) ?_
      refine g_u (s_load_imm rfl rfl rfl tA47 tS47 rfl rfl) ?_
      refine g_u (s_mv_imm rfl rfl) ?_
      refine g_u (s_indexAddr rfl rfl rfl Tryz.underlying47 tS95 (by omega) (ixE hi)) ?_
      refine g_u (s_fieldAddr_cp rfl rfl fa95_1 rfl rfl) ?_
      refine g_u (s_load_cp rfl rfl tA9 tS9 rfl rfl) ?_
      refine g_u (s_lenS rfl rfl Tryz.underlying9) ?_
      refine g_u (s_mul rfl rfl rfl) ?_
      refine g_u (s_add rfl rfl rfl) ?_
      refine g_u (s_fieldAddr rfl rfl fa52_9 rfl) ?_
      refine g_u (s_load_imm rfl rfl rfl tA47 tS47 rfl rfl) ?_
      refine g_u (s_mv_imm rfl rfl) ?_
      refine g_u (s_indexAddr rfl rfl rfl Tryz.underlying47 tS95 (by omega) (ixE hi)) ?_
      refine g_u (s_fieldAddr_cp rfl rfl fa95_2 rfl rfl) ?_
      refine g_u (s_load_cp rfl rfl tA46 tS46 rfl rfl) ?_
      refine g_u (s_call1 (rattrs_c _ (ho.2.2.2.2.1 _ (nthE_mem hi)).2.2 hx) rfl rfl) ?_
      refine g_u (s_add rfl rfl rfl) ?_
      refine g_u (s_as_imm rfl rfl) ?_
      refine g_nil ⟨by kernel_rfl, ?_⟩
      refine normal_blk ?_
      refine normal_thn ?_
      refine aw_region ?_
      refine g_u (s_mv_imm rfl rfl) ?_
      refine g_u (s_add rfl rfl rfl) ?_
      refine g_u (s_as_imm rfl rfl) ?_
      refine g_nil ?_
      refine normal_thn ?_
      have q1 : sumBy evW (s.events.take i) + (64 + 6 * (nthE s.events i).name.size + attrsW (nthE s.events i).attrs) ≤ sumBy evW s.events := sumBy_nth_le (F := evW) (d := ge0) hi
      have q2 : sumBy evW (s.events.take (i + 1)) = sumBy evW (s.events.take i) + (64 + 6 * (nthE s.events i).name.size + attrsW (nthE s.events i).attrs) := sumBy_nth (F := evW) (d := ge0) hi
      refine ⟨i + 1, hi, ⟨rfl, rfl, look_int rfl (by rw [q2]; ((try simp only [decide_eq_true_eq, decide_eq_false_iff_not, bne_iff_ne, ne_eq, beq_iff_eq, bne_eq_false_iff_eq, beq_eq_false_iff_ne, Bool.not_eq_true', Bool.not_eq_false', gt_iff_lt, ge_iff_le] at *); (repeat simp (disch := omega) only [wrap64, wrap32] at *)); omega), look_int rfl (by rw [wrap64 (by omega) (by omega)]; rfl), trivial⟩, by (try dsimp only); omega⟩
    · skip
      have hin : i = s.events.length := by have := of_decide_eq_false hb1; (try simp only [List.length_map] at this); omega
      refine aw_exit ?_
      refine exit_thn ?_
      refine exit_thn ?_
      refine exit_blk ?_
      refine normal_thn ?_
      refine aw_seq ?_
      refine aw_seq ?_
      refine aw_region ?_
      refine g_u (s_as_imm rfl rfl) ?_
      refine g_nil ?_
      refine normal_thn ?_
      refine aw_block ?_
      refine aw_loop' (fun i : Nat => [(2, .ptr 1002 0), (1002, .box 52 (.imm s.av)), (5, .imm (iv ((((512 + 6 * (t.size + s.state.size + s.name.size + s.note.size) + attrsW s.attrs) + sumBy evW s.events) + sumBy lkW (s.links.take i) : Nat) : Int))), (7, .imm (iv (i : Int)))]) (fun i => i ≤ s.links.length) (fun i => s.links.length - i) (0) ?_ ⟨rfl, rfl, look_int rfl (by rw [hin, List.take_length, show sumBy lkW (s.links.take 0) = 0 from rfl]; rfl), rfl, trivial⟩ ?_
      · exact Nat.zero_le _
      · rintro i h1; have h1 : i ≤ s.links.length := h1; have hs0 := sumBy_take lkW s.links i
        refine aw_seq ?_
        refine aw_seq ?_
        refine aw_region ?_
        refine g_u (s_mv_imm rfl rfl) ?_
        refine g_u (s_fieldAddr rfl rfl fa52_10 rfl) ?_
        refine g_u (s_load_imm rfl rfl rfl tA48 tS48 rfl rfl) ?_
        refine g_u (s_lenL rfl rfl Tryz.underlying48) ?_
        refine g_u (s_ltI rfl rfl rfl) ?_
        refine g_nil ?_
        refine normal_thn ?_
        refine aw_cond rfl (fun hb2 => ?_) (fun hb2 => ?_)
        · skip
          have hi : i < s.links.length := by have := of_decide_eq_true hb2; (try simp only [List.length_map] at this); omega
          have q3 := sumBy_nth_le (F := lkW) (d := gl0) hi
          have qa : lkW (nth s.links i gl0) = 64 + 6 * (nthL s.links i).state.size + attrsW (nthL s.links i).attrs := rfl
          have hx : wtAs (nthL s.links i).attrs ≤ 10000000 := by have h5 := sumBy_mem GL.wt (nthL_mem hi); have h6 : (nthL s.links i).wt = 1 + (nthL s.links i).state.size + wtAs (nthL s.links i).attrs := rfl; omega
          refine aw_skip ?_
          refine normal_thn ?_
          refine aw_seq ?_
          refine aw_block ?_
          refine aw_draw mixed ?_
          refine g_u (s_mv_imm rfl rfl) ?_
          refine g_u (s_add rfl rfl rfl) ?_
          refine g_u (s_fieldAddr rfl rfl fa52_10 rfl) ?_
          refine g_u (s_load_imm rfl rfl rfl tA48 tS48 rfl rfl) ?_
          refine g_u (s_mv_imm rfl rfl) ?_
          refine g_u (s_indexAddr rfl rfl rfl Tryz.underlying48 tS107 (by omega) (ixL hi)) ?_
          refine g_u (s_fieldAddr_cp rfl rfl fa107_2 rfl rfl) ?_
          refine g_u (s_load_cp rfl rfl tA9 tS9 rfl rfl) ?_
          refine g_u (s_lenS rfl rfl Tryz.underlying9) ?_
          refine g_u (s_mul rfl rfl rfl) ?_
          refine g_u (s_add rfl rfl rfl) ?_
          refine g_u (s_fieldAddr rfl rfl fa52_10 rfl) ?_
          refine g_u (s_load_imm rfl rfl rfl tA48 tS48 rfl rfl) ?_
          refine g_u (s_mv_imm rfl rfl) ?_
          refine g_u (s_indexAddr rfl rfl rfl Tryz.underlying48 tS107 (by omega) (ixL hi)) ?_
          refine g_u (s_fieldAddr_cp rfl rfl fa107_3 rfl rfl) ?_
          refine g_u (s_load_cp rfl rfl tA46 tS46 rfl rfl) ?_
          refine g_u (s_call1 (rattrs_c _ (ho.2.2.2.2.2 _ (nthL_mem hi)).2.2.2 hx) rfl rfl) ?_
          refine g_u (s_add rfl rfl rfl) ?_
          refine g_u (s_as_imm rfl rfl) ?_
          refine g_nil ⟨by kernel_rfl, ?_⟩
          refine normal_blk ?_
          refine normal_thn ?_
          refine aw_region ?_
          refine g_u (s_mv_imm rfl rfl) ?_
          refine g_u (s_add rfl rfl rfl) ?_
          refine g_u (s_as_imm rfl rfl) ?_
          refine g_nil ?_
          refine normal_thn ?_
          have q1 : sumBy lkW (s.links.take i) + (64 + 6 * (nthL s.links i).state.size + attrsW (nthL s.links i).attrs) ≤ sumBy lkW s.links := sumBy_nth_le (F := lkW) (d := gl0) hi
          have q2 : sumBy lkW (s.links.take (i + 1)) = sumBy lkW (s.links.take i) + (64 + 6 * (nthL s.links i).state.size + attrsW (nthL s.links i).attrs) := sumBy_nth (F := lkW) (d := gl0) hi
          refine ⟨i + 1, hi, ⟨rfl, rfl, look_int rfl (by rw [q2]; ((try simp only [decide_eq_true_eq, decide_eq_false_iff_not, bne_iff_ne, ne_eq, beq_iff_eq, bne_eq_false_iff_eq, beq_eq_false_iff_ne, Bool.not_eq_true', Bool.not_eq_false', gt_iff_lt, ge_iff_le] at *); (repeat simp (disch := omega) only [wrap64, wrap32] at *)); omega), look_int rfl (by rw [wrap64 (by omega) (by omega)]; rfl), trivial⟩, by (try dsimp only); omega⟩
        · skip
          have hin2 : i = s.links.length := by have := of_decide_eq_false hb2; (try simp only [List.length_map] at this); omega
          refine aw_exit ?_
          refine exit_thn ?_
          refine exit_thn ?_
          refine exit_blk ?_
          refine normal_thn ?_
          refine aw_seq ?_
          refine aw_region ?_
          refine g_u (s_mv_imm rfl rfl) ?_
          refine g_u (s_as_imm rfl rfl) ?_
          refine g_nil ?_
          refine normal_thn ?_
          refine aw_ret ?_
          exact ⟨⟨(rfl : toAV (Al.look _ _) = some _).trans (congrArg some (by (exact congrArg iv (by rw [hin2, List.take_length, qe])))), rfl⟩, trivial⟩

end Go.Proofs

namespace Go.Proofs
open Go Go.Al
set_option maxRecDepth 10000
set_option maxHeartbeats 400000 in
theorem rscopeW_c (s : GScope) (t : ByteArray) (ho : s.ok) (hw : s.wt ≤ 1000000) (ht : t.size ≤ 10000000) : PCall Tryz.prog Γ0 71 [s.av, sv t] [iv (scopeW s t : Nat)] := by
  have q0 := scopeW_le s t ht
  have qe : scopeW s t = 64 + 6 * (s.name.size + s.version.size) + sumBy (fun x => spanW x t) s.spans := rfl
  have qw : s.wt = 1 + s.name.size + s.version.size + sumBy GSpan.wt s.spans := rfl
  have ql := sumBy_len GSpan.wt (fun e => by unfold GSpan.wt; omega) s.spans
  refine pcall_of Tryz.func71 rfl Tryz.ntmps71 (by kernel_rfl) rfl fun w0 I0 G0 => ?_
  refine aw_seq ?_
  refine aw_region ?_
  refine g_uG (s_box_imm 1002 rfl rfl rfl rfl) rfl ?_
  refine g_u (s_as_imm rfl rfl) ?_
  refine g_nil ?_
  refine normal_thn ?_
  refine aw_seq ?_
  refine aw_region ?_
  refine g_u (s_fieldAddr rfl rfl fa55_0 rfl) ?_
  refine g_u (s_load_imm rfl rfl rfl tA9 tS9 rfl rfl) ?_
  refine g_u (s_fieldAddr rfl rfl fa55_1 rfl) ?_
  refine g_u (s_load_imm rfl rfl rfl tA9 tS9 rfl rfl) ?_
  refine g_u (s_catS rfl rfl rfl (by show _ ≤ (9223372036854775807 : Int); (try dsimp only); (try simp only [app_size]); omega)) ?_
  refine g_u (s_lenS rfl rfl Tryz.underlying9) ?_
  refine g_u (s_mul rfl rfl rfl) ?_
  refine g_u (s_add rfl rfl rfl) ?_
  refine g_u (s_as_imm rfl rfl) ?_
  refine g_nil ?_
  refine normal_thn ?_
  refine aw_seq ?_
  refine aw_seq ?_
  refine aw_region ?_
  refine g_u (s_as_imm rfl rfl) ?_
  refine g_nil ?_
  refine normal_thn ?_
  refine aw_block ?_
  refine aw_loop' (fun i : Nat => [(2, .ptr 1002 0), (1002, .box 55 (.imm s.av)), (1, .imm (sv t)), (5, .imm (iv (((64 + 6 * (s.name.size + s.version.size)) + sumBy (fun x => spanW x t) (s.spans.take i) : Nat) : Int))), (6, .imm (iv (i : Int)))]) (fun i => i ≤ s.spans.length) (fun i => s.spans.length - i) (0) ?_ ⟨rfl, rfl, rfl, look_int rfl (by simp only [app_size]; rw [show sumBy (fun x => spanW x t) (s.spans.take 0) = 0 from rfl]; ((try simp only [decide_eq_true_eq, decide_eq_false_iff_not, bne_iff_ne, ne_eq, beq_iff_eq, bne_eq_false_iff_eq, beq_eq_false_iff_ne, Bool.not_eq_true', Bool.not_eq_false', gt_iff_lt, ge_iff_le] at *); (repeat simp (disch := omega) only [wrap64, wrap32] at *)); omega), rfl, trivial⟩ ?_
  · exact Nat.zero_le _
  · rintro i h1; have h1 : i ≤ s.spans.length := h1; have hs0 := sumBy_take (fun x => spanW x t) s.spans i
    refine aw_seq ?_
    refine aw_seq ?_
    refine aw_region ?_
    refine g_u (s_mv_imm rfl rfl) ?_
    refine g_u (s_fieldAddr rfl rfl fa55_2 rfl) ?_
    refine g_u (s_load_imm rfl rfl rfl tA53 tS53 rfl rfl) ?_
    refine g_u (s_lenL rfl rfl Tryz.underlying53) ?_
    refine g_u (s_ltI rfl rfl rfl) ?_
    refine g_nil ?_
    refine normal_thn ?_
    refine aw_cond rfl (fun hb1 => ?_) (fun hb1 => ?_)
    · skip
      have hi : i < s.spans.length := by have := of_decide_eq_true hb1; (try simp only [List.length_map] at this); omega
      have hx : (nthS s.spans i).wt ≤ 1000000 := by have h5 := sumBy_mem GSpan.wt (nthS_mem hi); omega
      refine aw_skip ?_
      refine normal_thn ?_
      refine aw_seq ?_
      refine aw_block ?_
      refine aw_region ?_
      refine g_u (s_mv_imm rfl rfl) ?_
      refine g_u (s_fieldAddr rfl rfl fa55_2 rfl) ?_
      refine g_u (s_load_imm rfl rfl rfl tA53 tS53 rfl rfl) ?_
      refine g_u (s_mv_imm rfl rfl) ?_
      refine g_u (s_indexAddr rfl rfl rfl Tryz.underlying53 tS52 (by omega) (ixS hi)) ?_
      refine g_u (s_load_cp rfl rfl tA52 tS52 rfl (by first | exact getS_w (GSpan.width _) rfl | rfl)) ?_
      refine g_u (s_mv_imm rfl rfl) ?_
      refine g_u (s_call1 (rspanW_c _ t (ho.2.2 _ (nthS_mem hi)) hx ht) rfl rfl) ?_
      refine g_u (s_add rfl rfl rfl) ?_
      refine g_u (s_as_imm rfl rfl) ?_
      refine g_nil ?_
      refine normal_blk ?_
      refine normal_thn ?_
      refine aw_region ?_
      refine g_u (s_mv_imm rfl rfl) ?_
      refine g_u (s_add rfl rfl rfl) ?_
      refine g_u (s_as_imm rfl rfl) ?_
      refine g_nil ?_
      refine normal_thn ?_
      have q1 : sumBy (fun x => spanW x t) (s.spans.take i) + spanW (nthS s.spans i) t ≤ sumBy (fun x => spanW x t) s.spans := sumBy_nth_le (F := (fun x => spanW x t)) (d := gs0) hi
      have q2 : sumBy (fun x => spanW x t) (s.spans.take (i + 1)) = sumBy (fun x => spanW x t) (s.spans.take i) + spanW (nthS s.spans i) t := sumBy_nth (F := (fun x => spanW x t)) (d := gs0) hi
      refine ⟨i + 1, hi, ⟨rfl, rfl, rfl, look_int rfl (by rw [q2]; ((try simp only [decide_eq_true_eq, decide_eq_false_iff_not, bne_iff_ne, ne_eq, beq_iff_eq, bne_eq_false_iff_eq, beq_eq_false_iff_ne, Bool.not_eq_true', Bool.not_eq_false', gt_iff_lt, ge_iff_le] at *); (repeat simp (disch := omega) only [wrap64, wrap32] at *)); omega), look_int rfl (by rw [wrap64 (by omega) (by omega)]; rfl), trivial⟩, by (try dsimp only); omega⟩
    · skip
      have hin : i = s.spans.length := by have := of_decide_eq_false hb1; (try simp only [List.length_map] at this); omega
      refine aw_exit ?_
      refine exit_thn ?_
      refine exit_thn ?_
      refine exit_blk ?_
      refine normal_thn ?_
      refine aw_seq ?_
      refine aw_region ?_
      refine g_u (s_mv_imm rfl rfl) ?_
      refine g_u (s_as_imm rfl rfl) ?_
      refine g_nil ?_
      refine normal_thn ?_
      refine aw_ret ?_
      exact ⟨⟨(rfl : toAV (Al.look _ _) = some _).trans (congrArg some (by (exact congrArg iv (by rw [hin, List.take_length, qe])))), rfl⟩, trivial⟩

/-- What is not too great to be walked through, part by part. -/
def fitR (r : GRes) : Prop := wtAs r.attrs ≤ 1000000 ∧ r.scopes.length ≤ 1000000 ∧ (serviceM r).size ≤ 10000000 ∧ ∀ c ∈ r.scopes, c.wt ≤ 1000000
theorem fit_small {r : GRes} (h : r.wt ≤ 60000) : fitR r := by
  have h1 := serviceM_le r
  have h2 : r.wt = 1 + wtAs r.attrs + sumBy GScope.wt r.scopes := rfl
  have h3 := sumBy_len GScope.wt (fun e => by unfold GScope.wt; omega) r.scopes
  exact ⟨by omega, by omega, by omega, fun c hc => by have := sumBy_mem GScope.wt hc; omega⟩
def fitB (b : List GRes) : Prop := wtB b ≤ 3000000 ∧ ∀ r ∈ b, fitR r
theorem fitB_small {b : List GRes} (h : wtB b ≤ 60000) : fitB b := ⟨by omega, fun r hr => fit_small (by have := sumBy_mem GRes.wt hr; unfold wtB at h; omega)⟩
set_option maxHeartbeats 400000 in
theorem rresWX_c (r : GRes) (ho : r.ok) (hw : r.wt ≤ 3000000) (hf : fitR r) : PCall Tryz.prog Γ0 41 [r.av] [iv (resW r : Nat)] := by
  have ht : (serviceM r).size ≤ 10000000 := hf.2.2.1
  have q0 := resW_le r ht
  have qe : resW r = 64 + attrsW r.attrs + sumBy (fun s => scopeW s (serviceM r)) r.scopes := rfl
  have qw : r.wt = 1 + wtAs r.attrs + sumBy GScope.wt r.scopes := rfl
  have ql := sumBy_len GScope.wt (fun e => by unfold GScope.wt; omega) r.scopes
  refine pcall_of Tryz.func41 rfl Tryz.ntmps41 (by kernel_rfl) rfl fun w0 I0 G0 => ?_
  refine aw_seq ?_
  refine aw_region ?_
  refine g_uG (s_box_imm 1001 rfl rfl rfl rfl) rfl ?_
  refine g_u (s_as_imm rfl rfl) ?_
  refine g_nil ?_
  refine normal_thn ?_
  refine aw_seq ?_
  refine aw_region ?_
  refine g_u (s_fieldAddr rfl rfl fa58_0 rfl) ?_
  refine g_u (s_load_imm rfl rfl rfl tA46 tS46 rfl rfl) ?_
  refine g_u (s_call1 (rattrs_c _ ho.1 (by omega)) rfl rfl) ?_
  refine g_u (s_add rfl rfl rfl) ?_
  refine g_u (s_as_imm rfl rfl) ?_
  refine g_nil ?_
  refine normal_thn ?_
  refine aw_seq ?_
  refine aw_seq ?_
  refine aw_region ?_
  refine g_u (s_as_imm rfl rfl) ?_
  refine g_nil ?_
  refine normal_thn ?_
  refine aw_block ?_
  refine aw_loop' (fun i : Nat => [(1, .ptr 1001 0), (1001, .box 58 (.imm r.av)), (3, .imm (iv (((64 + attrsW r.attrs) + sumBy (fun s => scopeW s (serviceM r)) (r.scopes.take i) : Nat) : Int))), (4, .imm (iv (i : Int)))]) (fun i => i ≤ r.scopes.length) (fun i => r.scopes.length - i) (0) ?_ ⟨rfl, rfl, look_int rfl (by rw [show sumBy (fun s => scopeW s (serviceM r)) (r.scopes.take 0) = 0 from rfl]; ((try simp only [decide_eq_true_eq, decide_eq_false_iff_not, bne_iff_ne, ne_eq, beq_iff_eq, bne_eq_false_iff_eq, beq_eq_false_iff_ne, Bool.not_eq_true', Bool.not_eq_false', gt_iff_lt, ge_iff_le] at *); (repeat simp (disch := omega) only [wrap64, wrap32] at *)); omega), rfl, trivial⟩ ?_
  · exact Nat.zero_le _
  · rintro i h1; have h1 : i ≤ r.scopes.length := h1; have hs0 := sumBy_take (fun s => scopeW s (serviceM r)) r.scopes i
    refine aw_seq ?_
    refine aw_seq ?_
    refine aw_region ?_
    refine g_u (s_mv_imm rfl rfl) ?_
    refine g_u (s_fieldAddr rfl rfl fa58_1 rfl) ?_
    refine g_u (s_load_imm rfl rfl rfl tA56 tS56 rfl rfl) ?_
    refine g_u (s_lenL rfl rfl Tryz.underlying56) ?_
    refine g_u (s_ltI rfl rfl rfl) ?_
    refine g_nil ?_
    refine normal_thn ?_
    refine aw_cond rfl (fun hb1 => ?_) (fun hb1 => ?_)
    · skip
      have hi : i < r.scopes.length := by have := of_decide_eq_true hb1; (try simp only [List.length_map] at this); omega
      have hx : (nthC r.scopes i).wt ≤ 1000000 := hf.2.2.2 _ (nthC_mem hi)
      refine aw_skip ?_
      refine normal_thn ?_
      refine aw_seq ?_
      refine aw_block ?_
      refine aw_draw mixed ?_
      refine g_u (s_mv_imm rfl rfl) ?_
      refine g_u (s_fieldAddr rfl rfl fa58_1 rfl) ?_
      refine g_u (s_load_imm rfl rfl rfl tA56 tS56 rfl rfl) ?_
      refine g_u (s_mv_imm rfl rfl) ?_
      refine g_u (s_indexAddr rfl rfl rfl Tryz.underlying56 tS55 (by omega) (ixC hi)) ?_
      refine g_u (s_load_cp rfl rfl tA55 tS55 rfl rfl) ?_
      refine g_u (s_load_imm rfl rfl rfl tA58 tS58 rfl rfl) ?_
      refine g_u (s_call1 (rservice_c r ho.1 (by omega)) rfl rfl) ?_
      refine g_u (s_call1 (rscopeW_c _ _ (ho.2 _ (nthC_mem hi)) hx ht) rfl rfl) ?_
      refine g_u (s_add rfl rfl rfl) ?_
      refine g_u (s_as_imm rfl rfl) ?_
      refine g_nil ⟨by kernel_rfl, ?_⟩
      refine normal_blk ?_
      refine normal_thn ?_
      refine aw_region ?_
      refine g_u (s_mv_imm rfl rfl) ?_
      refine g_u (s_add rfl rfl rfl) ?_
      refine g_u (s_as_imm rfl rfl) ?_
      refine g_nil ?_
      refine normal_thn ?_
      have q1 : sumBy (fun s => scopeW s (serviceM r)) (r.scopes.take i) + scopeW (nthC r.scopes i) (serviceM r) ≤ sumBy (fun s => scopeW s (serviceM r)) r.scopes := sumBy_nth_le (F := (fun s => scopeW s (serviceM r))) (d := gc0) hi
      have q2 : sumBy (fun s => scopeW s (serviceM r)) (r.scopes.take (i + 1)) = sumBy (fun s => scopeW s (serviceM r)) (r.scopes.take i) + scopeW (nthC r.scopes i) (serviceM r) := sumBy_nth (F := (fun s => scopeW s (serviceM r))) (d := gc0) hi
      refine ⟨i + 1, hi, ⟨rfl, rfl, look_int rfl (by rw [q2]; ((try simp only [decide_eq_true_eq, decide_eq_false_iff_not, bne_iff_ne, ne_eq, beq_iff_eq, bne_eq_false_iff_eq, beq_eq_false_iff_ne, Bool.not_eq_true', Bool.not_eq_false', gt_iff_lt, ge_iff_le] at *); (repeat simp (disch := omega) only [wrap64, wrap32] at *)); omega), look_int rfl (by rw [wrap64 (by omega) (by omega)]; rfl), trivial⟩, by (try dsimp only); omega⟩
    · skip
      have hin : i = r.scopes.length := by have := of_decide_eq_false hb1; (try simp only [List.length_map] at this); omega
      refine aw_exit ?_
      refine exit_thn ?_
      refine exit_thn ?_
      refine exit_blk ?_
      refine normal_thn ?_
      refine aw_seq ?_
      refine aw_region ?_
      refine g_u (s_mv_imm rfl rfl) ?_
      refine g_u (s_as_imm rfl rfl) ?_
      refine g_nil ?_
      refine normal_thn ?_
      refine aw_ret ?_
      exact ⟨⟨(rfl : toAV (Al.look _ _) = some _).trans (congrArg some (by (exact congrArg iv (by rw [hin, List.take_length, qe])))), rfl⟩, trivial⟩

theorem sumBy_le3 {α : Type} {F G : α → Nat} {k : Nat} : ∀ (l : List α), (∀ x ∈ l, F x ≤ k * G x) → sumBy F l ≤ k * sumBy G l
  | [], _ => by simp [sumBy]
  | x :: xs, h => by simp only [sumBy, Nat.mul_add]; have := h x List.mem_cons_self; have := sumBy_le3 xs (fun y hy => h y (List.mem_cons_of_mem _ hy)); omega

set_option maxHeartbeats 400000 in
theorem rbatchWX_c (b : List GRes) (ho : okB b) (hf : fitB b) : PCall Tryz.prog Γ0 19 [batchAv b] [iv (batchW b : Nat)] := by
  have hw := hf.1
  have ql := sumBy_len GRes.wt (fun e => by unfold GRes.wt; omega) b
  have q0 : sumBy resW b ≤ 100000000 * 3000000 := by have h5 := sumBy_le3 (F := resW) (k := 100000000) (G := GRes.wt) b (fun r hr => resW_le r (hf.2 r hr).2.2.1); unfold wtB at hw; omega
  have qe : batchW b = 16 + sumBy resW b := rfl
  have qw : wtB b = sumBy GRes.wt b := rfl
  refine pcall_of Tryz.func19 rfl Tryz.ntmps19 (by kernel_rfl) rfl fun w0 I0 G0 => ?_
  refine aw_seq ?_
  refine aw_region ?_
  refine g_uG (s_box_imm 1001 rfl rfl rfl rfl) rfl ?_
  refine g_u (s_as_imm rfl rfl) ?_
  refine g_nil ?_
  refine normal_thn ?_
  refine aw_seq ?_
  refine aw_region ?_
  refine g_u (s_as_imm rfl rfl) ?_
  refine g_nil ?_
  refine normal_thn ?_
  refine aw_seq ?_
  refine aw_seq ?_
  refine aw_region ?_
  refine g_u (s_as_imm rfl rfl) ?_
  refine g_nil ?_
  refine normal_thn ?_
  refine aw_block ?_
  refine aw_loop' (fun i : Nat => [(1, .ptr 1001 0), (1001, .box 24 (.imm (batchAv b))), (3, .imm (iv ((16 + sumBy resW (b.take i) : Nat) : Int))), (4, .imm (iv (i : Int)))]) (fun i => i ≤ b.length) (fun i => b.length - i) (0) ?_ ⟨rfl, rfl, rfl, rfl, trivial⟩ ?_
  · exact Nat.zero_le _
  · rintro i h1; have h1 : i ≤ b.length := h1; have hs0 := sumBy_take resW b i
    refine aw_seq ?_
    refine aw_seq ?_
    refine aw_region ?_
    refine g_u (s_mv_imm rfl rfl) ?_
    refine g_u (s_fieldAddr rfl rfl fa24_0 rfl) ?_
    refine g_u (s_load_imm rfl rfl rfl tA22 tS22 rfl rfl) ?_
    refine g_u (s_lenL rfl rfl Tryz.underlying22) ?_
    refine g_u (s_ltI rfl rfl rfl) ?_
    refine g_nil ?_
    refine normal_thn ?_
    refine aw_cond rfl (fun hb1 => ?_) (fun hb1 => ?_)
    · skip
      have hi : i < b.length := by have := of_decide_eq_true hb1; (try simp only [List.length_map] at this); omega
      have hx : (nthR b i).wt ≤ 3000000 := by have h5 := sumBy_mem GRes.wt (nthR_mem hi); omega
      refine aw_skip ?_
      refine normal_thn ?_
      refine aw_seq ?_
      refine aw_block ?_
      refine aw_region ?_
      refine g_u (s_mv_imm rfl rfl) ?_
      refine g_u (s_fieldAddr rfl rfl fa24_0 rfl) ?_
      refine g_u (s_load_imm rfl rfl rfl tA22 tS22 rfl rfl) ?_
      refine g_u (s_mv_imm rfl rfl) ?_
      refine g_u (s_indexAddr rfl rfl rfl Tryz.underlying22 tS58 (by omega) (ixR hi)) ?_
      refine g_u (s_load_cp rfl rfl tA58 tS58 rfl rfl) ?_
      refine g_u (s_call1 (rresWX_c _ (ho _ (nthR_mem hi)) hx (hf.2 _ (nthR_mem hi))) rfl rfl) ?_
      refine g_u (s_add rfl rfl rfl) ?_
      refine g_u (s_as_imm rfl rfl) ?_
      refine g_nil ?_
      refine normal_blk ?_
      refine normal_thn ?_
      refine aw_region ?_
      refine g_u (s_mv_imm rfl rfl) ?_
      refine g_u (s_add rfl rfl rfl) ?_
      refine g_u (s_as_imm rfl rfl) ?_
      refine g_nil ?_
      refine normal_thn ?_
      have q1 : sumBy resW (b.take i) + resW (nthR b i) ≤ sumBy resW b := sumBy_nth_le (F := resW) (d := gr0) hi
      have q2 : sumBy resW (b.take (i + 1)) = sumBy resW (b.take i) + resW (nthR b i) := sumBy_nth (F := resW) (d := gr0) hi
      refine ⟨i + 1, hi, ⟨rfl, rfl, look_int rfl (by rw [q2]; ((try simp only [decide_eq_true_eq, decide_eq_false_iff_not, bne_iff_ne, ne_eq, beq_iff_eq, bne_eq_false_iff_eq, beq_eq_false_iff_ne, Bool.not_eq_true', Bool.not_eq_false', gt_iff_lt, ge_iff_le] at *); (repeat simp (disch := omega) only [wrap64, wrap32] at *)); omega), look_int rfl (by rw [wrap64 (by omega) (by omega)]; rfl), trivial⟩, by (try dsimp only); omega⟩
    · skip
      have hin : i = b.length := by have := of_decide_eq_false hb1; (try simp only [List.length_map] at this); omega
      refine aw_exit ?_
      refine exit_thn ?_
      refine exit_thn ?_
      refine exit_blk ?_
      refine normal_thn ?_
      refine aw_seq ?_
      refine aw_region ?_
      refine g_u (s_mv_imm rfl rfl) ?_
      refine g_u (s_as_imm rfl rfl) ?_
      refine g_nil ?_
      refine normal_thn ?_
      refine aw_ret ?_
      exact ⟨⟨(rfl : toAV (Al.look _ _) = some _).trans (congrArg some (by (exact congrArg iv (by rw [hin, List.take_length, qe])))), rfl⟩, trivial⟩

end Go.Proofs

namespace Go.Proofs
open Go Go.Al
set_option maxRecDepth 10000
end Go.Proofs

namespace Go.Proofs
open Go Go.Al
set_option maxRecDepth 10000
theorem textB_plain (v : GV) : textM (plainV v) = textM v := by
  have h : ¬ ((plainV v).kind = 6 ∨ (plainV v).kind = 7) := by simp [plainV, GV.kind]
  rw [textE h, simp1 (by rfl)]; rfl
theorem plainV_ok {v : GV} (ho : v.ok) (hw : v.wt ≤ 1000000) : (plainV v).ok := by
  rw [GV.ok_iff]
  have := textM_le v
  refine ⟨⟨by show (0 : Int) ≤ 1; decide, by show (1 : Int) < 256; decide⟩, ?_, ⟨by show (-9223372036854775808 : Int) ≤ 0; decide, by show (0 : Int) < 9223372036854775808; decide⟩, ⟨by show (0 : Int) ≤ 0; decide, by show (0 : Int) < 18446744073709551616; decide⟩, fun x hx => absurd hx (by simp [plainV, GV.list]), fun x hx => absurd hx (by simp [plainV, GV.map])⟩
  show (textM v).size ≤ maxLen
  unfold maxLen; omega
end Go.Proofs

namespace Go.Proofs
open Go Go.Al
set_option maxRecDepth 10000




end Go.Proofs

namespace Go.Proofs
open Go Go.Al
set_option maxRecDepth 10000

end Go.Proofs

namespace Go.Proofs
open Go Go.Al
set_option maxRecDepth 10000


end Go.Proofs

namespace Go.Proofs
open Go Go.Al
set_option maxRecDepth 10000
set_option maxHeartbeats 4000000 in
theorem leftS_c (s : GSpan) (n : Int) (hn : -1000000000000 ≤ n ∧ n ≤ 1000000000) : PCall Tryz.prog Γ0 24 [s.av, iv n] [iv (leftS s n)] := by
  refine pcall_of Tryz.func24 rfl Tryz.ntmps24 (by kernel_rfl) rfl fun w0 I0 G0 => ?_
  refine aw_seq ?_
  refine aw_region ?_
  refine g_uG (s_box_imm 1002 rfl rfl rfl rfl) rfl ?_
  refine g_u (s_as_imm rfl rfl) ?_
  refine g_nil ?_
  refine normal_thn ?_
  refine aw_seq ?_
  refine aw_seq ?_
  refine aw_region ?_
  refine g_u (s_mv_imm rfl rfl) ?_
  refine g_u (s_ltI rfl rfl rfl) ?_
  refine g_u (s_mv_imm rfl rfl) ?_
  refine g_case (t := 9) rfl ?_
  rintro (hb1 | hb1)
  · rw [hb1]
    have z1 : n < 0 := of_decide_eq_true hb1
    refine g_skip rfl rfl rfl ?_
    refine g_skip rfl rfl rfl ?_
    refine g_skip rfl rfl rfl ?_
    refine g_skip rfl rfl rfl ?_
    refine g_skip rfl rfl rfl ?_
    refine g_u (s_pick_t rfl rfl rfl) ?_
    refine g_u (s_mv_imm rfl rfl) ?_
    refine g_skip rfl rfl rfl ?_
    refine g_skip rfl rfl rfl ?_
    refine g_skip rfl rfl rfl ?_
    refine g_skip rfl rfl rfl ?_
    refine g_skip rfl rfl rfl ?_
    refine g_u (s_pick_t rfl rfl rfl) ?_
    refine g_u (s_mv_imm rfl rfl) ?_
    refine g_skip rfl rfl rfl ?_
    refine g_skip rfl rfl rfl ?_
    refine g_skip rfl rfl rfl ?_
    refine g_skip rfl rfl rfl ?_
    refine g_skip rfl rfl rfl ?_
    refine g_skip rfl rfl rfl ?_
    refine g_u (s_pick_t rfl rfl rfl) ?_
    refine g_nil ?_
    refine normal_thn ?_
    refine aw_cond_true rfl ?_
    refine aw_seq ?_
    refine aw_region ?_
    refine g_u (s_as_imm rfl rfl) ?_
    refine g_nil ?_
    refine normal_thn ?_
    refine aw_ret ?_
    refine ret_thn ?_
    exact ⟨⟨(rfl : toAV (Al.look _ _) = some _).trans (congrArg some (by (exact congrArg iv (by unfold leftS; first | (rw [if_pos (by omega)]; done) | (rw [if_neg (by omega), g4, gfin]; done) | (rw [if_neg (by omega), g4, leftL_out hi2 (by omega) hk2]; done) | (rw [if_neg (by omega), h4, leftE_out hi (by omega) hk]; exact (leftL_neg _ (by omega)).symm))))), rfl⟩, trivial⟩
  · rw [hb1]
    have z1 : ¬ n < 0 := of_decide_eq_false hb1
    refine g_run rfl rfl (s_fieldAddr rfl rfl fa52_3 rfl) ?_
    refine g_run rfl rfl (s_load_imm rfl rfl rfl tA9 tS9 rfl rfl) ?_
    refine g_run rfl rfl (s_lenS rfl rfl Tryz.underlying9) ?_
    refine g_run rfl rfl (s_mv_imm rfl rfl) ?_
    refine g_run rfl rfl (s_gtI rfl rfl rfl) ?_
    refine g_u (s_pick_f rfl rfl rfl) ?_
    refine g_u (s_mv_imm rfl rfl) ?_
    refine g_case (t := 16) rfl ?_
    rintro (hb2 | hb2)
    · rw [hb2]
      have z2 : (s.state.size : Int) > n := of_decide_eq_true hb2
      refine g_skip rfl rfl rfl ?_
      refine g_skip rfl rfl rfl ?_
      refine g_skip rfl rfl rfl ?_
      refine g_skip rfl rfl rfl ?_
      refine g_skip rfl rfl rfl ?_
      refine g_u (s_pick_t rfl rfl rfl) ?_
      refine g_u (s_mv_imm rfl rfl) ?_
      refine g_skip rfl rfl rfl ?_
      refine g_skip rfl rfl rfl ?_
      refine g_skip rfl rfl rfl ?_
      refine g_skip rfl rfl rfl ?_
      refine g_skip rfl rfl rfl ?_
      refine g_skip rfl rfl rfl ?_
      refine g_u (s_pick_t rfl rfl rfl) ?_
      refine g_nil ?_
      refine normal_thn ?_
      refine aw_cond_true rfl ?_
      refine aw_seq ?_
      refine aw_region ?_
      refine g_u (s_as_imm rfl rfl) ?_
      refine g_nil ?_
      refine normal_thn ?_
      refine aw_ret ?_
      refine ret_thn ?_
      exact ⟨⟨(rfl : toAV (Al.look _ _) = some _).trans (congrArg some (by (exact congrArg iv (by unfold leftS; first | (rw [if_pos (by omega)]; done) | (rw [if_neg (by omega), g4, gfin]; done) | (rw [if_neg (by omega), g4, leftL_out hi2 (by omega) hk2]; done) | (rw [if_neg (by omega), h4, leftE_out hi (by omega) hk]; exact (leftL_neg _ (by omega)).symm))))), rfl⟩, trivial⟩
    · rw [hb2]
      have z2 : ¬ (s.state.size : Int) > n := of_decide_eq_false hb2
      refine g_run rfl rfl (s_fieldAddr rfl rfl fa52_4 rfl) ?_
      refine g_run rfl rfl (s_load_imm rfl rfl rfl tA9 tS9 rfl rfl) ?_
      refine g_run rfl rfl (s_lenS rfl rfl Tryz.underlying9) ?_
      refine g_run rfl rfl (s_mv_imm rfl rfl) ?_
      refine g_run rfl rfl (s_gtI rfl rfl rfl) ?_
      refine g_u (s_pick_f rfl rfl rfl) ?_
      refine g_u (s_mv_imm rfl rfl) ?_
      refine g_case (t := 23) rfl ?_
      rintro (hb3 | hb3)
      · rw [hb3]
        have z3 : (s.name.size : Int) > n := of_decide_eq_true hb3
        refine g_skip rfl rfl rfl ?_
        refine g_skip rfl rfl rfl ?_
        refine g_skip rfl rfl rfl ?_
        refine g_skip rfl rfl rfl ?_
        refine g_skip rfl rfl rfl ?_
        refine g_skip rfl rfl rfl ?_
        refine g_u (s_pick_t rfl rfl rfl) ?_
        refine g_nil ?_
        refine normal_thn ?_
        refine aw_cond_true rfl ?_
        refine aw_seq ?_
        refine aw_region ?_
        refine g_u (s_as_imm rfl rfl) ?_
        refine g_nil ?_
        refine normal_thn ?_
        refine aw_ret ?_
        refine ret_thn ?_
        exact ⟨⟨(rfl : toAV (Al.look _ _) = some _).trans (congrArg some (by (exact congrArg iv (by unfold leftS; first | (rw [if_pos (by omega)]; done) | (rw [if_neg (by omega), g4, gfin]; done) | (rw [if_neg (by omega), g4, leftL_out hi2 (by omega) hk2]; done) | (rw [if_neg (by omega), h4, leftE_out hi (by omega) hk]; exact (leftL_neg _ (by omega)).symm))))), rfl⟩, trivial⟩
      · rw [hb3]
        have z3 : ¬ (s.name.size : Int) > n := of_decide_eq_false hb3
        refine g_run rfl rfl (s_fieldAddr rfl rfl fa52_11 rfl) ?_
        refine g_run rfl rfl (s_fieldAddr rfl rfl fa50_1 rfl) ?_
        refine g_run rfl rfl (s_load_imm rfl rfl rfl tA9 tS9 rfl rfl) ?_
        refine g_run rfl rfl (s_lenS rfl rfl Tryz.underlying9) ?_
        refine g_run rfl rfl (s_mv_imm rfl rfl) ?_
        refine g_run rfl rfl (s_gtI rfl rfl rfl) ?_
        refine g_u (s_pick_f rfl rfl rfl) ?_
        refine g_nil ?_
        refine normal_thn ?_
        refine aw_cond rfl (fun hb4 => ?_) (fun hb4 => ?_)
        · skip
          have z4 : (s.note.size : Int) > n := of_decide_eq_true hb4
          refine aw_seq ?_
          refine aw_region ?_
          refine g_u (s_as_imm rfl rfl) ?_
          refine g_nil ?_
          refine normal_thn ?_
          refine aw_ret ?_
          refine ret_thn ?_
          exact ⟨⟨(rfl : toAV (Al.look _ _) = some _).trans (congrArg some (by (exact congrArg iv (by unfold leftS; first | (rw [if_pos (by omega)]; done) | (rw [if_neg (by omega), g4, gfin]; done) | (rw [if_neg (by omega), g4, leftL_out hi2 (by omega) hk2]; done) | (rw [if_neg (by omega), h4, leftE_out hi (by omega) hk]; exact (leftL_neg _ (by omega)).symm))))), rfl⟩, trivial⟩
        · skip
          have z4 : ¬ (s.note.size : Int) > n := of_decide_eq_false hb4
          have bm := leftAs_bd' s.attrs (n - 1 - s.state.size - s.name.size - s.note.size)
          have ew : leftAs s.attrs (IntKind.i64.wrap (IntKind.i64.wrap (IntKind.i64.wrap (IntKind.i64.wrap (n - 1) - s.state.size) - s.name.size) - s.note.size)) = leftAs s.attrs (n - 1 - s.state.size - s.name.size - s.note.size) := by rw [wrap64 (n := n - 1) (by omega) (by omega), wrap64 (n := n - 1 - s.state.size) (by omega) (by omega), wrap64 (n := n - 1 - s.state.size - s.name.size) (by omega) (by omega), wrap64 (by omega) (by omega)]
          refine aw_skip ?_
          refine normal_thn ?_
          refine aw_seq ?_
          refine aw_region ?_
          refine g_u (s_fieldAddr rfl rfl fa52_8 rfl) ?_
          refine g_u (s_load_imm rfl rfl rfl tA46 tS46 rfl rfl) ?_
          refine g_u (s_mv_imm rfl rfl) ?_
          refine g_u (s_sub rfl rfl rfl) ?_
          refine g_u (s_fieldAddr rfl rfl fa52_3 rfl) ?_
          refine g_u (s_load_imm rfl rfl rfl tA9 tS9 rfl rfl) ?_
          refine g_u (s_lenS rfl rfl Tryz.underlying9) ?_
          refine g_u (s_sub rfl rfl rfl) ?_
          refine g_u (s_fieldAddr rfl rfl fa52_4 rfl) ?_
          refine g_u (s_load_imm rfl rfl rfl tA9 tS9 rfl rfl) ?_
          refine g_u (s_lenS rfl rfl Tryz.underlying9) ?_
          refine g_u (s_sub rfl rfl rfl) ?_
          refine g_u (s_fieldAddr rfl rfl fa52_11 rfl) ?_
          refine g_u (s_fieldAddr rfl rfl fa50_1 rfl) ?_
          refine g_u (s_load_imm rfl rfl rfl tA9 tS9 rfl rfl) ?_
          refine g_u (s_lenS rfl rfl Tryz.underlying9) ?_
          refine g_u (s_sub rfl rfl rfl) ?_
          refine g_u (s_call1 (leftAs_c _ _ ⟨by ((try simp only [decide_eq_true_eq, decide_eq_false_iff_not, bne_iff_ne, ne_eq, beq_iff_eq, bne_eq_false_iff_eq, beq_eq_false_iff_ne, Bool.not_eq_true', Bool.not_eq_false', gt_iff_lt, ge_iff_le] at *); (repeat simp (disch := omega) only [wrap64, wrap32] at *)); omega, by ((try simp only [decide_eq_true_eq, decide_eq_false_iff_not, bne_iff_ne, ne_eq, beq_iff_eq, bne_eq_false_iff_eq, beq_eq_false_iff_ne, Bool.not_eq_true', Bool.not_eq_false', gt_iff_lt, ge_iff_le] at *); (repeat simp (disch := omega) only [wrap64, wrap32] at *)); omega⟩) rfl rfl) ?_
          refine g_u (s_as_imm rfl rfl) ?_
          refine g_nil ?_
          refine normal_thn ?_
          refine aw_seq ?_
          refine aw_seq ?_
          refine aw_region ?_
          refine g_u (s_as_imm rfl rfl) ?_
          refine g_nil ?_
          refine normal_thn ?_
          refine aw_block ?_
          refine aw_loop' (fun j : Nat × Int => [(2, .ptr 1002 0), (1002, .box 52 (.imm s.av)), (1, .imm (iv j.2)), (5, .imm (iv (j.1 : Int)))]) (fun j => j.1 ≤ s.events.length ∧ (-1000000000000 ≤ j.2 ∧ j.2 ≤ 1000000000) ∧ ((j.1 : Int) ≤ leftAs s.attrs (n - 1 - s.state.size - s.name.size - s.note.size) - j.2) ∧ leftE s.events (leftAs s.attrs (n - 1 - s.state.size - s.name.size - s.note.size)) = leftE (s.events.drop j.1) j.2) (fun j => s.events.length - j.1) (⟨0, leftAs s.attrs (n - 1 - s.state.size - s.name.size - s.note.size)⟩) ?_ ⟨rfl, rfl, look_int rfl (by rw [ew]), rfl, trivial⟩ ?_
          · exact ⟨Nat.zero_le _, ⟨by have := bm.2.1; omega, by omega⟩, by simp, rfl⟩
          · rintro ⟨i, m⟩ ⟨h1, h2, h3, h4⟩; dsimp only at h1 h2 h3 h4
            refine aw_seq ?_
            refine aw_seq ?_
            refine aw_region ?_
            refine g_u (s_mv_imm rfl rfl) ?_
            refine g_u (s_fieldAddr rfl rfl fa52_9 rfl) ?_
            refine g_u (s_load_imm rfl rfl rfl tA47 tS47 rfl rfl) ?_
            refine g_u (s_lenL rfl rfl Tryz.underlying47) ?_
            refine g_u (s_ltI rfl rfl rfl) ?_
            refine g_u (s_mv_imm rfl rfl) ?_
            refine g_case (t := 54) rfl ?_
            rintro (hb5 | hb5)
            · rw [hb5]
              have hi : i < s.events.length := by have := of_decide_eq_true hb5; (try simp only [List.length_map] at this); omega
              refine g_run rfl rfl (s_mv_imm rfl rfl) ?_
              refine g_run rfl rfl (s_geI rfl rfl rfl) ?_
              refine g_u (s_pick_t rfl rfl rfl) ?_
              refine g_nil ?_
              refine normal_thn ?_
              refine aw_cond rfl (fun hb6 => ?_) (fun hb6 => ?_)
              · skip
                have hs : ¬ m < 0 := by have := of_decide_eq_true hb6; omega
                refine aw_skip ?_
                refine normal_thn ?_
                refine aw_seq ?_
                refine aw_block ?_
                refine aw_seq ?_
                refine aw_seq ?_
                refine aw_region ?_
                refine g_u (s_fieldAddr rfl rfl fa52_9 rfl) ?_
                refine g_u (s_load_imm rfl rfl rfl tA47 tS47 rfl rfl) ?_
                refine g_u (s_mv_imm rfl rfl) ?_
                refine g_u (s_indexAddr rfl rfl rfl Tryz.underlying47 tS95 (by omega) (ixE hi)) ?_
                refine g_u (s_fieldAddr_cp rfl rfl fa95_1 rfl rfl) ?_
                refine g_u (s_load_cp rfl rfl tA9 tS9 rfl rfl) ?_
                refine g_u (s_lenS rfl rfl Tryz.underlying9) ?_
                refine g_u (s_mv_imm rfl rfl) ?_
                refine g_u (s_gtI rfl rfl rfl) ?_
                refine g_nil ?_
                refine normal_thn ?_
                refine aw_cond rfl (fun hb7 => ?_) (fun hb7 => ?_)
                · skip
                  have hk : ((nthE s.events i).name.size : Int) > m := of_decide_eq_true hb7
                  refine aw_seq ?_
                  refine aw_region ?_
                  refine g_u (s_as_imm rfl rfl) ?_
                  refine g_nil ?_
                  refine normal_thn ?_
                  refine aw_ret ?_
                  refine ret_thn ?_
                  refine ret_blk ?_
                  refine ret_thn ?_
                  refine ret_thn ?_
                  refine ret_blk ?_
                  refine ret_thn ?_
                  exact ⟨⟨(rfl : toAV (Al.look _ _) = some _).trans (congrArg some (by (exact congrArg iv (by unfold leftS; first | (rw [if_pos (by omega)]; done) | (rw [if_neg (by omega), g4, gfin]; done) | (rw [if_neg (by omega), g4, leftL_out hi2 (by omega) hk2]; done) | (rw [if_neg (by omega), h4, leftE_out hi (by omega) hk]; exact (leftL_neg _ (by omega)).symm))))), rfl⟩, trivial⟩
                · skip
                  have hk : ¬ ((nthE s.events i).name.size : Int) > m := of_decide_eq_false hb7
                  refine aw_skip ?_
                  refine normal_thn ?_
                  refine aw_draw mixed ?_
                  refine g_u (s_fieldAddr rfl rfl fa52_9 rfl) ?_
                  refine g_u (s_load_imm rfl rfl rfl tA47 tS47 rfl rfl) ?_
                  refine g_u (s_mv_imm rfl rfl) ?_
                  refine g_u (s_indexAddr rfl rfl rfl Tryz.underlying47 tS95 (by omega) (ixE hi)) ?_
                  refine g_u (s_fieldAddr_cp rfl rfl fa95_2 rfl rfl) ?_
                  refine g_u (s_load_cp rfl rfl tA46 tS46 rfl rfl) ?_
                  refine g_u (s_mv_imm rfl rfl) ?_
                  refine g_u (s_sub rfl rfl rfl) ?_
                  refine g_u (s_fieldAddr rfl rfl fa52_9 rfl) ?_
                  refine g_u (s_load_imm rfl rfl rfl tA47 tS47 rfl rfl) ?_
                  refine g_u (s_mv_imm rfl rfl) ?_
                  refine g_u (s_indexAddr rfl rfl rfl Tryz.underlying47 tS95 (by omega) (ixE hi)) ?_
                  refine g_u (s_fieldAddr_cp rfl rfl fa95_1 rfl rfl) ?_
                  refine g_u (s_load_cp rfl rfl tA9 tS9 rfl rfl) ?_
                  refine g_u (s_lenS rfl rfl Tryz.underlying9) ?_
                  refine g_u (s_sub rfl rfl rfl) ?_
                  refine g_u (s_call1 (leftAs_c _ _ ⟨by ((try simp only [decide_eq_true_eq, decide_eq_false_iff_not, bne_iff_ne, ne_eq, beq_iff_eq, bne_eq_false_iff_eq, beq_eq_false_iff_ne, Bool.not_eq_true', Bool.not_eq_false', gt_iff_lt, ge_iff_le] at *); (repeat simp (disch := omega) only [wrap64, wrap32] at *)); omega, by ((try simp only [decide_eq_true_eq, decide_eq_false_iff_not, bne_iff_ne, ne_eq, beq_iff_eq, bne_eq_false_iff_eq, beq_eq_false_iff_ne, Bool.not_eq_true', Bool.not_eq_false', gt_iff_lt, ge_iff_le] at *); (repeat simp (disch := omega) only [wrap64, wrap32] at *)); omega⟩) rfl rfl) ?_
                  refine g_u (s_as_imm rfl rfl) ?_
                  refine g_nil ⟨by kernel_rfl, ?_⟩
                  refine normal_blk ?_
                  refine normal_thn ?_
                  refine aw_region ?_
                  refine g_u (s_mv_imm rfl rfl) ?_
                  refine g_u (s_add rfl rfl rfl) ?_
                  refine g_u (s_as_imm rfl rfl) ?_
                  refine g_nil ?_
                  refine normal_thn ?_
                  have ed := leftE_drop (m := m) hi (by omega) hk
                  have bl := leftAs_bd' (nthE s.events i).attrs (m - 1 - (nthE s.events i).name.size)
                  refine ⟨⟨i + 1, leftAs (nthE s.events i).attrs (m - 1 - (nthE s.events i).name.size)⟩, ⟨hi, ⟨by dsimp only; omega, by dsimp only; omega⟩, by dsimp only; omega, by dsimp only; rw [h4, ed]⟩, ⟨rfl, rfl, look_int rfl (by dsimp only; rw [wrap64 (n := m - 1) (by omega) (by omega), wrap64 (by omega) (by omega)]), look_int rfl (by rw [wrap64 (by omega) (by omega)]; rfl), trivial⟩, by dsimp only; omega⟩
              · skip
                have hs : m < 0 := by have := of_decide_eq_false hb6; omega
                have hm : leftE s.events (leftAs s.attrs (n - 1 - s.state.size - s.name.size - s.note.size)) = m := by rw [h4]; exact leftE_neg _ hs
                refine aw_exit ?_
                refine exit_thn ?_
                refine exit_thn ?_
                refine exit_blk ?_
                refine normal_thn ?_
                refine aw_seq ?_
                refine aw_seq ?_
                refine aw_region ?_
                refine g_u (s_as_imm rfl rfl) ?_
                refine g_nil ?_
                refine normal_thn ?_
                refine aw_block ?_
                refine aw_loop' (fun j : Nat × Int => [(2, .ptr 1002 0), (1002, .box 52 (.imm s.av)), (1, .imm (iv j.2)), (6, .imm (iv (j.1 : Int)))]) (fun j => j.1 ≤ s.links.length ∧ (-1000000000000 ≤ j.2 ∧ j.2 ≤ 1000000000) ∧ ((j.1 : Int) ≤ leftE s.events (leftAs s.attrs (n - 1 - s.state.size - s.name.size - s.note.size)) - j.2) ∧ leftL s.links (leftE s.events (leftAs s.attrs (n - 1 - s.state.size - s.name.size - s.note.size))) = leftL (s.links.drop j.1) j.2) (fun j => s.links.length - j.1) (⟨0, m⟩) ?_ ⟨rfl, rfl, rfl, rfl, trivial⟩ ?_
                · exact ⟨Nat.zero_le _, h2, by rw [hm]; simp, by rw [hm]; rfl⟩
                · rintro ⟨i2, m2⟩ ⟨g1, g2, g3, g4⟩; dsimp only at g1 g2 g3 g4
                  refine aw_seq ?_
                  refine aw_seq ?_
                  refine aw_region ?_
                  refine g_u (s_mv_imm rfl rfl) ?_
                  refine g_u (s_fieldAddr rfl rfl fa52_10 rfl) ?_
                  refine g_u (s_load_imm rfl rfl rfl tA48 tS48 rfl rfl) ?_
                  refine g_u (s_lenL rfl rfl Tryz.underlying48) ?_
                  refine g_u (s_ltI rfl rfl rfl) ?_
                  refine g_u (s_mv_imm rfl rfl) ?_
                  refine g_case (t := 91) rfl ?_
                  rintro (hb8 | hb8)
                  · rw [hb8]
                    have hi2 : i2 < s.links.length := by have := of_decide_eq_true hb8; (try simp only [List.length_map] at this); omega
                    refine g_run rfl rfl (s_mv_imm rfl rfl) ?_
                    refine g_run rfl rfl (s_geI rfl rfl rfl) ?_
                    refine g_u (s_pick_t rfl rfl rfl) ?_
                    refine g_nil ?_
                    refine normal_thn ?_
                    refine aw_cond rfl (fun hb9 => ?_) (fun hb9 => ?_)
                    · skip
                      have hs2 : ¬ m2 < 0 := by have := of_decide_eq_true hb9; omega
                      refine aw_skip ?_
                      refine normal_thn ?_
                      refine aw_seq ?_
                      refine aw_block ?_
                      refine aw_seq ?_
                      refine aw_seq ?_
                      refine aw_region ?_
                      refine g_u (s_fieldAddr rfl rfl fa52_10 rfl) ?_
                      refine g_u (s_load_imm rfl rfl rfl tA48 tS48 rfl rfl) ?_
                      refine g_u (s_mv_imm rfl rfl) ?_
                      refine g_u (s_indexAddr rfl rfl rfl Tryz.underlying48 tS107 (by omega) (ixL hi2)) ?_
                      refine g_u (s_fieldAddr_cp rfl rfl fa107_2 rfl rfl) ?_
                      refine g_u (s_load_cp rfl rfl tA9 tS9 rfl rfl) ?_
                      refine g_u (s_lenS rfl rfl Tryz.underlying9) ?_
                      refine g_u (s_mv_imm rfl rfl) ?_
                      refine g_u (s_gtI rfl rfl rfl) ?_
                      refine g_nil ?_
                      refine normal_thn ?_
                      refine aw_cond rfl (fun hb10 => ?_) (fun hb10 => ?_)
                      · skip
                        have hk2 : ((nthL s.links i2).state.size : Int) > m2 := of_decide_eq_true hb10
                        refine aw_seq ?_
                        refine aw_region ?_
                        refine g_u (s_as_imm rfl rfl) ?_
                        refine g_nil ?_
                        refine normal_thn ?_
                        refine aw_ret ?_
                        refine ret_thn ?_
                        refine ret_blk ?_
                        refine ret_thn ?_
                        refine ret_thn ?_
                        refine ret_blk ?_
                        refine ret_thn ?_
                        exact ⟨⟨(rfl : toAV (Al.look _ _) = some _).trans (congrArg some (by (exact congrArg iv (by unfold leftS; first | (rw [if_pos (by omega)]; done) | (rw [if_neg (by omega), g4, gfin]; done) | (rw [if_neg (by omega), g4, leftL_out hi2 (by omega) hk2]; done) | (rw [if_neg (by omega), h4, leftE_out hi (by omega) hk]; exact (leftL_neg _ (by omega)).symm))))), rfl⟩, trivial⟩
                      · skip
                        have hk2 : ¬ ((nthL s.links i2).state.size : Int) > m2 := of_decide_eq_false hb10
                        refine aw_skip ?_
                        refine normal_thn ?_
                        refine aw_draw mixed ?_
                        refine g_u (s_fieldAddr rfl rfl fa52_10 rfl) ?_
                        refine g_u (s_load_imm rfl rfl rfl tA48 tS48 rfl rfl) ?_
                        refine g_u (s_mv_imm rfl rfl) ?_
                        refine g_u (s_indexAddr rfl rfl rfl Tryz.underlying48 tS107 (by omega) (ixL hi2)) ?_
                        refine g_u (s_fieldAddr_cp rfl rfl fa107_3 rfl rfl) ?_
                        refine g_u (s_load_cp rfl rfl tA46 tS46 rfl rfl) ?_
                        refine g_u (s_mv_imm rfl rfl) ?_
                        refine g_u (s_sub rfl rfl rfl) ?_
                        refine g_u (s_fieldAddr rfl rfl fa52_10 rfl) ?_
                        refine g_u (s_load_imm rfl rfl rfl tA48 tS48 rfl rfl) ?_
                        refine g_u (s_mv_imm rfl rfl) ?_
                        refine g_u (s_indexAddr rfl rfl rfl Tryz.underlying48 tS107 (by omega) (ixL hi2)) ?_
                        refine g_u (s_fieldAddr_cp rfl rfl fa107_2 rfl rfl) ?_
                        refine g_u (s_load_cp rfl rfl tA9 tS9 rfl rfl) ?_
                        refine g_u (s_lenS rfl rfl Tryz.underlying9) ?_
                        refine g_u (s_sub rfl rfl rfl) ?_
                        refine g_u (s_call1 (leftAs_c _ _ ⟨by ((try simp only [decide_eq_true_eq, decide_eq_false_iff_not, bne_iff_ne, ne_eq, beq_iff_eq, bne_eq_false_iff_eq, beq_eq_false_iff_ne, Bool.not_eq_true', Bool.not_eq_false', gt_iff_lt, ge_iff_le] at *); (repeat simp (disch := omega) only [wrap64, wrap32] at *)); omega, by ((try simp only [decide_eq_true_eq, decide_eq_false_iff_not, bne_iff_ne, ne_eq, beq_iff_eq, bne_eq_false_iff_eq, beq_eq_false_iff_ne, Bool.not_eq_true', Bool.not_eq_false', gt_iff_lt, ge_iff_le] at *); (repeat simp (disch := omega) only [wrap64, wrap32] at *)); omega⟩) rfl rfl) ?_
                        refine g_u (s_as_imm rfl rfl) ?_
                        refine g_nil ⟨by kernel_rfl, ?_⟩
                        refine normal_blk ?_
                        refine normal_thn ?_
                        refine aw_region ?_
                        refine g_u (s_mv_imm rfl rfl) ?_
                        refine g_u (s_add rfl rfl rfl) ?_
                        refine g_u (s_as_imm rfl rfl) ?_
                        refine g_nil ?_
                        refine normal_thn ?_
                        have ed := leftL_drop (m := m2) hi2 (by omega) hk2
                        have bl := leftAs_bd' (nthL s.links i2).attrs (m2 - 1 - (nthL s.links i2).state.size)
                        refine ⟨⟨i2 + 1, leftAs (nthL s.links i2).attrs (m2 - 1 - (nthL s.links i2).state.size)⟩, ⟨hi2, ⟨by dsimp only; omega, by dsimp only; omega⟩, by dsimp only; omega, by dsimp only; rw [g4, ed]⟩, ⟨rfl, rfl, look_int rfl (by dsimp only; rw [wrap64 (n := m2 - 1) (by omega) (by omega), wrap64 (by omega) (by omega)]), look_int rfl (by rw [wrap64 (by omega) (by omega)]; rfl), trivial⟩, by dsimp only; omega⟩
                    · skip
                      have hs2 : m2 < 0 := by have := of_decide_eq_false hb9; omega
                      have gfin : leftL (s.links.drop i2) m2 = m2 := leftL_neg _ hs2
                      refine aw_exit ?_
                      refine exit_thn ?_
                      refine exit_thn ?_
                      refine exit_blk ?_
                      refine normal_thn ?_
                      refine aw_seq ?_
                      refine aw_region ?_
                      refine g_u (s_mv_imm rfl rfl) ?_
                      refine g_u (s_as_imm rfl rfl) ?_
                      refine g_nil ?_
                      refine normal_thn ?_
                      refine aw_ret ?_
                      exact ⟨⟨(rfl : toAV (Al.look _ _) = some _).trans (congrArg some (by (exact congrArg iv (by unfold leftS; first | (rw [if_pos (by omega)]; done) | (rw [if_neg (by omega), g4, gfin]; done) | (rw [if_neg (by omega), g4, leftL_out hi2 (by omega) hk2]; done) | (rw [if_neg (by omega), h4, leftE_out hi (by omega) hk]; exact (leftL_neg _ (by omega)).symm))))), rfl⟩, trivial⟩
                  · rw [hb8]
                    have hin2 : i2 = s.links.length := by have := of_decide_eq_false hb8; (try simp only [List.length_map] at this); omega
                    have gfin : leftL (s.links.drop i2) m2 = m2 := by rw [hin2, List.drop_length]; rfl
                    refine g_skip rfl rfl rfl ?_
                    refine g_skip rfl rfl rfl ?_
                    refine g_u (s_pick_f rfl rfl rfl) ?_
                    refine g_nil ?_
                    refine normal_thn ?_
                    refine aw_cond_false rfl ?_
                    refine aw_exit ?_
                    refine exit_thn ?_
                    refine exit_thn ?_
                    refine exit_blk ?_
                    refine normal_thn ?_
                    refine aw_seq ?_
                    refine aw_region ?_
                    refine g_u (s_mv_imm rfl rfl) ?_
                    refine g_u (s_as_imm rfl rfl) ?_
                    refine g_nil ?_
                    refine normal_thn ?_
                    refine aw_ret ?_
                    exact ⟨⟨(rfl : toAV (Al.look _ _) = some _).trans (congrArg some (by (exact congrArg iv (by unfold leftS; first | (rw [if_pos (by omega)]; done) | (rw [if_neg (by omega), g4, gfin]; done) | (rw [if_neg (by omega), g4, leftL_out hi2 (by omega) hk2]; done) | (rw [if_neg (by omega), h4, leftE_out hi (by omega) hk]; exact (leftL_neg _ (by omega)).symm))))), rfl⟩, trivial⟩
            · rw [hb5]
              have hin : i = s.events.length := by have := of_decide_eq_false hb5; (try simp only [List.length_map] at this); omega
              have hm : leftE s.events (leftAs s.attrs (n - 1 - s.state.size - s.name.size - s.note.size)) = m := by rw [h4, hin, List.drop_length]; rfl
              refine g_skip rfl rfl rfl ?_
              refine g_skip rfl rfl rfl ?_
              refine g_u (s_pick_f rfl rfl rfl) ?_
              refine g_nil ?_
              refine normal_thn ?_
              refine aw_cond_false rfl ?_
              refine aw_exit ?_
              refine exit_thn ?_
              refine exit_thn ?_
              refine exit_blk ?_
              refine normal_thn ?_
              refine aw_seq ?_
              refine aw_seq ?_
              refine aw_region ?_
              refine g_u (s_as_imm rfl rfl) ?_
              refine g_nil ?_
              refine normal_thn ?_
              refine aw_block ?_
              refine aw_loop' (fun j : Nat × Int => [(2, .ptr 1002 0), (1002, .box 52 (.imm s.av)), (1, .imm (iv j.2)), (6, .imm (iv (j.1 : Int)))]) (fun j => j.1 ≤ s.links.length ∧ (-1000000000000 ≤ j.2 ∧ j.2 ≤ 1000000000) ∧ ((j.1 : Int) ≤ leftE s.events (leftAs s.attrs (n - 1 - s.state.size - s.name.size - s.note.size)) - j.2) ∧ leftL s.links (leftE s.events (leftAs s.attrs (n - 1 - s.state.size - s.name.size - s.note.size))) = leftL (s.links.drop j.1) j.2) (fun j => s.links.length - j.1) (⟨0, m⟩) ?_ ⟨rfl, rfl, rfl, rfl, trivial⟩ ?_
              · exact ⟨Nat.zero_le _, h2, by rw [hm]; simp, by rw [hm]; rfl⟩
              · rintro ⟨i2, m2⟩ ⟨g1, g2, g3, g4⟩; dsimp only at g1 g2 g3 g4
                refine aw_seq ?_
                refine aw_seq ?_
                refine aw_region ?_
                refine g_u (s_mv_imm rfl rfl) ?_
                refine g_u (s_fieldAddr rfl rfl fa52_10 rfl) ?_
                refine g_u (s_load_imm rfl rfl rfl tA48 tS48 rfl rfl) ?_
                refine g_u (s_lenL rfl rfl Tryz.underlying48) ?_
                refine g_u (s_ltI rfl rfl rfl) ?_
                refine g_u (s_mv_imm rfl rfl) ?_
                refine g_case (t := 91) rfl ?_
                rintro (hb11 | hb11)
                · rw [hb11]
                  have hi2 : i2 < s.links.length := by have := of_decide_eq_true hb11; (try simp only [List.length_map] at this); omega
                  refine g_run rfl rfl (s_mv_imm rfl rfl) ?_
                  refine g_run rfl rfl (s_geI rfl rfl rfl) ?_
                  refine g_u (s_pick_t rfl rfl rfl) ?_
                  refine g_nil ?_
                  refine normal_thn ?_
                  refine aw_cond rfl (fun hb12 => ?_) (fun hb12 => ?_)
                  · skip
                    have hs2 : ¬ m2 < 0 := by have := of_decide_eq_true hb12; omega
                    refine aw_skip ?_
                    refine normal_thn ?_
                    refine aw_seq ?_
                    refine aw_block ?_
                    refine aw_seq ?_
                    refine aw_seq ?_
                    refine aw_region ?_
                    refine g_u (s_fieldAddr rfl rfl fa52_10 rfl) ?_
                    refine g_u (s_load_imm rfl rfl rfl tA48 tS48 rfl rfl) ?_
                    refine g_u (s_mv_imm rfl rfl) ?_
                    refine g_u (s_indexAddr rfl rfl rfl Tryz.underlying48 tS107 (by omega) (ixL hi2)) ?_
                    refine g_u (s_fieldAddr_cp rfl rfl fa107_2 rfl rfl) ?_
                    refine g_u (s_load_cp rfl rfl tA9 tS9 rfl rfl) ?_
                    refine g_u (s_lenS rfl rfl Tryz.underlying9) ?_
                    refine g_u (s_mv_imm rfl rfl) ?_
                    refine g_u (s_gtI rfl rfl rfl) ?_
                    refine g_nil ?_
                    refine normal_thn ?_
                    refine aw_cond rfl (fun hb13 => ?_) (fun hb13 => ?_)
                    · skip
                      have hk2 : ((nthL s.links i2).state.size : Int) > m2 := of_decide_eq_true hb13
                      refine aw_seq ?_
                      refine aw_region ?_
                      refine g_u (s_as_imm rfl rfl) ?_
                      refine g_nil ?_
                      refine normal_thn ?_
                      refine aw_ret ?_
                      refine ret_thn ?_
                      refine ret_blk ?_
                      refine ret_thn ?_
                      refine ret_thn ?_
                      refine ret_blk ?_
                      refine ret_thn ?_
                      exact ⟨⟨(rfl : toAV (Al.look _ _) = some _).trans (congrArg some (by (exact congrArg iv (by unfold leftS; first | (rw [if_pos (by omega)]; done) | (rw [if_neg (by omega), g4, gfin]; done) | (rw [if_neg (by omega), g4, leftL_out hi2 (by omega) hk2]; done) | (rw [if_neg (by omega), h4, leftE_out hi (by omega) hk]; exact (leftL_neg _ (by omega)).symm))))), rfl⟩, trivial⟩
                    · skip
                      have hk2 : ¬ ((nthL s.links i2).state.size : Int) > m2 := of_decide_eq_false hb13
                      refine aw_skip ?_
                      refine normal_thn ?_
                      refine aw_draw mixed ?_
                      refine g_u (s_fieldAddr rfl rfl fa52_10 rfl) ?_
                      refine g_u (s_load_imm rfl rfl rfl tA48 tS48 rfl rfl) ?_
                      refine g_u (s_mv_imm rfl rfl) ?_
                      refine g_u (s_indexAddr rfl rfl rfl Tryz.underlying48 tS107 (by omega) (ixL hi2)) ?_
                      refine g_u (s_fieldAddr_cp rfl rfl fa107_3 rfl rfl) ?_
                      refine g_u (s_load_cp rfl rfl tA46 tS46 rfl rfl) ?_
                      refine g_u (s_mv_imm rfl rfl) ?_
                      refine g_u (s_sub rfl rfl rfl) ?_
                      refine g_u (s_fieldAddr rfl rfl fa52_10 rfl) ?_
                      refine g_u (s_load_imm rfl rfl rfl tA48 tS48 rfl rfl) ?_
                      refine g_u (s_mv_imm rfl rfl) ?_
                      refine g_u (s_indexAddr rfl rfl rfl Tryz.underlying48 tS107 (by omega) (ixL hi2)) ?_
                      refine g_u (s_fieldAddr_cp rfl rfl fa107_2 rfl rfl) ?_
                      refine g_u (s_load_cp rfl rfl tA9 tS9 rfl rfl) ?_
                      refine g_u (s_lenS rfl rfl Tryz.underlying9) ?_
                      refine g_u (s_sub rfl rfl rfl) ?_
                      refine g_u (s_call1 (leftAs_c _ _ ⟨by ((try simp only [decide_eq_true_eq, decide_eq_false_iff_not, bne_iff_ne, ne_eq, beq_iff_eq, bne_eq_false_iff_eq, beq_eq_false_iff_ne, Bool.not_eq_true', Bool.not_eq_false', gt_iff_lt, ge_iff_le] at *); (repeat simp (disch := omega) only [wrap64, wrap32] at *)); omega, by ((try simp only [decide_eq_true_eq, decide_eq_false_iff_not, bne_iff_ne, ne_eq, beq_iff_eq, bne_eq_false_iff_eq, beq_eq_false_iff_ne, Bool.not_eq_true', Bool.not_eq_false', gt_iff_lt, ge_iff_le] at *); (repeat simp (disch := omega) only [wrap64, wrap32] at *)); omega⟩) rfl rfl) ?_
                      refine g_u (s_as_imm rfl rfl) ?_
                      refine g_nil ⟨by kernel_rfl, ?_⟩
                      refine normal_blk ?_
                      refine normal_thn ?_
                      refine aw_region ?_
                      refine g_u (s_mv_imm rfl rfl) ?_
                      refine g_u (s_add rfl rfl rfl) ?_
                      refine g_u (s_as_imm rfl rfl) ?_
                      refine g_nil ?_
                      refine normal_thn ?_
                      have ed := leftL_drop (m := m2) hi2 (by omega) hk2
                      have bl := leftAs_bd' (nthL s.links i2).attrs (m2 - 1 - (nthL s.links i2).state.size)
                      refine ⟨⟨i2 + 1, leftAs (nthL s.links i2).attrs (m2 - 1 - (nthL s.links i2).state.size)⟩, ⟨hi2, ⟨by dsimp only; omega, by dsimp only; omega⟩, by dsimp only; omega, by dsimp only; rw [g4, ed]⟩, ⟨rfl, rfl, look_int rfl (by dsimp only; rw [wrap64 (n := m2 - 1) (by omega) (by omega), wrap64 (by omega) (by omega)]), look_int rfl (by rw [wrap64 (by omega) (by omega)]; rfl), trivial⟩, by dsimp only; omega⟩
                  · skip
                    have hs2 : m2 < 0 := by have := of_decide_eq_false hb12; omega
                    have gfin : leftL (s.links.drop i2) m2 = m2 := leftL_neg _ hs2
                    refine aw_exit ?_
                    refine exit_thn ?_
                    refine exit_thn ?_
                    refine exit_blk ?_
                    refine normal_thn ?_
                    refine aw_seq ?_
                    refine aw_region ?_
                    refine g_u (s_mv_imm rfl rfl) ?_
                    refine g_u (s_as_imm rfl rfl) ?_
                    refine g_nil ?_
                    refine normal_thn ?_
                    refine aw_ret ?_
                    exact ⟨⟨(rfl : toAV (Al.look _ _) = some _).trans (congrArg some (by (exact congrArg iv (by unfold leftS; first | (rw [if_pos (by omega)]; done) | (rw [if_neg (by omega), g4, gfin]; done) | (rw [if_neg (by omega), g4, leftL_out hi2 (by omega) hk2]; done) | (rw [if_neg (by omega), h4, leftE_out hi (by omega) hk]; exact (leftL_neg _ (by omega)).symm))))), rfl⟩, trivial⟩
                · rw [hb11]
                  have hin2 : i2 = s.links.length := by have := of_decide_eq_false hb11; (try simp only [List.length_map] at this); omega
                  have gfin : leftL (s.links.drop i2) m2 = m2 := by rw [hin2, List.drop_length]; rfl
                  refine g_skip rfl rfl rfl ?_
                  refine g_skip rfl rfl rfl ?_
                  refine g_u (s_pick_f rfl rfl rfl) ?_
                  refine g_nil ?_
                  refine normal_thn ?_
                  refine aw_cond_false rfl ?_
                  refine aw_exit ?_
                  refine exit_thn ?_
                  refine exit_thn ?_
                  refine exit_blk ?_
                  refine normal_thn ?_
                  refine aw_seq ?_
                  refine aw_region ?_
                  refine g_u (s_mv_imm rfl rfl) ?_
                  refine g_u (s_as_imm rfl rfl) ?_
                  refine g_nil ?_
                  refine normal_thn ?_
                  refine aw_ret ?_
                  exact ⟨⟨(rfl : toAV (Al.look _ _) = some _).trans (congrArg some (by (exact congrArg iv (by unfold leftS; first | (rw [if_pos (by omega)]; done) | (rw [if_neg (by omega), g4, gfin]; done) | (rw [if_neg (by omega), g4, leftL_out hi2 (by omega) hk2]; done) | (rw [if_neg (by omega), h4, leftE_out hi (by omega) hk]; exact (leftL_neg _ (by omega)).symm))))), rfl⟩, trivial⟩

end Go.Proofs

namespace Go.Proofs
open Go Go.Al

theorem leftE_bd : ∀ (es : List GE) (m : Int), leftE es m ≤ m ∧ (0 ≤ m → -1 ≤ leftE es m)
  | [], m => ⟨Int.le_refl _, fun h => by simp only [leftE]; omega⟩
  | e :: es, m => by
    rw [leftE]
    split
    · exact ⟨Int.le_refl _, fun h => by omega⟩
    split
    · exact ⟨by omega, fun h => by omega⟩
    rename_i h1 h2
    have b := leftAs_bd' e.attrs (m - 1 - e.name.size)
    have c := leftE_bd es (leftAs e.attrs (m - 1 - e.name.size))
    refine ⟨by omega, fun h => ?_⟩
    rcases Int.lt_or_le (leftAs e.attrs (m - 1 - e.name.size)) 0 with h3 | h3
    · rw [leftE_neg _ h3]; omega
    · exact c.2 h3
theorem leftL_bd : ∀ (es : List GL) (m : Int), leftL es m ≤ m ∧ (0 ≤ m → -1 ≤ leftL es m)
  | [], m => ⟨Int.le_refl _, fun h => by simp only [leftL]; omega⟩
  | e :: es, m => by
    rw [leftL]
    split
    · exact ⟨Int.le_refl _, fun h => by omega⟩
    split
    · exact ⟨by omega, fun h => by omega⟩
    rename_i h1 h2
    have b := leftAs_bd' e.attrs (m - 1 - e.state.size)
    have c := leftL_bd es (leftAs e.attrs (m - 1 - e.state.size))
    refine ⟨by omega, fun h => ?_⟩
    rcases Int.lt_or_le (leftAs e.attrs (m - 1 - e.state.size)) 0 with h3 | h3
    · rw [leftL_neg _ h3]; omega
    · exact c.2 h3
theorem leftS_bd (s : GSpan) {n : Int} (h : 0 ≤ n) : leftS s n ≤ n - 1 ∧ -(2 * n) - 1 ≤ leftS s n := by
  unfold leftS
  split
  · omega
  rename_i h1
  have a := leftAs_bd' s.attrs (n - 1 - s.state.size - s.name.size - s.note.size)
  generalize leftAs s.attrs (n - 1 - s.state.size - s.name.size - s.note.size) = m at a ⊢
  have b := leftE_bd s.events m
  have b2 := fun h => leftE_neg s.events (m := m) h
  generalize leftE s.events m = p at b b2 ⊢
  have c := leftL_bd s.links p
  have c2 := fun h => leftL_neg s.links (m := p) h
  generalize leftL s.links p = q at c c2 ⊢
  omega
theorem leftSp_bd : ∀ (es : List GSpan) (m : Int), leftSp es m ≤ m ∧ (0 ≤ m → -(2 * m) - 1 ≤ leftSp es m)
  | [], m => ⟨Int.le_refl _, fun h => by simp only [leftSp]; omega⟩
  | e :: es, m => by
    rw [leftSp]
    split
    · exact ⟨Int.le_refl _, fun h => by omega⟩
    rename_i h1
    have b := leftS_bd e (n := m) (by omega)
    have c := leftSp_bd es (leftS e m)
    have d := fun h => leftSp_neg es (m := leftS e m) h
    generalize leftSp es (leftS e m) = q at *
    omega
theorem leftC_bd : ∀ (es : List GScope) (m : Int), leftC es m ≤ m ∧ (0 ≤ m → -(2 * m) - 1 ≤ leftC es m)
  | [], m => ⟨Int.le_refl _, fun h => by simp only [leftC]; omega⟩
  | e :: es, m => by
    rw [leftC]
    split
    · exact ⟨Int.le_refl _, fun h => by omega⟩
    split
    · exact ⟨by omega, fun h => by omega⟩
    rename_i h1 h2
    have b := leftSp_bd e.spans (m - 1 - e.name.size - e.version.size)
    have b2 := fun h => leftSp_neg e.spans (m := m - 1 - e.name.size - e.version.size) h
    generalize leftSp e.spans (m - 1 - e.name.size - e.version.size) = p at *
    have c := leftC_bd es p
    have d := fun h => leftC_neg es (m := p) h
    generalize leftC es p = q at *
    omega
theorem leftR_le {b : List GRes} {n : Int} (h : ¬ leftR b n < 0) : (wtB b : Int) ≤ n := by have := leftR_wt b (m := n) (by omega); omega
end Go.Proofs

