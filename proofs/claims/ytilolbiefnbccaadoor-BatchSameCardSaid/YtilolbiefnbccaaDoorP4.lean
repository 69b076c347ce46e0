/- Texts that the proofs of this claim share, part 4: the abstract logic, plain Lean on values and batches, and walks. No condition but those typed in each lemma. -/
import Derived.Test.YtilolbiefnbccaaDoorP3
set_option linter.unusedSimpArgs false
set_option linter.unusedVariables false
namespace Go.Proofs
open Go Go.Al
set_option maxRecDepth 10000
set_option maxHeartbeats 400000 in
theorem rquote_c (s : ByteArray) (hs : s.size ≤ 100000000000) : PCall Tryd.prog Γ0 129 [sv s] [sv (strOf (quoteB (lst s)))] := by
  have hz := lst_len s
  have c1 : (ByteArray.mk #[92]).size = 1 := rfl
  have c4 : (ByteArray.mk #[92, 117, 48, 48]).size = 4 := rfl
  have c0 : (ByteArray.mk #[34]).size = 1 := rfl
  refine pcall_of Tryd.func129 rfl Tryd.ntmps129 (by kernel_rfl) rfl fun w0 I0 G0 => ?_
  refine aw_seq ?_
  refine aw_region ?_
  refine g_u (s_as_imm rfl rfl) ?_
  refine g_nil ?_
  refine normal_thn ?_
  refine aw_seq ?_
  refine aw_region ?_
  refine g_u (s_as_imm rfl rfl) ?_
  refine g_nil ?_
  refine normal_thn ?_
  refine aw_seq ?_
  refine aw_seq ?_
  refine aw_region ?_
  refine g_u (s_as_imm rfl rfl) ?_
  refine g_nil ?_
  refine normal_thn ?_
  refine aw_block ?_
  refine aw_loop' (fun j : Nat × ByteArray => [(0, .imm (sv s)), (3, .imm (sv j.2)), (4, .imm (iv (j.1 : Int)))]) (fun j => j.1 ≤ s.size ∧ lst j.2 = 34 :: escs ((lst s).take j.1)) (fun j => s.size - j.1) (⟨0, ⟨#[34]⟩⟩) ?_ ⟨rfl, rfl, rfl, trivial⟩ ?_
  · exact ⟨Nat.zero_le _, rfl⟩
  · rintro ⟨i, t⟩ ⟨h1, h2⟩; dsimp only at h1 h2; have hlen : t.size ≤ 1 + 6 * s.size := by have := escs_length ((lst s).take i); rw [← lst_len t, h2, List.length_cons]; rw [List.length_take] at this; omega
    have e2 : i < s.size → (IntKind.i64.wrap ((i : Int) + 1)).toNat = i + 1 := fun h => by rw [wrap64 (by omega) (by omega)]; omega
    have hx : (i : Int) < (s.size : Int) → (s.extract (i : Int).toNat (IntKind.i64.wrap ((i : Int) + 1)).toNat).size = 1 := fun h => by rw [e2 (by omega), Int.toNat_natCast]; exact ex1_size (by omega)
    refine aw_seq ?_
    refine aw_seq ?_
    refine aw_region ?_
    refine g_u (s_mv_imm rfl rfl) ?_
    refine g_u (s_mv_imm rfl rfl) ?_
    refine g_u (s_lenS rfl rfl Tryd.underlying9) ?_
    refine g_u (s_ltI rfl rfl rfl) ?_
    refine g_nil ?_
    refine normal_thn ?_
    refine aw_cond rfl (fun hb1 => ?_) (fun hb1 => ?_)
    · skip
      refine aw_skip ?_
      refine normal_thn ?_
      refine aw_seq ?_
      refine aw_block ?_
      refine aw_seq ?_
      refine aw_seq ?_
      refine aw_region ?_
      refine g_u (s_mv_imm rfl rfl) ?_
      refine g_u (s_mv_imm rfl rfl) ?_
      refine g_u (si_ix rfl rfl rfl Tryd.underlying9 (by ((try simp only [decide_eq_true_eq, decide_eq_false_iff_not, bne_iff_ne, ne_eq, beq_iff_eq, bne_eq_false_iff_eq, beq_eq_false_iff_ne, Bool.not_eq_true', Bool.not_eq_false', gt_iff_lt, ge_iff_le] at *); (repeat simp (disch := omega) only [wrap64, wrap32] at *)); omega)) ?_
      refine g_u (s_eqI rfl rfl rfl) ?_
      refine g_u (s_mv_imm rfl rfl) ?_
      refine g_case (t := 15) rfl ?_
      rintro (hb2 | hb2)
      · rw [hb2]
        refine g_skip rfl rfl rfl ?_
        refine g_skip rfl rfl rfl ?_
        refine g_skip rfl rfl rfl ?_
        refine g_skip rfl rfl rfl ?_
        refine g_u (s_pick_t rfl rfl rfl) ?_
        refine g_nil ?_
        refine normal_thn ?_
        refine aw_cond_true rfl ?_
        refine aw_region ?_
        refine g_u (s_mv_imm rfl rfl) ?_
        refine g_u (s_catS rfl rfl rfl (by show _ ≤ (9223372036854775807 : Int); (try dsimp only); first | (simp only [app_size, c0, c1, c4]; omega) | (have q := hx (of_decide_eq_true hb1); simp only [app_size, strOf_size, hexB_length, lst_len, q, c1, c4]; omega))) ?_
        refine g_u (s_as_imm rfl rfl) ?_
        refine g_nil ?_
        refine normal_thn ?_
        refine aw_seq ?_
        refine aw_region ?_
        refine g_u (s_mv_imm rfl rfl) ?_
        refine g_u (s_mv_imm rfl rfl) ?_
        refine g_u (si_ix rfl rfl rfl Tryd.underlying9 (by ((try simp only [decide_eq_true_eq, decide_eq_false_iff_not, bne_iff_ne, ne_eq, beq_iff_eq, bne_eq_false_iff_eq, beq_eq_false_iff_ne, Bool.not_eq_true', Bool.not_eq_false', gt_iff_lt, ge_iff_le] at *); (repeat simp (disch := omega) only [wrap64, wrap32] at *)); omega)) ?_
        refine g_u (s_ltI rfl rfl rfl) ?_
        refine g_nil ?_
        refine normal_thn ?_
        refine aw_cond rfl (fun hb3 => ?_) (fun hb3 => ?_)
        · skip
          refine aw_region ?_
          refine g_u (s_mv_imm rfl rfl) ?_
          refine g_u (s_catS rfl rfl rfl (by show _ ≤ (9223372036854775807 : Int); (try dsimp only); first | (simp only [app_size, c0, c1, c4]; omega) | (have q := hx (of_decide_eq_true hb1); simp only [app_size, strOf_size, hexB_length, lst_len, q, c1, c4]; omega))) ?_
          refine g_u (s_mv_imm rfl rfl) ?_
          refine g_u (s_mv_imm rfl rfl) ?_
          refine g_u (s_mv_imm rfl rfl) ?_
          refine g_u (s_add rfl rfl rfl) ?_
          refine g_u (si_lh rfl rfl rfl rfl Tryd.underlying9 (by ((try simp only [decide_eq_true_eq, decide_eq_false_iff_not, bne_iff_ne, ne_eq, beq_iff_eq, bne_eq_false_iff_eq, beq_eq_false_iff_ne, Bool.not_eq_true', Bool.not_eq_false', gt_iff_lt, ge_iff_le] at *); (repeat simp (disch := omega) only [wrap64, wrap32] at *)); omega)) ?_
          refine g_u (s_call1 (rhex_c _ (by have q := hx (of_decide_eq_true hb1); (try dsimp only); omega)) rfl rfl) ?_
          refine g_u (s_catS rfl rfl rfl (by show _ ≤ (9223372036854775807 : Int); (try dsimp only); first | (simp only [app_size, c0, c1, c4]; omega) | (have q := hx (of_decide_eq_true hb1); simp only [app_size, strOf_size, hexB_length, lst_len, q, c1, c4]; omega))) ?_
          refine g_u (s_as_imm rfl rfl) ?_
          refine g_nil ?_
          refine normal_blk ?_
          refine normal_thn ?_
          refine aw_region ?_
          refine g_u (s_mv_imm rfl rfl) ?_
          refine g_u (s_add rfl rfl rfl) ?_
          refine g_u (s_as_imm rfl rfl) ?_
          refine g_nil ?_
          refine normal_thn ?_
          change decide ((i : Int) < (s.size : Int)) = true at hb1
          have hi : i < s.size := by have := of_decide_eq_true hb1; omega
          obtain ⟨c, hc1, hc2⟩ := bAt_nat s i hi
          refine ⟨⟨i + 1, _⟩, ⟨hi, ?_⟩, ⟨rfl, rfl, look_int rfl (by rw [wrap64 (by omega) (by omega)]; rfl), trivial⟩, by dsimp only; omega⟩
          dsimp only at *
          rw [take_snoc hc1, escs_snoc, ← List.cons_append, ← h2, e2 hi, Int.toNat_natCast]
          simp only [beq_iff_eq, beq_eq_false_iff_ne, ne_eq, decide_eq_true_eq, decide_eq_false_iff_not] at *
          first | (exfalso; omega) | exact resc1 hc1 (.inl (by omega)) | exact resc1 hc1 (.inr (by omega)) | exact resc2 hc1 (by omega) (by omega) (by omega) | exact resc3 hc1 (by omega) (by omega) (by omega)
        · skip
          refine aw_region ?_
          refine g_u (s_mv_imm rfl rfl) ?_
          refine g_u (s_mv_imm rfl rfl) ?_
          refine g_u (s_mv_imm rfl rfl) ?_
          refine g_u (s_mv_imm rfl rfl) ?_
          refine g_u (s_add rfl rfl rfl) ?_
          refine g_u (si_lh rfl rfl rfl rfl Tryd.underlying9 (by ((try simp only [decide_eq_true_eq, decide_eq_false_iff_not, bne_iff_ne, ne_eq, beq_iff_eq, bne_eq_false_iff_eq, beq_eq_false_iff_ne, Bool.not_eq_true', Bool.not_eq_false', gt_iff_lt, ge_iff_le] at *); (repeat simp (disch := omega) only [wrap64, wrap32] at *)); omega)) ?_
          refine g_u (s_catS rfl rfl rfl (by show _ ≤ (9223372036854775807 : Int); (try dsimp only); first | (simp only [app_size, c0, c1, c4]; omega) | (have q := hx (of_decide_eq_true hb1); simp only [app_size, strOf_size, hexB_length, lst_len, q, c1, c4]; omega))) ?_
          refine g_u (s_as_imm rfl rfl) ?_
          refine g_nil ?_
          refine normal_blk ?_
          refine normal_thn ?_
          refine aw_region ?_
          refine g_u (s_mv_imm rfl rfl) ?_
          refine g_u (s_add rfl rfl rfl) ?_
          refine g_u (s_as_imm rfl rfl) ?_
          refine g_nil ?_
          refine normal_thn ?_
          change decide ((i : Int) < (s.size : Int)) = true at hb1
          have hi : i < s.size := by have := of_decide_eq_true hb1; omega
          obtain ⟨c, hc1, hc2⟩ := bAt_nat s i hi
          refine ⟨⟨i + 1, _⟩, ⟨hi, ?_⟩, ⟨rfl, rfl, look_int rfl (by rw [wrap64 (by omega) (by omega)]; rfl), trivial⟩, by dsimp only; omega⟩
          dsimp only at *
          rw [take_snoc hc1, escs_snoc, ← List.cons_append, ← h2, e2 hi, Int.toNat_natCast]
          simp only [beq_iff_eq, beq_eq_false_iff_ne, ne_eq, decide_eq_true_eq, decide_eq_false_iff_not] at *
          first | (exfalso; omega) | exact resc1 hc1 (.inl (by omega)) | exact resc1 hc1 (.inr (by omega)) | exact resc2 hc1 (by omega) (by omega) (by omega) | exact resc3 hc1 (by omega) (by omega) (by omega)
      · rw [hb2]
        refine g_run rfl rfl (s_mv_imm rfl rfl) ?_
        refine g_run rfl rfl (s_mv_imm rfl rfl) ?_
        refine g_run rfl rfl (si_ix rfl rfl rfl Tryd.underlying9 (by ((try simp only [decide_eq_true_eq, decide_eq_false_iff_not, bne_iff_ne, ne_eq, beq_iff_eq, bne_eq_false_iff_eq, beq_eq_false_iff_ne, Bool.not_eq_true', Bool.not_eq_false', gt_iff_lt, ge_iff_le] at *); (repeat simp (disch := omega) only [wrap64, wrap32] at *)); omega)) ?_
        refine g_run rfl rfl (s_eqI rfl rfl rfl) ?_
        refine g_u (s_pick_f rfl rfl rfl) ?_
        refine g_nil ?_
        refine normal_thn ?_
        refine aw_cond rfl (fun hb4 => ?_) (fun hb4 => ?_)
        · skip
          refine aw_region ?_
          refine g_u (s_mv_imm rfl rfl) ?_
          refine g_u (s_catS rfl rfl rfl (by show _ ≤ (9223372036854775807 : Int); (try dsimp only); first | (simp only [app_size, c0, c1, c4]; omega) | (have q := hx (of_decide_eq_true hb1); simp only [app_size, strOf_size, hexB_length, lst_len, q, c1, c4]; omega))) ?_
          refine g_u (s_as_imm rfl rfl) ?_
          refine g_nil ?_
          refine normal_thn ?_
          refine aw_seq ?_
          refine aw_region ?_
          refine g_u (s_mv_imm rfl rfl) ?_
          refine g_u (s_mv_imm rfl rfl) ?_
          refine g_u (si_ix rfl rfl rfl Tryd.underlying9 (by ((try simp only [decide_eq_true_eq, decide_eq_false_iff_not, bne_iff_ne, ne_eq, beq_iff_eq, bne_eq_false_iff_eq, beq_eq_false_iff_ne, Bool.not_eq_true', Bool.not_eq_false', gt_iff_lt, ge_iff_le] at *); (repeat simp (disch := omega) only [wrap64, wrap32] at *)); omega)) ?_
          refine g_u (s_ltI rfl rfl rfl) ?_
          refine g_nil ?_
          refine normal_thn ?_
          refine aw_cond rfl (fun hb5 => ?_) (fun hb5 => ?_)
          · skip
            refine aw_region ?_
            refine g_u (s_mv_imm rfl rfl) ?_
            refine g_u (s_catS rfl rfl rfl (by show _ ≤ (9223372036854775807 : Int); (try dsimp only); first | (simp only [app_size, c0, c1, c4]; omega) | (have q := hx (of_decide_eq_true hb1); simp only [app_size, strOf_size, hexB_length, lst_len, q, c1, c4]; omega))) ?_
            refine g_u (s_mv_imm rfl rfl) ?_
            refine g_u (s_mv_imm rfl rfl) ?_
            refine g_u (s_mv_imm rfl rfl) ?_
            refine g_u (s_add rfl rfl rfl) ?_
            refine g_u (si_lh rfl rfl rfl rfl Tryd.underlying9 (by ((try simp only [decide_eq_true_eq, decide_eq_false_iff_not, bne_iff_ne, ne_eq, beq_iff_eq, bne_eq_false_iff_eq, beq_eq_false_iff_ne, Bool.not_eq_true', Bool.not_eq_false', gt_iff_lt, ge_iff_le] at *); (repeat simp (disch := omega) only [wrap64, wrap32] at *)); omega)) ?_
            refine g_u (s_call1 (rhex_c _ (by have q := hx (of_decide_eq_true hb1); (try dsimp only); omega)) rfl rfl) ?_
            refine g_u (s_catS rfl rfl rfl (by show _ ≤ (9223372036854775807 : Int); (try dsimp only); first | (simp only [app_size, c0, c1, c4]; omega) | (have q := hx (of_decide_eq_true hb1); simp only [app_size, strOf_size, hexB_length, lst_len, q, c1, c4]; omega))) ?_
            refine g_u (s_as_imm rfl rfl) ?_
            refine g_nil ?_
            refine normal_blk ?_
            refine normal_thn ?_
            refine aw_region ?_
            refine g_u (s_mv_imm rfl rfl) ?_
            refine g_u (s_add rfl rfl rfl) ?_
            refine g_u (s_as_imm rfl rfl) ?_
            refine g_nil ?_
            refine normal_thn ?_
            change decide ((i : Int) < (s.size : Int)) = true at hb1
            have hi : i < s.size := by have := of_decide_eq_true hb1; omega
            obtain ⟨c, hc1, hc2⟩ := bAt_nat s i hi
            refine ⟨⟨i + 1, _⟩, ⟨hi, ?_⟩, ⟨rfl, rfl, look_int rfl (by rw [wrap64 (by omega) (by omega)]; rfl), trivial⟩, by dsimp only; omega⟩
            dsimp only at *
            rw [take_snoc hc1, escs_snoc, ← List.cons_append, ← h2, e2 hi, Int.toNat_natCast]
            simp only [beq_iff_eq, beq_eq_false_iff_ne, ne_eq, decide_eq_true_eq, decide_eq_false_iff_not] at *
            first | (exfalso; omega) | exact resc1 hc1 (.inl (by omega)) | exact resc1 hc1 (.inr (by omega)) | exact resc2 hc1 (by omega) (by omega) (by omega) | exact resc3 hc1 (by omega) (by omega) (by omega)
          · skip
            refine aw_region ?_
            refine g_u (s_mv_imm rfl rfl) ?_
            refine g_u (s_mv_imm rfl rfl) ?_
            refine g_u (s_mv_imm rfl rfl) ?_
            refine g_u (s_mv_imm rfl rfl) ?_
            refine g_u (s_add rfl rfl rfl) ?_
            refine g_u (si_lh rfl rfl rfl rfl Tryd.underlying9 (by ((try simp only [decide_eq_true_eq, decide_eq_false_iff_not, bne_iff_ne, ne_eq, beq_iff_eq, bne_eq_false_iff_eq, beq_eq_false_iff_ne, Bool.not_eq_true', Bool.not_eq_false', gt_iff_lt, ge_iff_le] at *); (repeat simp (disch := omega) only [wrap64, wrap32] at *)); omega)) ?_
            refine g_u (s_catS rfl rfl rfl (by show _ ≤ (9223372036854775807 : Int); (try dsimp only); first | (simp only [app_size, c0, c1, c4]; omega) | (have q := hx (of_decide_eq_true hb1); simp only [app_size, strOf_size, hexB_length, lst_len, q, c1, c4]; omega))) ?_
            refine g_u (s_as_imm rfl rfl) ?_
            refine g_nil ?_
            refine normal_blk ?_
            refine normal_thn ?_
            refine aw_region ?_
            refine g_u (s_mv_imm rfl rfl) ?_
            refine g_u (s_add rfl rfl rfl) ?_
            refine g_u (s_as_imm rfl rfl) ?_
            refine g_nil ?_
            refine normal_thn ?_
            change decide ((i : Int) < (s.size : Int)) = true at hb1
            have hi : i < s.size := by have := of_decide_eq_true hb1; omega
            obtain ⟨c, hc1, hc2⟩ := bAt_nat s i hi
            refine ⟨⟨i + 1, _⟩, ⟨hi, ?_⟩, ⟨rfl, rfl, look_int rfl (by rw [wrap64 (by omega) (by omega)]; rfl), trivial⟩, by dsimp only; omega⟩
            dsimp only at *
            rw [take_snoc hc1, escs_snoc, ← List.cons_append, ← h2, e2 hi, Int.toNat_natCast]
            simp only [beq_iff_eq, beq_eq_false_iff_ne, ne_eq, decide_eq_true_eq, decide_eq_false_iff_not] at *
            first | (exfalso; omega) | exact resc1 hc1 (.inl (by omega)) | exact resc1 hc1 (.inr (by omega)) | exact resc2 hc1 (by omega) (by omega) (by omega) | exact resc3 hc1 (by omega) (by omega) (by omega)
        · skip
          refine aw_skip ?_
          refine normal_thn ?_
          refine aw_seq ?_
          refine aw_region ?_
          refine g_u (s_mv_imm rfl rfl) ?_
          refine g_u (s_mv_imm rfl rfl) ?_
          refine g_u (si_ix rfl rfl rfl Tryd.underlying9 (by ((try simp only [decide_eq_true_eq, decide_eq_false_iff_not, bne_iff_ne, ne_eq, beq_iff_eq, bne_eq_false_iff_eq, beq_eq_false_iff_ne, Bool.not_eq_true', Bool.not_eq_false', gt_iff_lt, ge_iff_le] at *); (repeat simp (disch := omega) only [wrap64, wrap32] at *)); omega)) ?_
          refine g_u (s_ltI rfl rfl rfl) ?_
          refine g_nil ?_
          refine normal_thn ?_
          refine aw_cond rfl (fun hb6 => ?_) (fun hb6 => ?_)
          · skip
            refine aw_region ?_
            refine g_u (s_mv_imm rfl rfl) ?_
            refine g_u (s_catS rfl rfl rfl (by show _ ≤ (9223372036854775807 : Int); (try dsimp only); first | (simp only [app_size, c0, c1, c4]; omega) | (have q := hx (of_decide_eq_true hb1); simp only [app_size, strOf_size, hexB_length, lst_len, q, c1, c4]; omega))) ?_
            refine g_u (s_mv_imm rfl rfl) ?_
            refine g_u (s_mv_imm rfl rfl) ?_
            refine g_u (s_mv_imm rfl rfl) ?_
            refine g_u (s_add rfl rfl rfl) ?_
            refine g_u (si_lh rfl rfl rfl rfl Tryd.underlying9 (by ((try simp only [decide_eq_true_eq, decide_eq_false_iff_not, bne_iff_ne, ne_eq, beq_iff_eq, bne_eq_false_iff_eq, beq_eq_false_iff_ne, Bool.not_eq_true', Bool.not_eq_false', gt_iff_lt, ge_iff_le] at *); (repeat simp (disch := omega) only [wrap64, wrap32] at *)); omega)) ?_
            refine g_u (s_call1 (rhex_c _ (by have q := hx (of_decide_eq_true hb1); (try dsimp only); omega)) rfl rfl) ?_
            refine g_u (s_catS rfl rfl rfl (by show _ ≤ (9223372036854775807 : Int); (try dsimp only); first | (simp only [app_size, c0, c1, c4]; omega) | (have q := hx (of_decide_eq_true hb1); simp only [app_size, strOf_size, hexB_length, lst_len, q, c1, c4]; omega))) ?_
            refine g_u (s_as_imm rfl rfl) ?_
            refine g_nil ?_
            refine normal_blk ?_
            refine normal_thn ?_
            refine aw_region ?_
            refine g_u (s_mv_imm rfl rfl) ?_
            refine g_u (s_add rfl rfl rfl) ?_
            refine g_u (s_as_imm rfl rfl) ?_
            refine g_nil ?_
            refine normal_thn ?_
            change decide ((i : Int) < (s.size : Int)) = true at hb1
            have hi : i < s.size := by have := of_decide_eq_true hb1; omega
            obtain ⟨c, hc1, hc2⟩ := bAt_nat s i hi
            refine ⟨⟨i + 1, _⟩, ⟨hi, ?_⟩, ⟨rfl, rfl, look_int rfl (by rw [wrap64 (by omega) (by omega)]; rfl), trivial⟩, by dsimp only; omega⟩
            dsimp only at *
            rw [take_snoc hc1, escs_snoc, ← List.cons_append, ← h2, e2 hi, Int.toNat_natCast]
            simp only [beq_iff_eq, beq_eq_false_iff_ne, ne_eq, decide_eq_true_eq, decide_eq_false_iff_not] at *
            first | (exfalso; omega) | exact resc1 hc1 (.inl (by omega)) | exact resc1 hc1 (.inr (by omega)) | exact resc2 hc1 (by omega) (by omega) (by omega) | exact resc3 hc1 (by omega) (by omega) (by omega)
          · skip
            refine aw_region ?_
            refine g_u (s_mv_imm rfl rfl) ?_
            refine g_u (s_mv_imm rfl rfl) ?_
            refine g_u (s_mv_imm rfl rfl) ?_
            refine g_u (s_mv_imm rfl rfl) ?_
            refine g_u (s_add rfl rfl rfl) ?_
            refine g_u (si_lh rfl rfl rfl rfl Tryd.underlying9 (by ((try simp only [decide_eq_true_eq, decide_eq_false_iff_not, bne_iff_ne, ne_eq, beq_iff_eq, bne_eq_false_iff_eq, beq_eq_false_iff_ne, Bool.not_eq_true', Bool.not_eq_false', gt_iff_lt, ge_iff_le] at *); (repeat simp (disch := omega) only [wrap64, wrap32] at *)); omega)) ?_
            refine g_u (s_catS rfl rfl rfl (by show _ ≤ (9223372036854775807 : Int); (try dsimp only); first | (simp only [app_size, c0, c1, c4]; omega) | (have q := hx (of_decide_eq_true hb1); simp only [app_size, strOf_size, hexB_length, lst_len, q, c1, c4]; omega))) ?_
            refine g_u (s_as_imm rfl rfl) ?_
            refine g_nil ?_
            refine normal_blk ?_
            refine normal_thn ?_
            refine aw_region ?_
            refine g_u (s_mv_imm rfl rfl) ?_
            refine g_u (s_add rfl rfl rfl) ?_
            refine g_u (s_as_imm rfl rfl) ?_
            refine g_nil ?_
            refine normal_thn ?_
            change decide ((i : Int) < (s.size : Int)) = true at hb1
            have hi : i < s.size := by have := of_decide_eq_true hb1; omega
            obtain ⟨c, hc1, hc2⟩ := bAt_nat s i hi
            refine ⟨⟨i + 1, _⟩, ⟨hi, ?_⟩, ⟨rfl, rfl, look_int rfl (by rw [wrap64 (by omega) (by omega)]; rfl), trivial⟩, by dsimp only; omega⟩
            dsimp only at *
            rw [take_snoc hc1, escs_snoc, ← List.cons_append, ← h2, e2 hi, Int.toNat_natCast]
            simp only [beq_iff_eq, beq_eq_false_iff_ne, ne_eq, decide_eq_true_eq, decide_eq_false_iff_not] at *
            first | (exfalso; omega) | exact resc1 hc1 (.inl (by omega)) | exact resc1 hc1 (.inr (by omega)) | exact resc2 hc1 (by omega) (by omega) (by omega) | exact resc3 hc1 (by omega) (by omega) (by omega)
    · skip
      refine aw_exit ?_
      refine exit_thn ?_
      refine exit_thn ?_
      refine exit_blk ?_
      refine normal_thn ?_
      refine aw_seq ?_
      refine aw_region ?_
      refine g_u (s_mv_imm rfl rfl) ?_
      refine g_u (s_catS rfl rfl rfl (by show _ ≤ (9223372036854775807 : Int); (try dsimp only); first | (simp only [app_size, c0, c1, c4]; omega) | (have q := hx (of_decide_eq_true hb1); simp only [app_size, strOf_size, hexB_length, lst_len, q, c1, c4]; omega))) ?_
      refine g_u (s_as_imm rfl rfl) ?_
      refine g_nil ?_
      refine normal_thn ?_
      refine aw_ret ?_
      change decide ((i : Int) < (s.size : Int)) = false at hb1
      have hi : i = s.size := by have := of_decide_eq_false hb1; omega
      exact ⟨⟨(rfl : toAV (Al.look _ _) = some _).trans (congrArg (fun z => some (sv z)) (strOf_eq (by show lst (t ++ ⟨#[34]⟩) = _; rw [lst_app, h2, hi, List.take_of_length_le (Nat.le_of_eq hz)]; rfl))), rfl⟩, trivial⟩

set_option maxHeartbeats 400000 in
theorem rcomma_c (i : Nat) : PCall Tryd.prog Γ0 130 [iv (i : Int)] [sv (strOf (comma (i == 0)))] := by
  refine pcall_of Tryd.func130 rfl Tryd.ntmps130 (by kernel_rfl) rfl fun w0 I0 G0 => ?_
  refine aw_seq ?_
  refine aw_region ?_
  refine g_u (s_as_imm rfl rfl) ?_
  refine g_nil ?_
  refine normal_thn ?_
  refine aw_seq ?_
  refine aw_seq ?_
  refine aw_region ?_
  refine g_u (s_mv_imm rfl rfl) ?_
  refine g_u (s_eqI rfl rfl rfl) ?_
  refine g_nil ?_
  refine normal_thn ?_
  refine aw_cond rfl (fun hb1 => ?_) (fun hb1 => ?_)
  · skip
    refine aw_seq ?_
    refine aw_region ?_
    refine g_u (s_as_imm rfl rfl) ?_
    refine g_nil ?_
    refine normal_thn ?_
    refine aw_ret ?_
    refine ret_thn ?_
    exact ⟨⟨(rfl : toAV (Al.look _ _) = some _).trans (congrArg some (by (have e : i = 0 := (by have : (i : Int) = 0 := (by simpa using hb1); omega); rw [e]; rfl))), rfl⟩, trivial⟩
  · skip
    refine aw_skip ?_
    refine normal_thn ?_
    refine aw_seq ?_
    refine aw_region ?_
    refine g_u (s_as_imm rfl rfl) ?_
    refine g_nil ?_
    refine normal_thn ?_
    refine aw_ret ?_
    exact ⟨⟨(rfl : toAV (Al.look _ _) = some _).trans (congrArg some (by (have e : i ≠ 0 := (by have : (i : Int) ≠ 0 := (by simpa using hb1); omega); rw [show (i == 0) = false from by simpa using e]; rfl))), rfl⟩, trivial⟩

set_option maxHeartbeats 400000 in
theorem rsimple_c (v : GV) (ho : v.ok) (hw : v.wt ≤ 10000000) : PCall Tryd.prog Γ0 97 [v.av] [sv (strOf (simpB v))] := by
  have lv := len_wtVs v.list
  have la := len_wtAs v.map
  have ek := v.wt_eq
  have ok := v.ok_iff.1 ho
  have sl := simpB_length v
  have jl := json_len v
  refine pcall_of Tryd.func97 rfl Tryd.ntmps97 (by kernel_rfl) rfl fun w0 I0 G0 => ?_
  refine aw_seq ?_
  refine aw_region ?_
  refine g_uG (s_box_imm 1001 rfl rfl rfl rfl) rfl ?_
  refine g_u (s_as_imm rfl rfl) ?_
  refine g_nil ?_
  refine normal_thn ?_
  refine aw_seq ?_
  refine aw_seq ?_
  refine aw_region ?_
  refine g_u (s_fieldAddr rfl rfl fa70_0 rfl) ?_
  refine g_u (s_load_imm rfl rfl rfl tA5 tS5 rfl rfl) ?_
  refine g_u (s_eqI rfl rfl rfl) ?_
  refine g_nil ?_
  refine normal_thn ?_
  refine aw_cond rfl (fun hb1 => ?_) (fun hb1 => ?_)
  · skip
    refine aw_seq ?_
    refine aw_region ?_
    refine g_u (s_fieldAddr rfl rfl fa70_1 rfl) ?_
    refine g_u (s_load_imm rfl rfl rfl tA9 tS9 rfl rfl) ?_
    refine g_u (s_as_imm rfl rfl) ?_
    refine g_nil ?_
    refine normal_thn ?_
    refine aw_ret ?_
    refine ret_thn ?_
    exact ⟨⟨(rfl : toAV (Al.look _ _) = some _).trans (congrArg some (by (simp only [beq_iff_eq, beq_eq_false_iff_ne, ne_eq, decide_eq_true_eq, decide_eq_false_iff_not] at *; first | (exfalso; omega) | exact congrArg sv (simp1 (by omega)).symm | (rw [simp2 (by omega) (by omega)]; rfl) | (rw [simp2' (by omega) (by omega)]; rfl) | (rw [simp3 (by omega)]) | (rw [simp4 (by omega), lst_strOf]; rfl) | (rw [simp5 (by omega)]) | (rw [simp6 (by omega)]; rfl)))), rfl⟩, trivial⟩
  · skip
    refine aw_skip ?_
    refine normal_thn ?_
    refine aw_seq ?_
    refine aw_seq ?_
    refine aw_region ?_
    refine g_u (s_fieldAddr rfl rfl fa70_0 rfl) ?_
    refine g_u (s_load_imm rfl rfl rfl tA5 tS5 rfl rfl) ?_
    refine g_u (s_eqI rfl rfl rfl) ?_
    refine g_u (s_mv_imm rfl rfl) ?_
    refine g_case (t := 11) rfl ?_
    rintro (hb2 | hb2)
    · rw [hb2]
      refine g_run rfl rfl (s_fieldAddr rfl rfl fa70_2 rfl) ?_
      refine g_run rfl rfl (s_load_imm rfl rfl rfl tA3 tS3 rfl rfl) ?_
      refine g_run rfl rfl (s_eqI rfl rfl rfl) ?_
      refine g_u (s_pick_t rfl rfl rfl) ?_
      refine g_nil ?_
      refine normal_thn ?_
      refine aw_cond rfl (fun hb3 => ?_) (fun hb3 => ?_)
      · skip
        refine aw_seq ?_
        refine aw_region ?_
        refine g_u (s_as_imm rfl rfl) ?_
        refine g_nil ?_
        refine normal_thn ?_
        refine aw_ret ?_
        refine ret_thn ?_
        exact ⟨⟨(rfl : toAV (Al.look _ _) = some _).trans (congrArg some (by (simp only [beq_iff_eq, beq_eq_false_iff_ne, ne_eq, decide_eq_true_eq, decide_eq_false_iff_not] at *; first | (exfalso; omega) | exact congrArg sv (simp1 (by omega)).symm | (rw [simp2 (by omega) (by omega)]; rfl) | (rw [simp2' (by omega) (by omega)]; rfl) | (rw [simp3 (by omega)]) | (rw [simp4 (by omega), lst_strOf]; rfl) | (rw [simp5 (by omega)]) | (rw [simp6 (by omega)]; rfl)))), rfl⟩, trivial⟩
      · skip
        refine aw_skip ?_
        refine normal_thn ?_
        refine aw_seq ?_
        refine aw_seq ?_
        refine aw_region ?_
        refine g_u (s_fieldAddr rfl rfl fa70_0 rfl) ?_
        refine g_u (s_load_imm rfl rfl rfl tA5 tS5 rfl rfl) ?_
        refine g_u (s_eqI rfl rfl rfl) ?_
        refine g_nil ?_
        refine normal_thn ?_
        refine aw_cond rfl (fun hb4 => ?_) (fun hb4 => ?_)
        · skip
          refine aw_seq ?_
          refine aw_region ?_
          refine g_u (s_as_imm rfl rfl) ?_
          refine g_nil ?_
          refine normal_thn ?_
          refine aw_ret ?_
          refine ret_thn ?_
          exact ⟨⟨(rfl : toAV (Al.look _ _) = some _).trans (congrArg some (by (simp only [beq_iff_eq, beq_eq_false_iff_ne, ne_eq, decide_eq_true_eq, decide_eq_false_iff_not] at *; first | (exfalso; omega) | exact congrArg sv (simp1 (by omega)).symm | (rw [simp2 (by omega) (by omega)]; rfl) | (rw [simp2' (by omega) (by omega)]; rfl) | (rw [simp3 (by omega)]) | (rw [simp4 (by omega), lst_strOf]; rfl) | (rw [simp5 (by omega)]) | (rw [simp6 (by omega)]; rfl)))), rfl⟩, trivial⟩
        · skip
          refine aw_skip ?_
          refine normal_thn ?_
          refine aw_seq ?_
          refine aw_seq ?_
          refine aw_region ?_
          refine g_u (s_fieldAddr rfl rfl fa70_0 rfl) ?_
          refine g_u (s_load_imm rfl rfl rfl tA5 tS5 rfl rfl) ?_
          refine g_u (s_eqI rfl rfl rfl) ?_
          refine g_nil ?_
          refine normal_thn ?_
          refine aw_cond rfl (fun hb5 => ?_) (fun hb5 => ?_)
          · skip
            refine aw_seq ?_
            refine aw_region ?_
            refine g_u (s_fieldAddr rfl rfl fa70_2 rfl) ?_
            refine g_u (s_load_imm rfl rfl rfl tA3 tS3 rfl rfl) ?_
            refine g_u (s_call1 (rdec_c _ ok.2.2.1) rfl rfl) ?_
            refine g_u (s_as_imm rfl rfl) ?_
            refine g_nil ?_
            refine normal_thn ?_
            refine aw_ret ?_
            refine ret_thn ?_
            exact ⟨⟨(rfl : toAV (Al.look _ _) = some _).trans (congrArg some (by (simp only [beq_iff_eq, beq_eq_false_iff_ne, ne_eq, decide_eq_true_eq, decide_eq_false_iff_not] at *; first | (exfalso; omega) | exact congrArg sv (simp1 (by omega)).symm | (rw [simp2 (by omega) (by omega)]; rfl) | (rw [simp2' (by omega) (by omega)]; rfl) | (rw [simp3 (by omega)]) | (rw [simp4 (by omega), lst_strOf]; rfl) | (rw [simp5 (by omega)]) | (rw [simp6 (by omega)]; rfl)))), rfl⟩, trivial⟩
          · skip
            refine aw_skip ?_
            refine normal_thn ?_
            refine aw_seq ?_
            refine aw_seq ?_
            refine aw_region ?_
            refine g_u (s_fieldAddr rfl rfl fa70_0 rfl) ?_
            refine g_u (s_load_imm rfl rfl rfl tA5 tS5 rfl rfl) ?_
            refine g_u (s_eqI rfl rfl rfl) ?_
            refine g_nil ?_
            refine normal_thn ?_
            refine aw_cond rfl (fun hb6 => ?_) (fun hb6 => ?_)
            · skip
              refine aw_seq ?_
              refine aw_region ?_
              refine g_u (s_fieldAddr rfl rfl fa70_3 rfl) ?_
              refine g_u (s_load_imm rfl rfl rfl tA46 tS46 rfl rfl) ?_
              refine g_u (s_call1 (rhigh_c _ ok.2.2.2.1) rfl rfl) ?_
              refine g_u (s_call1 (rhex_c _ (by first | omega | (rw [strOf_size, be_length]; omega))) rfl rfl) ?_
              refine g_u (s_catS rfl rfl rfl (by show _ ≤ (9223372036854775807 : Int); simp only [strOf_size, hexB_length, lst_strOf, be_length]; first | omega | (show 2 + _ ≤ _; omega) | (have c1 : (ByteArray.mk #[48, 120]).size = 2 := rfl; omega))) ?_
              refine g_u (s_as_imm rfl rfl) ?_
              refine g_nil ?_
              refine normal_thn ?_
              refine aw_ret ?_
              refine ret_thn ?_
              exact ⟨⟨(rfl : toAV (Al.look _ _) = some _).trans (congrArg some (by (simp only [beq_iff_eq, beq_eq_false_iff_ne, ne_eq, decide_eq_true_eq, decide_eq_false_iff_not] at *; first | (exfalso; omega) | exact congrArg sv (simp1 (by omega)).symm | (rw [simp2 (by omega) (by omega)]; rfl) | (rw [simp2' (by omega) (by omega)]; rfl) | (rw [simp3 (by omega)]) | (rw [simp4 (by omega), lst_strOf]; rfl) | (rw [simp5 (by omega)]) | (rw [simp6 (by omega)]; rfl)))), rfl⟩, trivial⟩
            · skip
              refine aw_skip ?_
              refine normal_thn ?_
              refine aw_seq ?_
              refine aw_seq ?_
              refine aw_region ?_
              refine g_u (s_fieldAddr rfl rfl fa70_0 rfl) ?_
              refine g_u (s_load_imm rfl rfl rfl tA5 tS5 rfl rfl) ?_
              refine g_u (s_eqI rfl rfl rfl) ?_
              refine g_nil ?_
              refine normal_thn ?_
              refine aw_cond rfl (fun hb7 => ?_) (fun hb7 => ?_)
              · skip
                refine aw_seq ?_
                refine aw_region ?_
                refine g_u (s_fieldAddr rfl rfl fa70_1 rfl) ?_
                refine g_u (s_load_imm rfl rfl rfl tA9 tS9 rfl rfl) ?_
                refine g_u (s_call1 (rhex_c _ (by first | omega | (rw [strOf_size, be_length]; omega))) rfl rfl) ?_
                refine g_u (s_as_imm rfl rfl) ?_
                refine g_nil ?_
                refine normal_thn ?_
                refine aw_ret ?_
                refine ret_thn ?_
                exact ⟨⟨(rfl : toAV (Al.look _ _) = some _).trans (congrArg some (by (simp only [beq_iff_eq, beq_eq_false_iff_ne, ne_eq, decide_eq_true_eq, decide_eq_false_iff_not] at *; first | (exfalso; omega) | exact congrArg sv (simp1 (by omega)).symm | (rw [simp2 (by omega) (by omega)]; rfl) | (rw [simp2' (by omega) (by omega)]; rfl) | (rw [simp3 (by omega)]) | (rw [simp4 (by omega), lst_strOf]; rfl) | (rw [simp5 (by omega)]) | (rw [simp6 (by omega)]; rfl)))), rfl⟩, trivial⟩
              · skip
                refine aw_skip ?_
                refine normal_thn ?_
                refine aw_seq ?_
                refine aw_region ?_
                refine g_u (s_as_imm rfl rfl) ?_
                refine g_nil ?_
                refine normal_thn ?_
                refine aw_ret ?_
                exact ⟨⟨(rfl : toAV (Al.look _ _) = some _).trans (congrArg some (by (simp only [beq_iff_eq, beq_eq_false_iff_ne, ne_eq, decide_eq_true_eq, decide_eq_false_iff_not] at *; first | (exfalso; omega) | exact congrArg sv (simp1 (by omega)).symm | (rw [simp2 (by omega) (by omega)]; rfl) | (rw [simp2' (by omega) (by omega)]; rfl) | (rw [simp3 (by omega)]) | (rw [simp4 (by omega), lst_strOf]; rfl) | (rw [simp5 (by omega)]) | (rw [simp6 (by omega)]; rfl)))), rfl⟩, trivial⟩
    · rw [hb2]
      refine g_skip rfl rfl rfl ?_
      refine g_skip rfl rfl rfl ?_
      refine g_skip rfl rfl rfl ?_
      refine g_u (s_pick_f rfl rfl rfl) ?_
      refine g_nil ?_
      refine normal_thn ?_
      refine aw_cond_false rfl ?_
      refine aw_skip ?_
      refine normal_thn ?_
      refine aw_seq ?_
      refine aw_seq ?_
      refine aw_region ?_
      refine g_u (s_fieldAddr rfl rfl fa70_0 rfl) ?_
      refine g_u (s_load_imm rfl rfl rfl tA5 tS5 rfl rfl) ?_
      refine g_u (s_eqI rfl rfl rfl) ?_
      refine g_nil ?_
      refine normal_thn ?_
      refine aw_cond rfl (fun hb8 => ?_) (fun hb8 => ?_)
      · skip
        refine aw_seq ?_
        refine aw_region ?_
        refine g_u (s_as_imm rfl rfl) ?_
        refine g_nil ?_
        refine normal_thn ?_
        refine aw_ret ?_
        refine ret_thn ?_
        exact ⟨⟨(rfl : toAV (Al.look _ _) = some _).trans (congrArg some (by (simp only [beq_iff_eq, beq_eq_false_iff_ne, ne_eq, decide_eq_true_eq, decide_eq_false_iff_not] at *; first | (exfalso; omega) | exact congrArg sv (simp1 (by omega)).symm | (rw [simp2 (by omega) (by omega)]; rfl) | (rw [simp2' (by omega) (by omega)]; rfl) | (rw [simp3 (by omega)]) | (rw [simp4 (by omega), lst_strOf]; rfl) | (rw [simp5 (by omega)]) | (rw [simp6 (by omega)]; rfl)))), rfl⟩, trivial⟩
      · skip
        refine aw_skip ?_
        refine normal_thn ?_
        refine aw_seq ?_
        refine aw_seq ?_
        refine aw_region ?_
        refine g_u (s_fieldAddr rfl rfl fa70_0 rfl) ?_
        refine g_u (s_load_imm rfl rfl rfl tA5 tS5 rfl rfl) ?_
        refine g_u (s_eqI rfl rfl rfl) ?_
        refine g_nil ?_
        refine normal_thn ?_
        refine aw_cond rfl (fun hb9 => ?_) (fun hb9 => ?_)
        · skip
          refine aw_seq ?_
          refine aw_region ?_
          refine g_u (s_fieldAddr rfl rfl fa70_2 rfl) ?_
          refine g_u (s_load_imm rfl rfl rfl tA3 tS3 rfl rfl) ?_
          refine g_u (s_call1 (rdec_c _ ok.2.2.1) rfl rfl) ?_
          refine g_u (s_as_imm rfl rfl) ?_
          refine g_nil ?_
          refine normal_thn ?_
          refine aw_ret ?_
          refine ret_thn ?_
          exact ⟨⟨(rfl : toAV (Al.look _ _) = some _).trans (congrArg some (by (simp only [beq_iff_eq, beq_eq_false_iff_ne, ne_eq, decide_eq_true_eq, decide_eq_false_iff_not] at *; first | (exfalso; omega) | exact congrArg sv (simp1 (by omega)).symm | (rw [simp2 (by omega) (by omega)]; rfl) | (rw [simp2' (by omega) (by omega)]; rfl) | (rw [simp3 (by omega)]) | (rw [simp4 (by omega), lst_strOf]; rfl) | (rw [simp5 (by omega)]) | (rw [simp6 (by omega)]; rfl)))), rfl⟩, trivial⟩
        · skip
          refine aw_skip ?_
          refine normal_thn ?_
          refine aw_seq ?_
          refine aw_seq ?_
          refine aw_region ?_
          refine g_u (s_fieldAddr rfl rfl fa70_0 rfl) ?_
          refine g_u (s_load_imm rfl rfl rfl tA5 tS5 rfl rfl) ?_
          refine g_u (s_eqI rfl rfl rfl) ?_
          refine g_nil ?_
          refine normal_thn ?_
          refine aw_cond rfl (fun hb10 => ?_) (fun hb10 => ?_)
          · skip
            refine aw_seq ?_
            refine aw_region ?_
            refine g_u (s_fieldAddr rfl rfl fa70_3 rfl) ?_
            refine g_u (s_load_imm rfl rfl rfl tA46 tS46 rfl rfl) ?_
            refine g_u (s_call1 (rhigh_c _ ok.2.2.2.1) rfl rfl) ?_
            refine g_u (s_call1 (rhex_c _ (by first | omega | (rw [strOf_size, be_length]; omega))) rfl rfl) ?_
            refine g_u (s_catS rfl rfl rfl (by show _ ≤ (9223372036854775807 : Int); simp only [strOf_size, hexB_length, lst_strOf, be_length]; first | omega | (show 2 + _ ≤ _; omega) | (have c1 : (ByteArray.mk #[48, 120]).size = 2 := rfl; omega))) ?_
            refine g_u (s_as_imm rfl rfl) ?_
            refine g_nil ?_
            refine normal_thn ?_
            refine aw_ret ?_
            refine ret_thn ?_
            exact ⟨⟨(rfl : toAV (Al.look _ _) = some _).trans (congrArg some (by (simp only [beq_iff_eq, beq_eq_false_iff_ne, ne_eq, decide_eq_true_eq, decide_eq_false_iff_not] at *; first | (exfalso; omega) | exact congrArg sv (simp1 (by omega)).symm | (rw [simp2 (by omega) (by omega)]; rfl) | (rw [simp2' (by omega) (by omega)]; rfl) | (rw [simp3 (by omega)]) | (rw [simp4 (by omega), lst_strOf]; rfl) | (rw [simp5 (by omega)]) | (rw [simp6 (by omega)]; rfl)))), rfl⟩, trivial⟩
          · skip
            refine aw_skip ?_
            refine normal_thn ?_
            refine aw_seq ?_
            refine aw_seq ?_
            refine aw_region ?_
            refine g_u (s_fieldAddr rfl rfl fa70_0 rfl) ?_
            refine g_u (s_load_imm rfl rfl rfl tA5 tS5 rfl rfl) ?_
            refine g_u (s_eqI rfl rfl rfl) ?_
            refine g_nil ?_
            refine normal_thn ?_
            refine aw_cond rfl (fun hb11 => ?_) (fun hb11 => ?_)
            · skip
              refine aw_seq ?_
              refine aw_region ?_
              refine g_u (s_fieldAddr rfl rfl fa70_1 rfl) ?_
              refine g_u (s_load_imm rfl rfl rfl tA9 tS9 rfl rfl) ?_
              refine g_u (s_call1 (rhex_c _ (by first | omega | (rw [strOf_size, be_length]; omega))) rfl rfl) ?_
              refine g_u (s_as_imm rfl rfl) ?_
              refine g_nil ?_
              refine normal_thn ?_
              refine aw_ret ?_
              refine ret_thn ?_
              exact ⟨⟨(rfl : toAV (Al.look _ _) = some _).trans (congrArg some (by (simp only [beq_iff_eq, beq_eq_false_iff_ne, ne_eq, decide_eq_true_eq, decide_eq_false_iff_not] at *; first | (exfalso; omega) | exact congrArg sv (simp1 (by omega)).symm | (rw [simp2 (by omega) (by omega)]; rfl) | (rw [simp2' (by omega) (by omega)]; rfl) | (rw [simp3 (by omega)]) | (rw [simp4 (by omega), lst_strOf]; rfl) | (rw [simp5 (by omega)]) | (rw [simp6 (by omega)]; rfl)))), rfl⟩, trivial⟩
            · skip
              refine aw_skip ?_
              refine normal_thn ?_
              refine aw_seq ?_
              refine aw_region ?_
              refine g_u (s_as_imm rfl rfl) ?_
              refine g_nil ?_
              refine normal_thn ?_
              refine aw_ret ?_
              exact ⟨⟨(rfl : toAV (Al.look _ _) = some _).trans (congrArg some (by (simp only [beq_iff_eq, beq_eq_false_iff_ne, ne_eq, decide_eq_true_eq, decide_eq_false_iff_not] at *; first | (exfalso; omega) | exact congrArg sv (simp1 (by omega)).symm | (rw [simp2 (by omega) (by omega)]; rfl) | (rw [simp2' (by omega) (by omega)]; rfl) | (rw [simp3 (by omega)]) | (rw [simp4 (by omega), lst_strOf]; rfl) | (rw [simp5 (by omega)]) | (rw [simp6 (by omega)]; rfl)))), rfl⟩, trivial⟩

set_option maxHeartbeats 400000 in
theorem rjson_step (v : GV) (ho : v.ok) (hw : v.wt ≤ 10000000) (ih : ∀ y ∈ v.list, PCall Tryd.prog Γ0 96 [y.av] [sv (strOf (jsonB y))]) (ihm : ∀ a ∈ v.map, PCall Tryd.prog Γ0 96 [a.val.av] [sv (strOf (jsonB a.val))]) : PCall Tryd.prog Γ0 96 [v.av] [sv (strOf (jsonB v))] := by
  have lv := len_wtVs v.list
  have la := len_wtAs v.map
  have ek := v.wt_eq
  have ok := v.ok_iff.1 ho
  have sl := simpB_length v
  have jl := json_len v
  have c1 : (ByteArray.mk #[91]).size = 1 := rfl
  have c2 : (ByteArray.mk #[93]).size = 1 := rfl
  have c3 : (ByteArray.mk #[123]).size = 1 := rfl
  have c4 : (ByteArray.mk #[125]).size = 1 := rfl
  have c5 : (ByteArray.mk #[58]).size = 1 := rfl
  refine pcall_of Tryd.func96 rfl Tryd.ntmps96 (by kernel_rfl) rfl fun w0 I0 G0 => ?_
  refine aw_seq ?_
  refine aw_region ?_
  refine g_uG (s_box_imm 1001 rfl rfl rfl rfl) rfl ?_
  refine g_u (s_as_imm rfl rfl) ?_
  refine g_nil ?_
  refine normal_thn ?_
  refine aw_seq ?_
  refine aw_seq ?_
  refine aw_region ?_
  refine g_u (s_fieldAddr rfl rfl fa70_0 rfl) ?_
  refine g_u (s_load_imm rfl rfl rfl tA5 tS5 rfl rfl) ?_
  refine g_u (s_eqI rfl rfl rfl) ?_
  refine g_nil ?_
  refine normal_thn ?_
  refine aw_cond rfl (fun hb1 => ?_) (fun hb1 => ?_)
  · skip
    refine aw_seq ?_
    refine aw_region ?_
    refine g_u (s_as_imm rfl rfl) ?_
    refine g_nil ?_
    refine normal_thn ?_
    refine aw_ret ?_
    refine ret_thn ?_
    exact ⟨⟨(rfl : toAV (Al.look _ _) = some _).trans (congrArg some (by (simp only [beq_iff_eq, beq_eq_false_iff_ne, ne_eq, decide_eq_true_eq, decide_eq_false_iff_not] at *; rw [json0 (by omega)]; rfl))), rfl⟩, trivial⟩
  · skip
    refine aw_skip ?_
    refine normal_thn ?_
    refine aw_seq ?_
    refine aw_seq ?_
    refine aw_region ?_
    refine g_u (s_fieldAddr rfl rfl fa70_0 rfl) ?_
    refine g_u (s_load_imm rfl rfl rfl tA5 tS5 rfl rfl) ?_
    refine g_u (s_eqI rfl rfl rfl) ?_
    refine g_u (s_mv_imm rfl rfl) ?_
    refine g_case (t := 12) rfl ?_
    rintro (hb2 | hb2)
    · rw [hb2]
      refine g_skip rfl rfl rfl ?_
      refine g_skip rfl rfl rfl ?_
      refine g_skip rfl rfl rfl ?_
      refine g_u (s_pick_t rfl rfl rfl) ?_
      refine g_u (s_mv_imm rfl rfl) ?_
      refine g_skip rfl rfl rfl ?_
      refine g_skip rfl rfl rfl ?_
      refine g_skip rfl rfl rfl ?_
      refine g_u (s_pick_t rfl rfl rfl) ?_
      refine g_nil ?_
      refine normal_thn ?_
      refine aw_cond_true rfl ?_
      refine aw_seq ?_
      refine aw_region ?_
      refine g_u (s_load_imm rfl rfl rfl tA70 tS70 rfl rfl) ?_
      refine g_u (s_call1 (rsimple_c _ ho hw) rfl rfl) ?_
      refine g_u (s_call1 (rquote_c _ (by first | exact hka | (rw [strOf_size]; omega))) rfl rfl) ?_
      refine g_u (s_as_imm rfl rfl) ?_
      refine g_nil ?_
      refine normal_thn ?_
      refine aw_ret ?_
      refine ret_thn ?_
      exact ⟨⟨(rfl : toAV (Al.look _ _) = some _).trans (congrArg some (by (simp only [beq_iff_eq, beq_eq_false_iff_ne, ne_eq, decide_eq_true_eq, decide_eq_false_iff_not] at *; rw [jsonS (by omega)]; rw [lst_strOf]))), rfl⟩, trivial⟩
    · rw [hb2]
      refine g_run rfl rfl (s_fieldAddr rfl rfl fa70_0 rfl) ?_
      refine g_run rfl rfl (s_load_imm rfl rfl rfl tA5 tS5 rfl rfl) ?_
      refine g_run rfl rfl (s_eqI rfl rfl rfl) ?_
      refine g_u (s_pick_f rfl rfl rfl) ?_
      refine g_u (s_mv_imm rfl rfl) ?_
      refine g_case (t := 17) rfl ?_
      rintro (hb3 | hb3)
      · rw [hb3]
        refine g_skip rfl rfl rfl ?_
        refine g_skip rfl rfl rfl ?_
        refine g_skip rfl rfl rfl ?_
        refine g_u (s_pick_t rfl rfl rfl) ?_
        refine g_nil ?_
        refine normal_thn ?_
        refine aw_cond_true rfl ?_
        refine aw_seq ?_
        refine aw_region ?_
        refine g_u (s_load_imm rfl rfl rfl tA70 tS70 rfl rfl) ?_
        refine g_u (s_call1 (rsimple_c _ ho hw) rfl rfl) ?_
        refine g_u (s_call1 (rquote_c _ (by first | exact hka | (rw [strOf_size]; omega))) rfl rfl) ?_
        refine g_u (s_as_imm rfl rfl) ?_
        refine g_nil ?_
        refine normal_thn ?_
        refine aw_ret ?_
        refine ret_thn ?_
        exact ⟨⟨(rfl : toAV (Al.look _ _) = some _).trans (congrArg some (by (simp only [beq_iff_eq, beq_eq_false_iff_ne, ne_eq, decide_eq_true_eq, decide_eq_false_iff_not] at *; rw [jsonS (by omega)]; rw [lst_strOf]))), rfl⟩, trivial⟩
      · rw [hb3]
        refine g_run rfl rfl (s_fieldAddr rfl rfl fa70_0 rfl) ?_
        refine g_run rfl rfl (s_load_imm rfl rfl rfl tA5 tS5 rfl rfl) ?_
        refine g_run rfl rfl (s_eqI rfl rfl rfl) ?_
        refine g_u (s_pick_f rfl rfl rfl) ?_
        refine g_nil ?_
        refine normal_thn ?_
        refine aw_cond rfl (fun hb4 => ?_) (fun hb4 => ?_)
        · skip
          refine aw_seq ?_
          refine aw_region ?_
          refine g_u (s_load_imm rfl rfl rfl tA70 tS70 rfl rfl) ?_
          refine g_u (s_call1 (rsimple_c _ ho hw) rfl rfl) ?_
          refine g_u (s_call1 (rquote_c _ (by first | exact hka | (rw [strOf_size]; omega))) rfl rfl) ?_
          refine g_u (s_as_imm rfl rfl) ?_
          refine g_nil ?_
          refine normal_thn ?_
          refine aw_ret ?_
          refine ret_thn ?_
          exact ⟨⟨(rfl : toAV (Al.look _ _) = some _).trans (congrArg some (by (simp only [beq_iff_eq, beq_eq_false_iff_ne, ne_eq, decide_eq_true_eq, decide_eq_false_iff_not] at *; rw [jsonS (by omega)]; rw [lst_strOf]))), rfl⟩, trivial⟩
        · skip
          refine aw_skip ?_
          refine normal_thn ?_
          refine aw_seq ?_
          refine aw_region ?_
          refine g_u (s_as_imm rfl rfl) ?_
          refine g_nil ?_
          refine normal_thn ?_
          refine aw_seq ?_
          refine aw_seq ?_
          refine aw_region ?_
          refine g_u (s_fieldAddr rfl rfl fa70_0 rfl) ?_
          refine g_u (s_load_imm rfl rfl rfl tA5 tS5 rfl rfl) ?_
          refine g_u (s_eqI rfl rfl rfl) ?_
          refine g_nil ?_
          refine normal_thn ?_
          refine aw_cond rfl (fun hb5 => ?_) (fun hb5 => ?_)
          · skip
            refine aw_seq ?_
            refine aw_seq ?_
            refine aw_region ?_
            refine g_u (s_as_imm rfl rfl) ?_
            refine g_nil ?_
            refine normal_thn ?_
            refine aw_block ?_
            refine aw_loop' (fun j : Nat × ByteArray => [(1, .ptr 1001 0), (1001, .box 70 (.imm v.av)), (3, .imm (sv j.2)), (4, .imm (iv (j.1 : Int)))]) (fun j => j.1 ≤ v.list.length ∧ lst j.2 = jsonVs true (v.list.take j.1)) (fun j => v.list.length - j.1) (⟨0, ⟨#[]⟩⟩) ?_ ⟨rfl, rfl, rfl, rfl, trivial⟩ ?_
            · exact ⟨Nat.zero_le _, rfl⟩
            · rintro ⟨i, t⟩ ⟨h1, h2⟩; dsimp only at h1 h2; have hlen : t.size ≤ 150 * wtVs (v.list.take i) := by rw [← lst_len t, h2]; exact jsonVs_len _ _
              have htk := wtVs_take v.list i
              refine aw_seq ?_
              refine aw_seq ?_
              refine aw_region ?_
              refine g_u (s_mv_imm rfl rfl) ?_
              refine g_u (s_fieldAddr rfl rfl fa70_4 rfl) ?_
              refine g_u (s_load_imm rfl rfl rfl tA68 tS68 rfl rfl) ?_
              refine g_u (s_lenL rfl rfl Tryd.underlying68) ?_
              refine g_u (s_ltI rfl rfl rfl) ?_
              refine g_nil ?_
              refine normal_thn ?_
              refine aw_cond rfl (fun hb6 => ?_) (fun hb6 => ?_)
              · skip
                have hiv : i < v.list.length := by have := of_decide_eq_true hb6; simp only [List.length_map] at this; omega
                refine aw_skip ?_
                refine normal_thn ?_
                refine aw_seq ?_
                refine aw_block ?_
                refine aw_draw mixed ?_
                refine g_u (s_mv_imm rfl rfl) ?_
                refine g_u (s_mv_imm rfl rfl) ?_
                refine g_u (s_call1 (rcomma_c _) rfl rfl) ?_
                refine g_u (s_catS rfl rfl rfl (by show _ ≤ (9223372036854775807 : Int); (try dsimp only); first | (have q1 := wtVs_nth hiv; have q2 := json_len (nthV v.list i); have q3 := comma_length (i == 0); simp only [app_size, strOf_size, c1, c2, c3, c4, c5]; omega) | (have q1 := wtAs_nth hia; have q2 := jsonA_len (nthA v.map i); have q3 := comma_length (i == 0); have q4 := (nthA v.map i).wt_eq; have q5 := quoteB_length (lst (nthA v.map i).key); have q6 := lst_len (nthA v.map i).key; have q7 := json_len (nthA v.map i).val; simp only [app_size, strOf_size, c1, c2, c3, c4, c5]; omega) | (simp only [app_size, strOf_size, c1, c2, c3, c4, c5]; omega))) ?_
                refine g_u (s_fieldAddr rfl rfl fa70_4 rfl) ?_
                refine g_u (s_load_imm rfl rfl rfl tA68 tS68 rfl rfl) ?_
                refine g_u (s_mv_imm rfl rfl) ?_
                refine g_u (s_indexAddr rfl rfl rfl Tryd.underlying68 tS70 (by omega) (ixV hiv)) ?_
                refine g_u (s_load_cp rfl rfl tA70 tS70 rfl rfl) ?_
                refine g_u (s_call1 ((by first | exact ih _ (nthV_mem hiv) | exact ihm _ (nthA_mem hia))) rfl rfl) ?_
                refine g_u (s_catS rfl rfl rfl (by show _ ≤ (9223372036854775807 : Int); (try dsimp only); first | (have q1 := wtVs_nth hiv; have q2 := json_len (nthV v.list i); have q3 := comma_length (i == 0); simp only [app_size, strOf_size, c1, c2, c3, c4, c5]; omega) | (have q1 := wtAs_nth hia; have q2 := jsonA_len (nthA v.map i); have q3 := comma_length (i == 0); have q4 := (nthA v.map i).wt_eq; have q5 := quoteB_length (lst (nthA v.map i).key); have q6 := lst_len (nthA v.map i).key; have q7 := json_len (nthA v.map i).val; simp only [app_size, strOf_size, c1, c2, c3, c4, c5]; omega) | (simp only [app_size, strOf_size, c1, c2, c3, c4, c5]; omega))) ?_
                refine g_u (s_as_imm rfl rfl) ?_
                refine g_nil ⟨by kernel_rfl, ?_⟩
                refine normal_blk ?_
                refine normal_thn ?_
                refine aw_region ?_
                refine g_u (s_mv_imm rfl rfl) ?_
                refine g_u (s_add rfl rfl rfl) ?_
                refine g_u (s_as_imm rfl rfl) ?_
                refine g_nil ?_
                refine normal_thn ?_
                refine ⟨⟨i + 1, _⟩, ⟨hiv, ?_⟩, ⟨rfl, rfl, rfl, look_int rfl (by rw [wrap64 (by omega) (by omega)]; rfl), trivial⟩, by dsimp only; omega⟩
                show lst (t ++ strOf (comma (i == 0)) ++ strOf (jsonB (nthV v.list i))) = _
                rw [jsonVs_take hiv, lst_app, lst_app, lst_strOf, lst_strOf, h2]
              · skip
                have hi : i = v.list.length := by have := of_decide_eq_false hb6; simp only [List.length_map] at this; omega
                refine aw_exit ?_
                refine exit_thn ?_
                refine exit_thn ?_
                refine exit_blk ?_
                refine normal_thn ?_
                refine aw_seq ?_
                refine aw_region ?_
                refine g_u (s_mv_imm rfl rfl) ?_
                refine g_u (s_catS rfl rfl rfl (by show _ ≤ (9223372036854775807 : Int); (try dsimp only); first | (have q1 := wtVs_nth hiv; have q2 := json_len (nthV v.list i); have q3 := comma_length (i == 0); simp only [app_size, strOf_size, c1, c2, c3, c4, c5]; omega) | (have q1 := wtAs_nth hia; have q2 := jsonA_len (nthA v.map i); have q3 := comma_length (i == 0); have q4 := (nthA v.map i).wt_eq; have q5 := quoteB_length (lst (nthA v.map i).key); have q6 := lst_len (nthA v.map i).key; have q7 := json_len (nthA v.map i).val; simp only [app_size, strOf_size, c1, c2, c3, c4, c5]; omega) | (simp only [app_size, strOf_size, c1, c2, c3, c4, c5]; omega))) ?_
                refine g_u (s_catS rfl rfl rfl (by show _ ≤ (9223372036854775807 : Int); (try dsimp only); first | (have q1 := wtVs_nth hiv; have q2 := json_len (nthV v.list i); have q3 := comma_length (i == 0); simp only [app_size, strOf_size, c1, c2, c3, c4, c5]; omega) | (have q1 := wtAs_nth hia; have q2 := jsonA_len (nthA v.map i); have q3 := comma_length (i == 0); have q4 := (nthA v.map i).wt_eq; have q5 := quoteB_length (lst (nthA v.map i).key); have q6 := lst_len (nthA v.map i).key; have q7 := json_len (nthA v.map i).val; simp only [app_size, strOf_size, c1, c2, c3, c4, c5]; omega) | (simp only [app_size, strOf_size, c1, c2, c3, c4, c5]; omega))) ?_
                refine g_u (s_as_imm rfl rfl) ?_
                refine g_nil ?_
                refine normal_thn ?_
                refine aw_ret ?_
                refine ret_thn ?_
                exact ⟨⟨(rfl : toAV (Al.look _ _) = some _).trans (congrArg some (by (simp only [beq_iff_eq, beq_eq_false_iff_ne, ne_eq, decide_eq_true_eq, decide_eq_false_iff_not] at *; rw [json6 (by omega)]; refine congrArg sv (strOf_eq ?_); show lst (⟨#[91]⟩ ++ t ++ ⟨#[93]⟩) = _; rw [lst_app, lst_app, h2, hi, List.take_of_length_le (Nat.le_refl _)]; rfl))), rfl⟩, trivial⟩
          · skip
            refine aw_skip ?_
            refine normal_thn ?_
            refine aw_seq ?_
            refine aw_seq ?_
            refine aw_region ?_
            refine g_u (s_fieldAddr rfl rfl fa70_0 rfl) ?_
            refine g_u (s_load_imm rfl rfl rfl tA5 tS5 rfl rfl) ?_
            refine g_u (s_eqI rfl rfl rfl) ?_
            refine g_nil ?_
            refine normal_thn ?_
            refine aw_cond rfl (fun hb7 => ?_) (fun hb7 => ?_)
            · skip
              refine aw_seq ?_
              refine aw_seq ?_
              refine aw_region ?_
              refine g_u (s_as_imm rfl rfl) ?_
              refine g_nil ?_
              refine normal_thn ?_
              refine aw_block ?_
              refine aw_loop' (fun j : Nat × ByteArray => [(1, .ptr 1001 0), (1001, .box 70 (.imm v.av)), (3, .imm (sv j.2)), (5, .imm (iv (j.1 : Int)))]) (fun j => j.1 ≤ v.map.length ∧ lst j.2 = jsonAs true (v.map.take j.1)) (fun j => v.map.length - j.1) (⟨0, ⟨#[]⟩⟩) ?_ ⟨rfl, rfl, rfl, rfl, trivial⟩ ?_
              · exact ⟨Nat.zero_le _, rfl⟩
              · rintro ⟨i, t⟩ ⟨h1, h2⟩; dsimp only at h1 h2; have hlen : t.size ≤ 150 * wtAs (v.map.take i) := by rw [← lst_len t, h2]; exact jsonAs_len _ _
                have htk := wtAs_take v.map i
                refine aw_seq ?_
                refine aw_seq ?_
                refine aw_region ?_
                refine g_u (s_mv_imm rfl rfl) ?_
                refine g_u (s_fieldAddr rfl rfl fa70_5 rfl) ?_
                refine g_u (s_load_imm rfl rfl rfl tA30 tS30 rfl rfl) ?_
                refine g_u (s_lenL rfl rfl Tryd.underlying30) ?_
                refine g_u (s_ltI rfl rfl rfl) ?_
                refine g_nil ?_
                refine normal_thn ?_
                refine aw_cond rfl (fun hb8 => ?_) (fun hb8 => ?_)
                · skip
                  have hia : i < v.map.length := by have := of_decide_eq_true hb8; simp only [List.length_map] at this; omega
                  have hka : (nthA v.map i).key.size ≤ 100000000000 := by have q1 := wtAs_nth hia; have q4 := (nthA v.map i).wt_eq; omega
                  refine aw_skip ?_
                  refine normal_thn ?_
                  refine aw_seq ?_
                  refine aw_block ?_
                  refine aw_draw mixed ?_
                  refine g_u (s_mv_imm rfl rfl) ?_
                  refine g_u (s_mv_imm rfl rfl) ?_
                  refine g_u (s_call1 (rcomma_c _) rfl rfl) ?_
                  refine g_u (s_catS rfl rfl rfl (by show _ ≤ (9223372036854775807 : Int); (try dsimp only); first | (have q1 := wtVs_nth hiv; have q2 := json_len (nthV v.list i); have q3 := comma_length (i == 0); simp only [app_size, strOf_size, c1, c2, c3, c4, c5]; omega) | (have q1 := wtAs_nth hia; have q2 := jsonA_len (nthA v.map i); have q3 := comma_length (i == 0); have q4 := (nthA v.map i).wt_eq; have q5 := quoteB_length (lst (nthA v.map i).key); have q6 := lst_len (nthA v.map i).key; have q7 := json_len (nthA v.map i).val; simp only [app_size, strOf_size, c1, c2, c3, c4, c5]; omega) | (simp only [app_size, strOf_size, c1, c2, c3, c4, c5]; omega))) ?_
                  refine g_u (s_fieldAddr rfl rfl fa70_5 rfl) ?_
                  refine g_u (s_load_imm rfl rfl rfl tA30 tS30 rfl rfl) ?_
                  refine g_u (s_mv_imm rfl rfl) ?_
                  refine g_u (s_indexAddr rfl rfl rfl Tryd.underlying30 tS72 (by omega) (ixA hia)) ?_
                  refine g_u (s_fieldAddr_cp rfl rfl fa72_0 rfl rfl) ?_
                  refine g_u (s_load_cp rfl rfl tA9 tS9 rfl rfl) ?_
                  refine g_u (s_call1 (rquote_c _ (by first | exact hka | (rw [strOf_size]; omega))) rfl rfl) ?_
                  refine g_u (s_catS rfl rfl rfl (by show _ ≤ (9223372036854775807 : Int); (try dsimp only); first | (have q1 := wtVs_nth hiv; have q2 := json_len (nthV v.list i); have q3 := comma_length (i == 0); simp only [app_size, strOf_size, c1, c2, c3, c4, c5]; omega) | (have q1 := wtAs_nth hia; have q2 := jsonA_len (nthA v.map i); have q3 := comma_length (i == 0); have q4 := (nthA v.map i).wt_eq; have q5 := quoteB_length (lst (nthA v.map i).key); have q6 := lst_len (nthA v.map i).key; have q7 := json_len (nthA v.map i).val; simp only [app_size, strOf_size, c1, c2, c3, c4, c5]; omega) | (simp only [app_size, strOf_size, c1, c2, c3, c4, c5]; omega))) ?_
                  refine g_u (s_catS rfl rfl rfl (by show _ ≤ (9223372036854775807 : Int); (try dsimp only); first | (have q1 := wtVs_nth hiv; have q2 := json_len (nthV v.list i); have q3 := comma_length (i == 0); simp only [app_size, strOf_size, c1, c2, c3, c4, c5]; omega) | (have q1 := wtAs_nth hia; have q2 := jsonA_len (nthA v.map i); have q3 := comma_length (i == 0); have q4 := (nthA v.map i).wt_eq; have q5 := quoteB_length (lst (nthA v.map i).key); have q6 := lst_len (nthA v.map i).key; have q7 := json_len (nthA v.map i).val; simp only [app_size, strOf_size, c1, c2, c3, c4, c5]; omega) | (simp only [app_size, strOf_size, c1, c2, c3, c4, c5]; omega))) ?_
                  refine g_u (s_fieldAddr rfl rfl fa70_5 rfl) ?_
                  refine g_u (s_load_imm rfl rfl rfl tA30 tS30 rfl rfl) ?_
                  refine g_u (s_mv_imm rfl rfl) ?_
                  refine g_u (s_indexAddr rfl rfl rfl Tryd.underlying30 tS72 (by omega) (ixA hia)) ?_
                  refine g_u (s_fieldAddr_cp rfl rfl fa72_1 rfl rfl) ?_
                  refine g_u (s_load_cp rfl rfl tA70 tS70 rfl rfl) ?_
                  refine g_u (s_call1 ((by first | exact ih _ (nthV_mem hiv) | exact ihm _ (nthA_mem hia))) rfl rfl) ?_
                  refine g_u (s_catS rfl rfl rfl (by show _ ≤ (9223372036854775807 : Int); (try dsimp only); first | (have q1 := wtVs_nth hiv; have q2 := json_len (nthV v.list i); have q3 := comma_length (i == 0); simp only [app_size, strOf_size, c1, c2, c3, c4, c5]; omega) | (have q1 := wtAs_nth hia; have q2 := jsonA_len (nthA v.map i); have q3 := comma_length (i == 0); have q4 := (nthA v.map i).wt_eq; have q5 := quoteB_length (lst (nthA v.map i).key); have q6 := lst_len (nthA v.map i).key; have q7 := json_len (nthA v.map i).val; simp only [app_size, strOf_size, c1, c2, c3, c4, c5]; omega) | (simp only [app_size, strOf_size, c1, c2, c3, c4, c5]; omega))) ?_
                  refine g_u (s_as_imm rfl rfl) ?_
                  refine g_nil ⟨by kernel_rfl, ?_⟩
                  refine normal_blk ?_
                  refine normal_thn ?_
                  refine aw_region ?_
                  refine g_u (s_mv_imm rfl rfl) ?_
                  refine g_u (s_add rfl rfl rfl) ?_
                  refine g_u (s_as_imm rfl rfl) ?_
                  refine g_nil ?_
                  refine normal_thn ?_
                  refine ⟨⟨i + 1, _⟩, ⟨hia, ?_⟩, ⟨rfl, rfl, rfl, look_int rfl (by rw [wrap64 (by omega) (by omega)]; rfl), trivial⟩, by dsimp only; omega⟩
                  show lst (t ++ strOf (comma (i == 0)) ++ strOf (quoteB (lst (nthA v.map i).key)) ++ ⟨#[58]⟩ ++ strOf (jsonB (nthA v.map i).val)) = _
                  rw [jsonAs_take hia, jsonA_eq, lst_app, lst_app, lst_app, lst_app, lst_strOf, lst_strOf, lst_strOf, h2]
                  simp only [List.append_assoc]
                  rfl
                · skip
                  have hi : i = v.map.length := by have := of_decide_eq_false hb8; simp only [List.length_map] at this; omega
                  refine aw_exit ?_
                  refine exit_thn ?_
                  refine exit_thn ?_
                  refine exit_blk ?_
                  refine normal_thn ?_
                  refine aw_seq ?_
                  refine aw_region ?_
                  refine g_u (s_mv_imm rfl rfl) ?_
                  refine g_u (s_catS rfl rfl rfl (by show _ ≤ (9223372036854775807 : Int); (try dsimp only); first | (have q1 := wtVs_nth hiv; have q2 := json_len (nthV v.list i); have q3 := comma_length (i == 0); simp only [app_size, strOf_size, c1, c2, c3, c4, c5]; omega) | (have q1 := wtAs_nth hia; have q2 := jsonA_len (nthA v.map i); have q3 := comma_length (i == 0); have q4 := (nthA v.map i).wt_eq; have q5 := quoteB_length (lst (nthA v.map i).key); have q6 := lst_len (nthA v.map i).key; have q7 := json_len (nthA v.map i).val; simp only [app_size, strOf_size, c1, c2, c3, c4, c5]; omega) | (simp only [app_size, strOf_size, c1, c2, c3, c4, c5]; omega))) ?_
                  refine g_u (s_catS rfl rfl rfl (by show _ ≤ (9223372036854775807 : Int); (try dsimp only); first | (have q1 := wtVs_nth hiv; have q2 := json_len (nthV v.list i); have q3 := comma_length (i == 0); simp only [app_size, strOf_size, c1, c2, c3, c4, c5]; omega) | (have q1 := wtAs_nth hia; have q2 := jsonA_len (nthA v.map i); have q3 := comma_length (i == 0); have q4 := (nthA v.map i).wt_eq; have q5 := quoteB_length (lst (nthA v.map i).key); have q6 := lst_len (nthA v.map i).key; have q7 := json_len (nthA v.map i).val; simp only [app_size, strOf_size, c1, c2, c3, c4, c5]; omega) | (simp only [app_size, strOf_size, c1, c2, c3, c4, c5]; omega))) ?_
                  refine g_u (s_as_imm rfl rfl) ?_
                  refine g_nil ?_
                  refine normal_thn ?_
                  refine aw_ret ?_
                  refine ret_thn ?_
                  exact ⟨⟨(rfl : toAV (Al.look _ _) = some _).trans (congrArg some (by (simp only [beq_iff_eq, beq_eq_false_iff_ne, ne_eq, decide_eq_true_eq, decide_eq_false_iff_not] at *; rw [json7 (by omega)]; refine congrArg sv (strOf_eq ?_); show lst (⟨#[123]⟩ ++ t ++ ⟨#[125]⟩) = _; rw [lst_app, lst_app, h2, hi, List.take_of_length_le (Nat.le_refl _)]; rfl))), rfl⟩, trivial⟩
            · skip
              refine aw_skip ?_
              refine normal_thn ?_
              refine aw_seq ?_
              refine aw_region ?_
              refine g_u (s_load_imm rfl rfl rfl tA70 tS70 rfl rfl) ?_
              refine g_u (s_call1 (rsimple_c _ ho hw) rfl rfl) ?_
              refine g_u (s_as_imm rfl rfl) ?_
              refine g_nil ?_
              refine normal_thn ?_
              refine aw_ret ?_
              exact ⟨⟨(rfl : toAV (Al.look _ _) = some _).trans (congrArg some (by (simp only [beq_iff_eq, beq_eq_false_iff_ne, ne_eq, decide_eq_true_eq, decide_eq_false_iff_not] at *; rw [jsonE (by omega)]))), rfl⟩, trivial⟩

theorem rjson_c (v : GV) : v.ok → v.wt ≤ 10000000 → PCall Tryd.prog Γ0 96 [v.av] [sv (strOf (jsonB v))] := by
  refine GV.ind (P := fun v => v.ok → v.wt ≤ 10000000 → PCall Tryd.prog Γ0 96 [v.av] [sv (strOf (jsonB v))]) ?_ v
  intro v h1 h2 ho hw
  have ok := v.ok_iff.1 ho
  have ek := v.wt_eq
  refine rjson_step v ho hw (fun y hy => h1 y hy (ok.2.2.2.2.1 y hy) ?_) (fun a ha => h2 a ha ((GA.ok_iff a).1 (ok.2.2.2.2.2 a ha)).2 ?_)
  · have := wtVs_mem hy; omega
  · have := wtAs_mem ha; have := a.wt_eq; omega

set_option maxHeartbeats 400000 in
theorem rtext_c (v : GV) (ho : v.ok) (hw : v.wt ≤ 10000000) : PCall Tryd.prog Γ0 69 [v.av] [sv (textM v)] := by
  refine pcall_of Tryd.func69 rfl Tryd.ntmps69 (by kernel_rfl) rfl fun w0 I0 G0 => ?_
  refine aw_seq ?_
  refine aw_region ?_
  refine g_uG (s_box_imm 1001 rfl rfl rfl rfl) rfl ?_
  refine g_u (s_as_imm rfl rfl) ?_
  refine g_nil ?_
  refine normal_thn ?_
  refine aw_seq ?_
  refine aw_seq ?_
  refine aw_region ?_
  refine g_u (s_fieldAddr rfl rfl fa70_0 rfl) ?_
  refine g_u (s_load_imm rfl rfl rfl tA5 tS5 rfl rfl) ?_
  refine g_u (s_eqI rfl rfl rfl) ?_
  refine g_u (s_mv_imm rfl rfl) ?_
  refine g_case (t := 6) rfl ?_
  rintro (hb1 | hb1)
  · rw [hb1]
    refine g_skip rfl rfl rfl ?_
    refine g_skip rfl rfl rfl ?_
    refine g_skip rfl rfl rfl ?_
    refine g_u (s_pick_t rfl rfl rfl) ?_
    refine g_nil ?_
    refine normal_thn ?_
    refine aw_cond_true rfl ?_
    refine aw_seq ?_
    refine aw_region ?_
    refine g_u (s_load_imm rfl rfl rfl tA70 tS70 rfl rfl) ?_
    refine g_u (s_call1 (rjson_c v ho hw) rfl rfl) ?_
    refine g_u (s_as_imm rfl rfl) ?_
    refine g_nil ?_
    refine normal_thn ?_
    refine aw_ret ?_
    refine ret_thn ?_
    exact ⟨⟨(rfl : toAV (Al.look _ _) = some _).trans (congrArg some (by (simp only [beq_iff_eq, beq_eq_false_iff_ne, ne_eq, decide_eq_true_eq, decide_eq_false_iff_not] at *; first | rw [text6 (by omega)] | rw [textE (by omega)]))), rfl⟩, trivial⟩
  · rw [hb1]
    refine g_run rfl rfl (s_fieldAddr rfl rfl fa70_0 rfl) ?_
    refine g_run rfl rfl (s_load_imm rfl rfl rfl tA5 tS5 rfl rfl) ?_
    refine g_run rfl rfl (s_eqI rfl rfl rfl) ?_
    refine g_u (s_pick_f rfl rfl rfl) ?_
    refine g_nil ?_
    refine normal_thn ?_
    refine aw_cond rfl (fun hb2 => ?_) (fun hb2 => ?_)
    · skip
      refine aw_seq ?_
      refine aw_region ?_
      refine g_u (s_load_imm rfl rfl rfl tA70 tS70 rfl rfl) ?_
      refine g_u (s_call1 (rjson_c v ho hw) rfl rfl) ?_
      refine g_u (s_as_imm rfl rfl) ?_
      refine g_nil ?_
      refine normal_thn ?_
      refine aw_ret ?_
      refine ret_thn ?_
      exact ⟨⟨(rfl : toAV (Al.look _ _) = some _).trans (congrArg some (by (simp only [beq_iff_eq, beq_eq_false_iff_ne, ne_eq, decide_eq_true_eq, decide_eq_false_iff_not] at *; first | rw [text6 (by omega)] | rw [textE (by omega)]))), rfl⟩, trivial⟩
    · skip
      refine aw_skip ?_
      refine normal_thn ?_
      refine aw_seq ?_
      refine aw_region ?_
      refine g_u (s_load_imm rfl rfl rfl tA70 tS70 rfl rfl) ?_
      refine g_u (s_call1 (rsimple_c _ ho hw) rfl rfl) ?_
      refine g_u (s_as_imm rfl rfl) ?_
      refine g_nil ?_
      refine normal_thn ?_
      refine aw_ret ?_
      exact ⟨⟨(rfl : toAV (Al.look _ _) = some _).trans (congrArg some (by (simp only [beq_iff_eq, beq_eq_false_iff_ne, ne_eq, decide_eq_true_eq, decide_eq_false_iff_not] at *; first | rw [text6 (by omega)] | rw [textE (by omega)]))), rfl⟩, trivial⟩

end Go.Proofs

namespace Go.Proofs
open Go Go.Al
set_option maxRecDepth 10000
def truthB (n : Int) : Bs := if n = 0 then [102, 97, 108, 115, 101] else [116, 114, 117, 101]
def thingM (v : GV) : AV :=
  if v.kind = 0 then .ifc 141 (sv (strOf [110, 117, 108, 108]))
  else if v.kind = 1 then .ifc 140 (sv v.text)
  else if v.kind = 2 then .ifc 141 (sv (strOf (truthB v.num)))
  else if v.kind = 3 then .ifc 141 (sv (strOf (decB v.num)))
  else if v.kind = 4 then .ifc 140 (sv (strOf (48 :: 120 :: hexB (be 8 v.bits.toNat))))
  else if v.kind = 5 then .ifc 140 (sv (strOf (hexB (lst v.text))))
  else if v.kind = 6 then .ifc 171 (.sl 6 (v.list.map avV))
  else if v.kind = 7 then .ifc 172 (.sl 7 (v.map.map avA))
  else .ifc 141 (sv ⟨#[]⟩)

set_option maxHeartbeats 400000 in
theorem truth_c (n : Int) : PCall Tryd.prog Γ0 124 [iv n] [sv (strOf (truthB n))] := by
  refine pcall_of Tryd.func124 rfl Tryd.ntmps124 (by kernel_rfl) rfl fun w0 I0 G0 => ?_
  refine aw_seq ?_
  refine aw_region ?_
  refine g_u (s_as_imm rfl rfl) ?_
  refine g_nil ?_
  refine normal_thn ?_
  refine aw_seq ?_
  refine aw_seq ?_
  refine aw_region ?_
  refine g_u (s_mv_imm rfl rfl) ?_
  refine g_u (s_neI rfl rfl rfl) ?_
  refine g_nil ?_
  refine normal_thn ?_
  refine aw_cond rfl (fun hb1 => ?_) (fun hb1 => ?_)
  · skip
    refine aw_seq ?_
    refine aw_region ?_
    refine g_u (s_as_imm rfl rfl) ?_
    refine g_nil ?_
    refine normal_thn ?_
    refine aw_ret ?_
    refine ret_thn ?_
    exact ⟨⟨(rfl : toAV (Al.look _ _) = some _).trans (congrArg some (by (unfold truthB; first | (rw [if_neg (by simpa using hb1)]; rfl) | (rw [if_pos (by simpa using hb1)]; rfl)))), rfl⟩, trivial⟩
  · skip
    refine aw_skip ?_
    refine normal_thn ?_
    refine aw_seq ?_
    refine aw_region ?_
    refine g_u (s_as_imm rfl rfl) ?_
    refine g_nil ?_
    refine normal_thn ?_
    refine aw_ret ?_
    exact ⟨⟨(rfl : toAV (Al.look _ _) = some _).trans (congrArg some (by (unfold truthB; first | (rw [if_neg (by simpa using hb1)]; rfl) | (rw [if_pos (by simpa using hb1)]; rfl)))), rfl⟩, trivial⟩

set_option maxHeartbeats 400000 in
theorem double_c (u : Int) (h : 0 ≤ u ∧ u < 18446744073709551616) : PCall Tryd.prog Γ0 126 [uv u] [sv (strOf (48 :: 120 :: hexB (be 8 u.toNat)))] := by
  have c1 : (ByteArray.mk #[48, 120]).size = 2 := rfl
  refine pcall_of Tryd.func126 rfl Tryd.ntmps126 (by kernel_rfl) rfl fun w0 I0 G0 => ?_
  refine aw_seq ?_
  refine aw_region ?_
  refine g_u (s_as_imm rfl rfl) ?_
  refine g_nil ?_
  refine normal_thn ?_
  refine aw_seq ?_
  refine aw_region ?_
  refine g_u (s_mv_imm rfl rfl) ?_
  refine g_u (s_call1 (nil1 (n := 1) (high_c [] u h (by simp))) rfl rfl) ?_
  refine g_u (s_cvBS' (rfl) rfl rfl Tryd.underlying99 Tryd.underlying9 Tryd.underlying5) ?_
  refine g_u (s_call1 (htext_c _ (by rw [strOf_size]; simp only [List.nil_append, be_length]; omega)) rfl rfl) ?_
  refine g_u (s_catS rfl rfl rfl (by show _ ≤ (9223372036854775807 : Int); simp only [strOf_size, hexB_length, lst_strOf, List.nil_append, be_length, c1]; omega)) ?_
  refine g_u (s_as_imm rfl rfl) ?_
  refine g_nil ?_
  refine normal_thn ?_
  refine aw_ret ?_
  exact ⟨⟨(rfl : toAV (Al.look _ _) = some _).trans (congrArg some (by (rw [lst_strOf]; rfl))), rfl⟩, trivial⟩

set_option maxHeartbeats 400000 in
theorem thing_c (v : GV) (ho : v.ok) (hw : v.wt ≤ 10000000) : PCall Tryd.prog Γ0 94 [v.av] [thingM v] := by
  have lv := len_wtVs v.list
  have la := len_wtAs v.map
  have ek := v.wt_eq
  have ok := v.ok_iff.1 ho
  have sl := simpB_length v
  have jl := json_len v
  refine pcall_of Tryd.func94 rfl Tryd.ntmps94 (by kernel_rfl) rfl fun w0 I0 G0 => ?_
  refine aw_seq ?_
  refine aw_region ?_
  refine g_uG (s_box_imm 1001 rfl rfl rfl rfl) rfl ?_
  refine g_u (s_as_imm rfl rfl) ?_
  refine g_nil ?_
  refine normal_thn ?_
  refine aw_seq ?_
  refine aw_seq ?_
  refine aw_region ?_
  refine g_u (s_fieldAddr rfl rfl fa70_0 rfl) ?_
  refine g_u (s_load_imm rfl rfl rfl tA5 tS5 rfl rfl) ?_
  refine g_nil ?_
  refine normal_thn ?_
  refine aw_block ?_
  refine aw_seq ?_
  refine aw_region ?_
  refine g_u (s_eqI rfl rfl rfl) ?_
  refine g_u (s_as_imm rfl rfl) ?_
  refine g_nil ?_
  refine normal_thn ?_
  refine aw_cond rfl (fun hb1 => ?_) (fun hb1 => ?_)
  · skip
    refine aw_seq ?_
    refine aw_region ?_
    refine g_u (s_makeIface rfl rfl nI141) ?_
    refine g_u (s_as_imm rfl rfl) ?_
    refine g_nil ?_
    refine normal_thn ?_
    refine aw_ret ?_
    refine ret_blk ?_
    refine ret_thn ?_
    exact ⟨⟨(rfl : toAV (Al.look _ _) = some _).trans (congrArg some (by (simp only [beq_iff_eq, beq_eq_false_iff_ne, ne_eq, decide_eq_true_eq, decide_eq_false_iff_not] at *; unfold thingM; (repeat (first | rw [if_pos (by omega)] | rw [if_neg (by omega)])); (first | done | rfl)))), rfl⟩, trivial⟩
  · skip
    refine aw_seq ?_
    refine aw_region ?_
    refine g_u (s_eqI rfl rfl rfl) ?_
    refine g_u (s_as_imm rfl rfl) ?_
    refine g_nil ?_
    refine normal_thn ?_
    refine aw_cond rfl (fun hb2 => ?_) (fun hb2 => ?_)
    · skip
      refine aw_seq ?_
      refine aw_region ?_
      refine g_u (s_fieldAddr rfl rfl fa70_1 rfl) ?_
      refine g_u (s_load_imm rfl rfl rfl tA9 tS9 rfl rfl) ?_
      refine g_u (s_makeIface rfl rfl nI140) ?_
      refine g_u (s_as_imm rfl rfl) ?_
      refine g_nil ?_
      refine normal_thn ?_
      refine aw_ret ?_
      refine ret_blk ?_
      refine ret_thn ?_
      exact ⟨⟨(rfl : toAV (Al.look _ _) = some _).trans (congrArg some (by (simp only [beq_iff_eq, beq_eq_false_iff_ne, ne_eq, decide_eq_true_eq, decide_eq_false_iff_not] at *; unfold thingM; (repeat (first | rw [if_pos (by omega)] | rw [if_neg (by omega)])); (first | done | rfl)))), rfl⟩, trivial⟩
    · skip
      refine aw_seq ?_
      refine aw_region ?_
      refine g_u (s_eqI rfl rfl rfl) ?_
      refine g_u (s_as_imm rfl rfl) ?_
      refine g_nil ?_
      refine normal_thn ?_
      refine aw_cond rfl (fun hb3 => ?_) (fun hb3 => ?_)
      · skip
        refine aw_seq ?_
        refine aw_region ?_
        refine g_u (s_fieldAddr rfl rfl fa70_2 rfl) ?_
        refine g_u (s_load_imm rfl rfl rfl tA3 tS3 rfl rfl) ?_
        refine g_u (s_call1 (truth_c _) rfl rfl) ?_
        refine g_u (s_makeIface rfl rfl nI141) ?_
        refine g_u (s_as_imm rfl rfl) ?_
        refine g_nil ?_
        refine normal_thn ?_
        refine aw_ret ?_
        refine ret_blk ?_
        refine ret_thn ?_
        exact ⟨⟨(rfl : toAV (Al.look _ _) = some _).trans (congrArg some (by (simp only [beq_iff_eq, beq_eq_false_iff_ne, ne_eq, decide_eq_true_eq, decide_eq_false_iff_not] at *; unfold thingM; (repeat (first | rw [if_pos (by omega)] | rw [if_neg (by omega)])); (first | done | rfl)))), rfl⟩, trivial⟩
      · skip
        refine aw_seq ?_
        refine aw_region ?_
        refine g_u (s_eqI rfl rfl rfl) ?_
        refine g_u (s_as_imm rfl rfl) ?_
        refine g_nil ?_
        refine normal_thn ?_
        refine aw_cond rfl (fun hb4 => ?_) (fun hb4 => ?_)
        · skip
          refine aw_seq ?_
          refine aw_region ?_
          refine g_u (s_fieldAddr rfl rfl fa70_2 rfl) ?_
          refine g_u (s_load_imm rfl rfl rfl tA3 tS3 rfl rfl) ?_
          refine g_u (s_call1 (nil1 (n := 1) (dput_c [] _ ok.2.2.1 (by simp))) rfl rfl) ?_
          refine g_u (s_cvBS' (rfl) rfl rfl Tryd.underlying99 Tryd.underlying141 Tryd.underlying5) ?_
          refine g_u (s_makeIface rfl rfl nI141) ?_
          refine g_u (s_as_imm rfl rfl) ?_
          refine g_nil ?_
          refine normal_thn ?_
          refine aw_ret ?_
          refine ret_blk ?_
          refine ret_thn ?_
          exact ⟨⟨(rfl : toAV (Al.look _ _) = some _).trans (congrArg some (by (simp only [beq_iff_eq, beq_eq_false_iff_ne, ne_eq, decide_eq_true_eq, decide_eq_false_iff_not] at *; unfold thingM; (repeat (first | rw [if_pos (by omega)] | rw [if_neg (by omega)])); (first | done | rfl)))), rfl⟩, trivial⟩
        · skip
          refine aw_seq ?_
          refine aw_region ?_
          refine g_u (s_eqI rfl rfl rfl) ?_
          refine g_u (s_as_imm rfl rfl) ?_
          refine g_nil ?_
          refine normal_thn ?_
          refine aw_cond rfl (fun hb5 => ?_) (fun hb5 => ?_)
          · skip
            refine aw_seq ?_
            refine aw_region ?_
            refine g_u (s_fieldAddr rfl rfl fa70_3 rfl) ?_
            refine g_u (s_load_imm rfl rfl rfl tA46 tS46 rfl rfl) ?_
            refine g_u (s_call1 (double_c _ ok.2.2.2.1) rfl rfl) ?_
            refine g_u (s_makeIface rfl rfl nI140) ?_
            refine g_u (s_as_imm rfl rfl) ?_
            refine g_nil ?_
            refine normal_thn ?_
            refine aw_ret ?_
            refine ret_blk ?_
            refine ret_thn ?_
            exact ⟨⟨(rfl : toAV (Al.look _ _) = some _).trans (congrArg some (by (simp only [beq_iff_eq, beq_eq_false_iff_ne, ne_eq, decide_eq_true_eq, decide_eq_false_iff_not] at *; unfold thingM; (repeat (first | rw [if_pos (by omega)] | rw [if_neg (by omega)])); (first | done | rfl)))), rfl⟩, trivial⟩
          · skip
            refine aw_seq ?_
            refine aw_region ?_
            refine g_u (s_eqI rfl rfl rfl) ?_
            refine g_u (s_as_imm rfl rfl) ?_
            refine g_nil ?_
            refine normal_thn ?_
            refine aw_cond rfl (fun hb6 => ?_) (fun hb6 => ?_)
            · skip
              refine aw_seq ?_
              refine aw_region ?_
              refine g_u (s_fieldAddr rfl rfl fa70_1 rfl) ?_
              refine g_u (s_load_imm rfl rfl rfl tA9 tS9 rfl rfl) ?_
              refine g_u (s_call1 (htext_c _ (by omega)) rfl rfl) ?_
              refine g_u (s_makeIface rfl rfl nI140) ?_
              refine g_u (s_as_imm rfl rfl) ?_
              refine g_nil ?_
              refine normal_thn ?_
              refine aw_ret ?_
              refine ret_blk ?_
              refine ret_thn ?_
              exact ⟨⟨(rfl : toAV (Al.look _ _) = some _).trans (congrArg some (by (simp only [beq_iff_eq, beq_eq_false_iff_ne, ne_eq, decide_eq_true_eq, decide_eq_false_iff_not] at *; unfold thingM; (repeat (first | rw [if_pos (by omega)] | rw [if_neg (by omega)])); (first | done | rfl)))), rfl⟩, trivial⟩
            · skip
              refine aw_seq ?_
              refine aw_region ?_
              refine g_u (s_eqI rfl rfl rfl) ?_
              refine g_u (s_as_imm rfl rfl) ?_
              refine g_nil ?_
              refine normal_thn ?_
              refine aw_cond rfl (fun hb7 => ?_) (fun hb7 => ?_)
              · skip
                refine aw_seq ?_
                refine aw_region ?_
                refine g_u (s_fieldAddr rfl rfl fa70_4 rfl) ?_
                refine g_u (s_load_imm rfl rfl rfl tA68 tS68 rfl rfl) ?_
                refine g_u (s_makeIface rfl rfl nI171) ?_
                refine g_u (s_as_imm rfl rfl) ?_
                refine g_nil ?_
                refine normal_thn ?_
                refine aw_ret ?_
                refine ret_blk ?_
                refine ret_thn ?_
                exact ⟨⟨(rfl : toAV (Al.look _ _) = some _).trans (congrArg some (by (simp only [beq_iff_eq, beq_eq_false_iff_ne, ne_eq, decide_eq_true_eq, decide_eq_false_iff_not] at *; unfold thingM; (repeat (first | rw [if_pos (by omega)] | rw [if_neg (by omega)])); (first | done | rfl)))), rfl⟩, trivial⟩
              · skip
                refine aw_seq ?_
                refine aw_region ?_
                refine g_u (s_eqI rfl rfl rfl) ?_
                refine g_u (s_as_imm rfl rfl) ?_
                refine g_nil ?_
                refine normal_thn ?_
                refine aw_cond rfl (fun hb8 => ?_) (fun hb8 => ?_)
                · skip
                  refine aw_seq ?_
                  refine aw_region ?_
                  refine g_u (s_fieldAddr rfl rfl fa70_5 rfl) ?_
                  refine g_u (s_load_imm rfl rfl rfl tA30 tS30 rfl rfl) ?_
                  refine g_u (s_makeIface rfl rfl nI172) ?_
                  refine g_u (s_as_imm rfl rfl) ?_
                  refine g_nil ?_
                  refine normal_thn ?_
                  refine aw_ret ?_
                  refine ret_blk ?_
                  refine ret_thn ?_
                  exact ⟨⟨(rfl : toAV (Al.look _ _) = some _).trans (congrArg some (by (simp only [beq_iff_eq, beq_eq_false_iff_ne, ne_eq, decide_eq_true_eq, decide_eq_false_iff_not] at *; unfold thingM; (repeat (first | rw [if_pos (by omega)] | rw [if_neg (by omega)])); (first | done | rfl)))), rfl⟩, trivial⟩
                · skip
                  refine aw_skip ?_
                  refine normal_blk ?_
                  refine normal_thn ?_
                  refine aw_seq ?_
                  refine aw_region ?_
                  refine g_u (s_makeIface rfl rfl nI141) ?_
                  refine g_u (s_as_imm rfl rfl) ?_
                  refine g_nil ?_
                  refine normal_thn ?_
                  refine aw_ret ?_
                  exact ⟨⟨(rfl : toAV (Al.look _ _) = some _).trans (congrArg some (by (simp only [beq_iff_eq, beq_eq_false_iff_ne, ne_eq, decide_eq_true_eq, decide_eq_false_iff_not] at *; unfold thingM; (repeat (first | rw [if_pos (by omega)] | rw [if_neg (by omega)])); (first | done | rfl)))), rfl⟩, trivial⟩

theorem thing_p {v : GV} (h : v.kind ≠ 1 ∧ v.kind ≠ 4 ∧ v.kind ≠ 5 ∧ v.kind ≠ 6 ∧ v.kind ≠ 7) (c : PCall Tryd.prog Γ0 94 [v.av] [thingM v]) : PCall Tryd.prog Γ0 94 [v.av] [.ifc 141 (sv (strOf (jsonB v)))] := by
  have e : thingM v = .ifc 141 (sv (strOf (jsonB v))) := by
    unfold thingM
    by_cases h0 : v.kind = 0
    · rw [if_pos h0, json0 h0]
    · rw [if_neg h0, if_neg h.1, jsonE (by omega)]
      by_cases h2 : v.kind = 2
      · rw [if_pos h2]
        by_cases hn : v.num = 0
        · rw [simp2 h2 hn, truthB, if_pos hn]
        · rw [simp2' h2 hn, truthB, if_neg hn]
      · rw [if_neg h2]
        by_cases h3 : v.kind = 3
        · rw [if_pos h3, simp3 h3]
        · rw [if_neg h3, if_neg h.2.1, if_neg h.2.2.1, if_neg h.2.2.2.1, if_neg h.2.2.2.2, simp6 (by omega)]; rfl
  rw [← e]; exact c
theorem thing_q {v : GV} (h : v.kind = 1 ∨ v.kind = 4 ∨ v.kind = 5) (c : PCall Tryd.prog Γ0 94 [v.av] [thingM v]) : PCall Tryd.prog Γ0 94 [v.av] [.ifc 140 (sv (strOf (simpB v)))] := by
  have e : thingM v = .ifc 140 (sv (strOf (simpB v))) := by
    unfold thingM
    rcases h with h | h | h
    · rw [if_neg (by omega), if_pos h, simp1 h]
    · rw [if_neg (by omega), if_neg (by omega), if_neg (by omega), if_neg (by omega), if_pos h, simp4 h]
    · rw [if_neg (by omega), if_neg (by omega), if_neg (by omega), if_neg (by omega), if_neg (by omega), if_pos h, simp5 h]
  rw [← e]; exact c
theorem thing_l {v : GV} (h : v.kind = 6) (c : PCall Tryd.prog Γ0 94 [v.av] [thingM v]) : PCall Tryd.prog Γ0 94 [v.av] [.ifc 171 (.sl 6 (v.list.map avV))] := by
  have e : thingM v = .ifc 171 (.sl 6 (v.list.map avV)) := by
    unfold thingM
    rw [if_neg (by omega), if_neg (by omega), if_neg (by omega), if_neg (by omega), if_neg (by omega), if_neg (by omega), if_pos h]
  rw [← e]; exact c
theorem thing_m {v : GV} (h : v.kind = 7) (c : PCall Tryd.prog Γ0 94 [v.av] [thingM v]) : PCall Tryd.prog Γ0 94 [v.av] [.ifc 172 (.sl 7 (v.map.map avA))] := by
  have e : thingM v = .ifc 172 (.sl 7 (v.map.map avA)) := by
    unfold thingM
    rw [if_neg (by omega), if_neg (by omega), if_neg (by omega), if_neg (by omega), if_neg (by omega), if_neg (by omega), if_neg (by omega), if_pos h]
  rw [← e]; exact c

set_option maxHeartbeats 400000 in
theorem lay_p (v : GV) (ho : v.ok) (hw : v.wt ≤ 10000000) (xs : List AV) (hx : W1 xs) (hl : xs.length + 150 * v.wt ≤ 5000000000) (hk : v.kind ≠ 1 ∧ v.kind ≠ 4 ∧ v.kind ≠ 5 ∧ v.kind ≠ 6 ∧ v.kind ≠ 7) : MCall Tryd.prog Γ0 128 [.slg 100001 1 xs, .imm v.av] [(100001, .tok 1 xs)] (.slg 100001 1 (xs ++ bytesL (jsonB v))) [(100001, .tok 1 (xs ++ bytesL (jsonB v)))] := by
  have lv := len_wtVs v.list
  have la := len_wtAs v.map
  have ek := v.wt_eq
  have ok := v.ok_iff.1 ho
  have sl := simpB_length v
  have jl := json_len v
  have e0 : bytesL (strOf (jsonB v)).data.toList = bytesL (jsonB v) := by rw [strOf_list]
  refine mcall_of (rs := [.slg 100001 1 (xs ++ bytesL (jsonB v))]) Tryd.func128 rfl Tryd.ntmps128 (by kernel_rfl) rfl rfl rfl rfl rfl fun w0 I0 G0 E => ?_
  refine aw_seq ?_
  refine aw_region ?_
  refine g_uG (s_box_imm 1003 rfl rfl rfl rfl) rfl ?_
  refine g_u (s_as_imm rfl rfl) ?_
  refine g_nil ?_
  refine normal_thn ?_
  refine aw_seq ?_
  refine aw_seq ?_
  refine aw_region ?_
  refine g_u (s_load_imm rfl rfl rfl tA70 tS70 rfl rfl) ?_
  refine g_u (s_call1 (thing_p hk (thing_c v ho hw)) rfl rfl) ?_
  refine g_nil ?_
  refine normal_thn ?_
  refine aw_block ?_
  refine aw_seq ?_
  refine aw_region ?_
  refine g_u (s_assert_yes rfl rfl nI141) ?_
  refine g_u (s_extract rfl rfl rfl rfl) ?_
  refine g_u (s_extract rfl rfl rfl rfl) ?_
  refine g_nil ?_
  refine normal_thn ?_
  refine aw_cond_true rfl ?_
  refine aw_seq ?_
  refine aw_region ?_
  refine g_u (s_as_imm rfl rfl) ?_
  refine g_nil ?_
  refine normal_thn ?_
  refine aw_seq ?_
  refine aw_region ?_
  refine g_u (s_mv_slg rfl rfl) ?_
  refine g_u (s_mv_imm rfl rfl) ?_
  refine g_u (s_appendS rfl rfl rfl rfl rfl Tryd.underlying99 Tryd.underlying141 tS5 zv5 rfl by5 (by rw [strOf_size]; omega) (by rw [strOf_size]; omega)) ?_
  refine g_u (s_as_slg rfl rfl) ?_
  refine g_nil ?_
  refine normal_thn ?_
  refine aw_ret ?_
  refine ret_blk ?_
  refine ret_thn ?_
  exact ⟨⟨.inr ⟨_, rfl, look_slg rfl (by rw [e0]), rfl⟩, trivial⟩, ⟨look_tok rfl (by rw [e0]), trivial⟩⟩

set_option maxHeartbeats 400000 in
theorem lay_q (v : GV) (ho : v.ok) (hw : v.wt ≤ 10000000) (xs : List AV) (hx : W1 xs) (hl : xs.length + 150 * v.wt ≤ 5000000000) (hk : v.kind = 1 ∨ v.kind = 4 ∨ v.kind = 5) : MCall Tryd.prog Γ0 128 [.slg 100001 1 xs, .imm v.av] [(100001, .tok 1 xs)] (.slg 100001 1 (xs ++ bytesL (jsonB v))) [(100001, .tok 1 (xs ++ bytesL (jsonB v)))] := by
  have lv := len_wtVs v.list
  have la := len_wtAs v.map
  have ek := v.wt_eq
  have ok := v.ok_iff.1 ho
  have sl := simpB_length v
  have jl := json_len v
  refine mcall_of (rs := [.slg 100001 1 (xs ++ bytesL (jsonB v))]) Tryd.func128 rfl Tryd.ntmps128 (by kernel_rfl) rfl rfl rfl rfl rfl fun w0 I0 G0 E => ?_
  refine aw_seq ?_
  refine aw_region ?_
  refine g_uG (s_box_imm 1003 rfl rfl rfl rfl) rfl ?_
  refine g_u (s_as_imm rfl rfl) ?_
  refine g_nil ?_
  refine normal_thn ?_
  refine aw_seq ?_
  refine aw_seq ?_
  refine aw_region ?_
  refine g_u (s_load_imm rfl rfl rfl tA70 tS70 rfl rfl) ?_
  refine g_u (s_call1 (thing_q hk (thing_c v ho hw)) rfl rfl) ?_
  refine g_nil ?_
  refine normal_thn ?_
  refine aw_block ?_
  refine aw_seq ?_
  refine aw_region ?_
  refine g_u (s_assert_no rfl rfl nI141 tZ141 (fun z h => by rw [zv141] at h; cases h; rfl) rfl) ?_
  refine g_u (s_extract rfl rfl rfl rfl) ?_
  refine g_u (s_extract rfl rfl rfl rfl) ?_
  refine g_nil ?_
  refine normal_thn ?_
  refine aw_cond_false rfl ?_
  refine aw_seq ?_
  refine aw_region ?_
  refine g_u (s_assert_yes rfl rfl nI140) ?_
  refine g_u (s_extract rfl rfl rfl rfl) ?_
  refine g_u (s_extract rfl rfl rfl rfl) ?_
  refine g_nil ?_
  refine normal_thn ?_
  refine aw_cond_true rfl ?_
  refine aw_seq ?_
  refine aw_region ?_
  refine g_u (s_as_imm rfl rfl) ?_
  refine g_nil ?_
  refine normal_thn ?_
  refine aw_seq ?_
  refine aw_region ?_
  refine g_u (s_mv_slg rfl rfl) ?_
  refine g_u (s_mv_imm rfl rfl) ?_
  refine g_uG (s_mcall [(3014, 20001)] (jput_c _ _ hx (by rw [strOf_size]; omega) (by omega)) rfl rfl ⟨.inr ⟨_, rfl, rfl⟩, .inl rfl, trivial⟩ trivial rfl rfl rfl) rfl ?_
  refine g_u (s_as_slg rfl rfl) ?_
  refine g_nil ?_
  refine normal_thn ?_
  refine aw_renTok 20001 100001 1 (xs ++ bytesL (quoteB (lst (strOf (simpB v))))) [(4, .slg 100001 1 (xs ++ bytesL (quoteB (lst (strOf (simpB v))))))] rfl rfl rfl rfl rfl rfl ⟨.inr (.inl ⟨rfl, rfl⟩), trivial⟩ (by rw [List.length_append, bytesL_len]; simp only [quoteB, List.length_cons]; omega) ?_
  refine aw_ret ?_
  refine ret_blk ?_
  refine ret_thn ?_
  exact ⟨⟨.inr ⟨_, rfl, look_slg rfl (by rw [jsonS hk, lst_strOf]), rfl⟩, trivial⟩, ⟨look_tok rfl (by rw [jsonS hk, lst_strOf]), trivial⟩⟩

theorem bytesL_cons (c : UInt8) (l : Bs) : bytesL (c :: l) = .v (byteV c) :: bytesL l := rfl
theorem bytesL_nil : bytesL [] = [] := rfl
theorem W1.app {a b : List AV} (h : W1 a) (k : W1 b) : W1 (a ++ b) := fun x hx => (List.mem_append.1 hx).elim (h x) (k x)

set_option maxHeartbeats 400000 in
theorem lay_l (v : GV) (ho : v.ok) (hw : v.wt ≤ 10000000) (xs : List AV) (hx : W1 xs) (hl : xs.length + 150 * v.wt ≤ 5000000000) (hk : v.kind = 6) (ih : ∀ y ∈ v.list, ∀ xs : List AV, W1 xs → xs.length + 150 * y.wt ≤ 5000000000 → MCall Tryd.prog Γ0 128 [.slg 100001 1 xs, .imm y.av] [(100001, .tok 1 xs)] (.slg 100001 1 (xs ++ bytesL (jsonB y))) [(100001, .tok 1 (xs ++ bytesL (jsonB y)))]) : MCall Tryd.prog Γ0 128 [.slg 100001 1 xs, .imm v.av] [(100001, .tok 1 xs)] (.slg 100001 1 (xs ++ bytesL (jsonB v))) [(100001, .tok 1 (xs ++ bytesL (jsonB v)))] := by
  have lv := len_wtVs v.list
  have la := len_wtAs v.map
  have ek := v.wt_eq
  have ok := v.ok_iff.1 ho
  have sl := simpB_length v
  have jl := json_len v
  refine mcall_of (rs := [.slg 100001 1 (xs ++ bytesL (jsonB v))]) Tryd.func128 rfl Tryd.ntmps128 (by kernel_rfl) rfl rfl rfl rfl rfl fun w0 I0 G0 E => ?_
  refine aw_seq ?_
  refine aw_region ?_
  refine g_uG (s_box_imm 1003 rfl rfl rfl rfl) rfl ?_
  refine g_u (s_as_imm rfl rfl) ?_
  refine g_nil ?_
  refine normal_thn ?_
  refine aw_seq ?_
  refine aw_seq ?_
  refine aw_region ?_
  refine g_u (s_load_imm rfl rfl rfl tA70 tS70 rfl rfl) ?_
  refine g_u (s_call1 (thing_l hk (thing_c v ho hw)) rfl rfl) ?_
  refine g_nil ?_
  refine normal_thn ?_
  refine aw_block ?_
  refine aw_seq ?_
  refine aw_region ?_
  refine g_u (s_assert_no rfl rfl nI141 tZ141 (fun z h => by rw [zv141] at h; cases h; rfl) rfl) ?_
  refine g_u (s_extract rfl rfl rfl rfl) ?_
  refine g_u (s_extract rfl rfl rfl rfl) ?_
  refine g_nil ?_
  refine normal_thn ?_
  refine aw_cond_false rfl ?_
  refine aw_seq ?_
  refine aw_region ?_
  refine g_u (s_assert_no rfl rfl nI140 tZ140 (fun z h => by rw [zv140] at h; cases h; rfl) rfl) ?_
  refine g_u (s_extract rfl rfl rfl rfl) ?_
  refine g_u (s_extract rfl rfl rfl rfl) ?_
  refine g_nil ?_
  refine normal_thn ?_
  refine aw_cond_false rfl ?_
  refine aw_seq ?_
  refine aw_region ?_
  refine g_u (s_assert_yes rfl rfl nI171) ?_
  refine g_u (s_extract rfl rfl rfl rfl) ?_
  refine g_u (s_extract rfl rfl rfl rfl) ?_
  refine g_nil ?_
  refine normal_thn ?_
  refine aw_cond_true rfl ?_
  refine aw_seq ?_
  refine aw_region ?_
  refine g_u (s_as_imm rfl rfl) ?_
  refine g_nil ?_
  refine normal_thn ?_
  refine aw_seq ?_
  refine aw_region ?_
  refine g_u (s_mv_slg rfl rfl) ?_
  refine g_u (s_buildSlice (X0 := z5) rfl Tryd.underlying99 tS5 tZ5 rfl rfl rfl rfl rfl rfl rfl rfl) ?_
  refine g_u (s_append rfl rfl rfl rfl rfl Tryd.underlying99 Tryd.underlying99 tS5 zv5 rfl (by decide) by5 (by (try dsimp only); simp only [List.length_append, List.length_cons, List.length_nil]; omega) (by (try dsimp only); simp only [List.length_append, List.length_cons, List.length_nil]; omega)) ?_
  refine g_u (s_as_slg rfl rfl) ?_
  refine g_nil ?_
  refine normal_thn ?_
  refine aw_seq ?_
  refine aw_seq ?_
  refine aw_region ?_
  refine g_u (s_mv_imm rfl rfl) ?_
  refine g_u (s_lenL rfl rfl Tryd.underlying171) ?_
  refine g_u (s_mv_imm rfl rfl) ?_
  refine g_nil ?_
  refine normal_thn ?_
  refine aw_block ?_
  refine aw_loop' (fun j : Nat × List AV => [(0, .slg 100001 1 j.2), (100001, .tok 1 j.2), (33, .imm (.sl 6 (v.list.map avV))), (34, .imm (iv (v.list.length : Int))), (35, .imm (iv (j.1 : Int)))]) (fun j => j.1 ≤ v.list.length ∧ j.2 = xs ++ bytesL (91 :: jsonVs true (v.list.take j.1))) (fun j => v.list.length - j.1) (⟨0, xs ++ bytesL [91]⟩) ?_ ⟨rfl, rfl, rfl, look_int rfl (by rw [List.length_map]), rfl, trivial⟩ ?_
  · exact ⟨Nat.zero_le _, rfl⟩
  · rintro ⟨i, ys⟩ ⟨h1, h2⟩; dsimp only at h1 h2; have hlen : ys.length ≤ xs.length + 1 + 150 * wtVs (v.list.take i) := by have := jsonVs_len (v.list.take i) true; rw [h2, List.length_append, bytesL_len, List.length_cons]; omega
    have hwy : W1 ys := by rw [h2]; exact hx.app (W1.bytes _)
    have htk := wtVs_take v.list i
    refine aw_seq ?_
    refine aw_region ?_
    refine g_u (s_ltI rfl rfl rfl) ?_
    refine g_nil ?_
    refine normal_thn ?_
    refine aw_seq ?_
    refine aw_cond rfl (fun hb1 => ?_) (fun hb1 => ?_)
    · skip
      have hiv : i < v.list.length := by have := of_decide_eq_true hb1; simp only [List.length_map] at this; omega
      refine aw_skip ?_
      refine normal_thn ?_
      refine aw_seq ?_
      refine aw_block ?_
      refine aw_seq ?_
      refine aw_region ?_
      refine g_u (s_mv_imm rfl rfl) ?_
      refine g_u (s_indexAddr rfl rfl rfl Tryd.underlying171 tS70 (by omega) (ixV hiv)) ?_
      refine g_u (s_load_cp rfl rfl tA70 tS70 rfl rfl) ?_
      refine g_uG (s_alloc' 1009 rfl rfl rfl tZ70) rfl ?_
      refine g_u (s_as_imm rfl rfl) ?_
      refine g_u (s_store_imm rfl rfl rfl tS70 rfl rfl) ?_
      refine g_nil ?_
      refine normal_thn ?_
      refine aw_seq ?_
      refine aw_seq ?_
      refine aw_region ?_
      refine g_u (s_mv_imm rfl rfl) ?_
      refine g_u (s_gtI rfl rfl rfl) ?_
      refine g_nil ?_
      refine normal_thn ?_
      refine aw_cond rfl (fun hb2 => ?_) (fun hb2 => ?_)
      · skip
        have hc : comma (i == 0) = [44] := by have hp : i ≠ 0 := (by have := of_decide_eq_true hb2; omega); rw [show (i == 0) = false from by simpa using hp]; rfl
        refine aw_region ?_
        refine g_u (s_mv_slg rfl rfl) ?_
        refine g_u (s_buildSlice (X0 := z5) rfl Tryd.underlying99 tS5 tZ5 rfl rfl rfl rfl rfl rfl rfl rfl) ?_
        refine g_u (s_append rfl rfl rfl rfl rfl Tryd.underlying99 Tryd.underlying99 tS5 zv5 rfl (by decide) by5 (by (try dsimp only); simp only [List.length_append, List.length_cons, List.length_nil]; omega) (by (try dsimp only); simp only [List.length_append, List.length_cons, List.length_nil]; omega)) ?_
        refine g_u (s_as_slg rfl rfl) ?_
        refine g_nil ?_
        refine normal_thn ?_
        refine aw_region ?_
        refine g_u (s_mv_slg rfl rfl) ?_
        refine g_u (s_load_agg rfl rfl rfl tA70 tS70 rfl rfl) ?_
        refine g_uG (s_mcall [(100001, 100001)] (ih _ (nthV_mem hiv) _ (by first | exact hwy | exact hwy.app (W1.bytes [44])) (by have q1 := wtVs_nth hiv; (try simp only [List.length_append, List.length_cons, List.length_nil]); omega)) rfl rfl ⟨.inl rfl, .inl rfl, trivial⟩ ⟨rfl, trivial⟩ rfl rfl rfl) rfl ?_
        refine g_u (s_as_slg rfl rfl) ?_
        refine g_nil ?_
        refine normal_blk ?_
        refine normal_thn ?_
        refine aw_region ?_
        refine g_u (s_add rfl rfl rfl) ?_
        refine g_u (s_mv_imm rfl rfl) ?_
        refine g_nil ?_
        refine normal_thn ?_
        refine ⟨⟨i + 1, _⟩, ⟨hiv, ?_⟩, ⟨rfl, rfl, rfl, rfl, look_int rfl (by rw [wrap64 (by omega) (by omega)]; rfl), trivial⟩, by dsimp only; omega⟩
        dsimp only
        rw [jsonVs_take hiv, hc]
        subst h2
        simp only [List.append_assoc, List.cons_append, List.nil_append, ← bytesL_app, bytesL_cons, bytesL_nil, strOf_list, lst_strOf]
        try rfl
      · skip
        have hc : comma (i == 0) = [] := by have hp : i = 0 := (by have := of_decide_eq_false hb2; omega); rw [hp]; rfl
        refine aw_skip ?_
        refine normal_thn ?_
        refine aw_region ?_
        refine g_u (s_mv_slg rfl rfl) ?_
        refine g_u (s_load_agg rfl rfl rfl tA70 tS70 rfl rfl) ?_
        refine g_uG (s_mcall [(100001, 100001)] (ih _ (nthV_mem hiv) _ (by first | exact hwy | exact hwy.app (W1.bytes [44])) (by have q1 := wtVs_nth hiv; (try simp only [List.length_append, List.length_cons, List.length_nil]); omega)) rfl rfl ⟨.inl rfl, .inl rfl, trivial⟩ ⟨rfl, trivial⟩ rfl rfl rfl) rfl ?_
        refine g_u (s_as_slg rfl rfl) ?_
        refine g_nil ?_
        refine normal_blk ?_
        refine normal_thn ?_
        refine aw_region ?_
        refine g_u (s_add rfl rfl rfl) ?_
        refine g_u (s_mv_imm rfl rfl) ?_
        refine g_nil ?_
        refine normal_thn ?_
        refine ⟨⟨i + 1, _⟩, ⟨hiv, ?_⟩, ⟨rfl, rfl, rfl, rfl, look_int rfl (by rw [wrap64 (by omega) (by omega)]; rfl), trivial⟩, by dsimp only; omega⟩
        dsimp only
        rw [jsonVs_take hiv, hc]
        subst h2
        simp only [List.append_assoc, List.cons_append, List.nil_append, ← bytesL_app, bytesL_cons, bytesL_nil, strOf_list, lst_strOf]
        try rfl
    · skip
      have hi : i = v.list.length := by have := of_decide_eq_false hb1; simp only [List.length_map] at this; omega
      refine aw_exit ?_
      refine exit_thn ?_
      refine exit_thn ?_
      refine exit_blk ?_
      refine normal_thn ?_
      refine aw_seq ?_
      refine aw_region ?_
      refine g_u (s_mv_slg rfl rfl) ?_
      refine g_u (s_buildSlice (X0 := z5) rfl Tryd.underlying99 tS5 tZ5 rfl rfl rfl rfl rfl rfl rfl rfl) ?_
      refine g_u (s_append rfl rfl rfl rfl rfl Tryd.underlying99 Tryd.underlying99 tS5 zv5 rfl (by decide) by5 (by (try dsimp only); simp only [List.length_append, List.length_cons, List.length_nil]; omega) (by (try dsimp only); simp only [List.length_append, List.length_cons, List.length_nil]; omega)) ?_
      refine g_u (s_as_slg rfl rfl) ?_
      refine g_nil ?_
      refine normal_thn ?_
      refine aw_ret ?_
      refine ret_blk ?_
      refine ret_thn ?_
      exact ⟨⟨.inr ⟨_, rfl, look_slg rfl (by rw [json6 hk, h2, hi, List.take_of_length_le (Nat.le_refl _), List.append_assoc]; exact congrArg (xs ++ ·) (bytesL_app _ [93])), rfl⟩, trivial⟩, ⟨look_tok rfl (by rw [json6 hk, h2, hi, List.take_of_length_le (Nat.le_refl _), List.append_assoc]; exact congrArg (xs ++ ·) (bytesL_app _ [93])), trivial⟩⟩

set_option maxHeartbeats 400000 in
theorem lay_m (v : GV) (ho : v.ok) (hw : v.wt ≤ 10000000) (xs : List AV) (hx : W1 xs) (hl : xs.length + 150 * v.wt ≤ 5000000000) (hk : v.kind = 7) (ih : ∀ a ∈ v.map, ∀ xs : List AV, W1 xs → xs.length + 150 * a.val.wt ≤ 5000000000 → MCall Tryd.prog Γ0 128 [.slg 100001 1 xs, .imm a.val.av] [(100001, .tok 1 xs)] (.slg 100001 1 (xs ++ bytesL (jsonB a.val))) [(100001, .tok 1 (xs ++ bytesL (jsonB a.val)))]) : MCall Tryd.prog Γ0 128 [.slg 100001 1 xs, .imm v.av] [(100001, .tok 1 xs)] (.slg 100001 1 (xs ++ bytesL (jsonB v))) [(100001, .tok 1 (xs ++ bytesL (jsonB v)))] := by
  have lv := len_wtVs v.list
  have la := len_wtAs v.map
  have ek := v.wt_eq
  have ok := v.ok_iff.1 ho
  have sl := simpB_length v
  have jl := json_len v
  refine mcall_of (rs := [.slg 100001 1 (xs ++ bytesL (jsonB v))]) Tryd.func128 rfl Tryd.ntmps128 (by kernel_rfl) rfl rfl rfl rfl rfl fun w0 I0 G0 E => ?_
  refine aw_seq ?_
  refine aw_region ?_
  refine g_uG (s_box_imm 1003 rfl rfl rfl rfl) rfl ?_
  refine g_u (s_as_imm rfl rfl) ?_
  refine g_nil ?_
  refine normal_thn ?_
  refine aw_seq ?_
  refine aw_seq ?_
  refine aw_region ?_
  refine g_u (s_load_imm rfl rfl rfl tA70 tS70 rfl rfl) ?_
  refine g_u (s_call1 (thing_m hk (thing_c v ho hw)) rfl rfl) ?_
  refine g_nil ?_
  refine normal_thn ?_
  refine aw_block ?_
  refine aw_seq ?_
  refine aw_region ?_
  refine g_u (s_assert_no rfl rfl nI141 tZ141 (fun z h => by rw [zv141] at h; cases h; rfl) rfl) ?_
  refine g_u (s_extract rfl rfl rfl rfl) ?_
  refine g_u (s_extract rfl rfl rfl rfl) ?_
  refine g_nil ?_
  refine normal_thn ?_
  refine aw_cond_false rfl ?_
  refine aw_seq ?_
  refine aw_region ?_
  refine g_u (s_assert_no rfl rfl nI140 tZ140 (fun z h => by rw [zv140] at h; cases h; rfl) rfl) ?_
  refine g_u (s_extract rfl rfl rfl rfl) ?_
  refine g_u (s_extract rfl rfl rfl rfl) ?_
  refine g_nil ?_
  refine normal_thn ?_
  refine aw_cond_false rfl ?_
  refine aw_seq ?_
  refine aw_region ?_
  refine g_u (s_assert_no rfl rfl nI171 tZ171 (fun z h => by rw [zv171] at h; cases h; rfl) rfl) ?_
  refine g_u (s_extract rfl rfl rfl rfl) ?_
  refine g_u (s_extract rfl rfl rfl rfl) ?_
  refine g_nil ?_
  refine normal_thn ?_
  refine aw_cond_false rfl ?_
  refine aw_seq ?_
  refine aw_region ?_
  refine g_u (s_assert_yes rfl rfl nI172) ?_
  refine g_u (s_extract rfl rfl rfl rfl) ?_
  refine g_u (s_extract rfl rfl rfl rfl) ?_
  refine g_nil ?_
  refine normal_thn ?_
  refine aw_cond_true rfl ?_
  refine aw_seq ?_
  refine aw_region ?_
  refine g_u (s_as_imm rfl rfl) ?_
  refine g_nil ?_
  refine normal_thn ?_
  refine aw_seq ?_
  refine aw_region ?_
  refine g_u (s_mv_slg rfl rfl) ?_
  refine g_u (s_buildSlice (X0 := z5) rfl Tryd.underlying99 tS5 tZ5 rfl rfl rfl rfl rfl rfl rfl rfl) ?_
  refine g_u (s_append rfl rfl rfl rfl rfl Tryd.underlying99 Tryd.underlying99 tS5 zv5 rfl (by decide) by5 (by (try dsimp only); (try (have q1 := wtAs_nth hia; have q2 := (nthA v.map i).wt_eq; have q3 := quoteB_length (lst (nthA v.map i).key); have q4 := lst_len (nthA v.map i).key)); (try simp only [List.length_append, List.length_cons, List.length_nil, bytesL_len]); omega) (by (try dsimp only); (try (have q1 := wtAs_nth hia; have q2 := (nthA v.map i).wt_eq; have q3 := quoteB_length (lst (nthA v.map i).key); have q4 := lst_len (nthA v.map i).key)); (try simp only [List.length_append, List.length_cons, List.length_nil, bytesL_len]); omega)) ?_
  refine g_u (s_as_slg rfl rfl) ?_
  refine g_nil ?_
  refine normal_thn ?_
  refine aw_seq ?_
  refine aw_seq ?_
  refine aw_region ?_
  refine g_u (s_mv_imm rfl rfl) ?_
  refine g_u (s_lenL rfl rfl Tryd.underlying172) ?_
  refine g_u (s_mv_imm rfl rfl) ?_
  refine g_nil ?_
  refine normal_thn ?_
  refine aw_block ?_
  refine aw_loop' (fun j : Nat × List AV => [(0, .slg 100001 1 j.2), (100001, .tok 1 j.2), (58, .imm (.sl 7 (v.map.map avA))), (59, .imm (iv (v.map.length : Int))), (60, .imm (iv (j.1 : Int)))]) (fun j => j.1 ≤ v.map.length ∧ j.2 = xs ++ bytesL (123 :: jsonAs true (v.map.take j.1))) (fun j => v.map.length - j.1) (⟨0, xs ++ bytesL [123]⟩) ?_ ⟨rfl, rfl, rfl, look_int rfl (by rw [List.length_map]), rfl, trivial⟩ ?_
  · exact ⟨Nat.zero_le _, rfl⟩
  · rintro ⟨i, ys⟩ ⟨h1, h2⟩; dsimp only at h1 h2; have hlen : ys.length ≤ xs.length + 1 + 150 * wtAs (v.map.take i) := by have := jsonAs_len (v.map.take i) true; rw [h2, List.length_append, bytesL_len, List.length_cons]; omega
    have hwy : W1 ys := by rw [h2]; exact hx.app (W1.bytes _)
    have htk := wtAs_take v.map i
    refine aw_seq ?_
    refine aw_region ?_
    refine g_u (s_ltI rfl rfl rfl) ?_
    refine g_nil ?_
    refine normal_thn ?_
    refine aw_seq ?_
    refine aw_cond rfl (fun hb1 => ?_) (fun hb1 => ?_)
    · skip
      have hia : i < v.map.length := by have := of_decide_eq_true hb1; simp only [List.length_map] at this; omega
      have hka : (nthA v.map i).key.size ≤ 10000000000 := by have q1 := wtAs_nth hia; have q4 := (nthA v.map i).wt_eq; omega
      refine aw_skip ?_
      refine normal_thn ?_
      refine aw_seq ?_
      refine aw_block ?_
      refine aw_seq ?_
      refine aw_region ?_
      refine g_u (s_mv_imm rfl rfl) ?_
      refine g_u (s_indexAddr rfl rfl rfl Tryd.underlying172 tS72 (by omega) (ixA hia)) ?_
      refine g_u (s_load_cp rfl rfl tA72 tS72 rfl rfl) ?_
      refine g_uG (s_alloc' 1012 rfl rfl rfl tZ72) rfl ?_
      refine g_u (s_as_imm rfl rfl) ?_
      refine g_u (s_store_imm rfl rfl rfl tS72 rfl rfl) ?_
      refine g_nil ?_
      refine normal_thn ?_
      refine aw_seq ?_
      refine aw_seq ?_
      refine aw_region ?_
      refine g_u (s_mv_imm rfl rfl) ?_
      refine g_u (s_gtI rfl rfl rfl) ?_
      refine g_nil ?_
      refine normal_thn ?_
      refine aw_cond rfl (fun hb2 => ?_) (fun hb2 => ?_)
      · skip
        have hc : comma (i == 0) = [44] := by have hp : i ≠ 0 := (by have := of_decide_eq_true hb2; omega); rw [show (i == 0) = false from by simpa using hp]; rfl
        refine aw_region ?_
        refine g_u (s_mv_slg rfl rfl) ?_
        refine g_u (s_buildSlice (X0 := z5) rfl Tryd.underlying99 tS5 tZ5 rfl rfl rfl rfl rfl rfl rfl rfl) ?_
        refine g_u (s_append rfl rfl rfl rfl rfl Tryd.underlying99 Tryd.underlying99 tS5 zv5 rfl (by decide) by5 (by (try dsimp only); (try (have q1 := wtAs_nth hia; have q2 := (nthA v.map i).wt_eq; have q3 := quoteB_length (lst (nthA v.map i).key); have q4 := lst_len (nthA v.map i).key)); (try simp only [List.length_append, List.length_cons, List.length_nil, bytesL_len]); omega) (by (try dsimp only); (try (have q1 := wtAs_nth hia; have q2 := (nthA v.map i).wt_eq; have q3 := quoteB_length (lst (nthA v.map i).key); have q4 := lst_len (nthA v.map i).key)); (try simp only [List.length_append, List.length_cons, List.length_nil, bytesL_len]); omega)) ?_
        refine g_u (s_as_slg rfl rfl) ?_
        refine g_nil ?_
        refine normal_thn ?_
        refine aw_draw mixed ?_
        refine g_u (s_mv_slg rfl rfl) ?_
        refine g_u (s_fieldAddr rfl rfl fa72_0 rfl) ?_
        refine g_u (s_load_imm rfl rfl rfl tA9 tS9 rfl rfl) ?_
        refine g_uG (s_mcall [(3014, 20001)] (jput_c _ _ (by first | exact hwy | exact hwy.app (W1.bytes [44])) hka (by have q1 := wtAs_nth hia; have q2 := (nthA v.map i).wt_eq; have q3 := quoteB_length (lst (nthA v.map i).key); have q4 := lst_len (nthA v.map i).key; (try simp only [List.length_append, List.length_cons, List.length_nil, bytesL_len]); omega)) rfl rfl ⟨.inr ⟨_, rfl, rfl⟩, .inl rfl, trivial⟩ trivial rfl rfl rfl) rfl ?_
        refine g_u (s_buildSlice (X0 := z5) rfl Tryd.underlying99 tS5 tZ5 rfl rfl rfl rfl rfl rfl rfl rfl) ?_
        refine g_u (s_append rfl rfl rfl rfl rfl Tryd.underlying99 Tryd.underlying99 tS5 zv5 rfl (by decide) by5 (by (try dsimp only); (try (have q1 := wtAs_nth hia; have q2 := (nthA v.map i).wt_eq; have q3 := quoteB_length (lst (nthA v.map i).key); have q4 := lst_len (nthA v.map i).key)); (try simp only [List.length_append, List.length_cons, List.length_nil, bytesL_len]); omega) (by (try dsimp only); (try (have q1 := wtAs_nth hia; have q2 := (nthA v.map i).wt_eq; have q3 := quoteB_length (lst (nthA v.map i).key); have q4 := lst_len (nthA v.map i).key)); (try simp only [List.length_append, List.length_cons, List.length_nil, bytesL_len]); omega)) ?_
        refine g_u (s_fieldAddr rfl rfl fa72_1 rfl) ?_
        refine g_u (s_load_imm rfl rfl rfl tA70 tS70 rfl rfl) ?_
        refine g_uG (s_mcall [(100001, 20001)] (ih _ (nthA_mem hia) _ (by first | exact ((hwy.app (W1.bytes _)).app (W1.bytes [58])) | exact (((hwy.app (W1.bytes [44])).app (W1.bytes _)).app (W1.bytes [58]))) (by show _ + 150 * (nthA v.map i).val.wt ≤ 5000000000; have q1 := wtAs_nth hia; have q2 := (nthA v.map i).wt_eq; have q3 := quoteB_length (lst (nthA v.map i).key); have q4 := lst_len (nthA v.map i).key; (try simp only [List.length_append, List.length_cons, List.length_nil, bytesL_len]); omega)) rfl rfl ⟨.inl rfl, .inl rfl, trivial⟩ ⟨rfl, trivial⟩ rfl rfl rfl) rfl ?_
        refine g_u (s_as_slg rfl rfl) ?_
        refine g_nil ⟨by kernel_rfl, ?_⟩
        refine normal_blk ?_
        refine normal_thn ?_
        refine aw_renTok 20001 100001 1 _ [(0, .slg 100001 1 _), (58, .imm (.sl 7 (v.map.map avA))), (59, .imm (iv (v.map.length : Int))), (60, .imm (iv (i : Int)))] rfl rfl rfl rfl rfl rfl ⟨.inr (.inl ⟨rfl, rfl⟩), .inl ⟨rfl, rfl⟩, .inl ⟨rfl, rfl⟩, .inl ⟨rfl, rfl⟩, trivial⟩ (by simp only [List.length_append, List.length_cons, List.length_nil, bytesL_len]; omega) ?_
        refine aw_region ?_
        refine g_u (s_add rfl rfl rfl) ?_
        refine g_u (s_mv_imm rfl rfl) ?_
        refine g_nil ?_
        refine normal_thn ?_
        refine ⟨⟨i + 1, _⟩, ⟨hia, ?_⟩, ⟨rfl, rfl, rfl, rfl, look_int rfl (by rw [wrap64 (by omega) (by omega)]; rfl), trivial⟩, by dsimp only; omega⟩
        dsimp only
        rw [jsonAs_take hia, hc, jsonA_eq]
        subst h2
        simp only [List.append_assoc, List.cons_append, List.nil_append, ← bytesL_app, bytesL_cons, bytesL_nil, strOf_list, lst_strOf]
        try rfl
      · skip
        have hc : comma (i == 0) = [] := by have hp : i = 0 := (by have := of_decide_eq_false hb2; omega); rw [hp]; rfl
        refine aw_skip ?_
        refine normal_thn ?_
        refine aw_draw mixed ?_
        refine g_u (s_mv_slg rfl rfl) ?_
        refine g_u (s_fieldAddr rfl rfl fa72_0 rfl) ?_
        refine g_u (s_load_imm rfl rfl rfl tA9 tS9 rfl rfl) ?_
        refine g_uG (s_mcall [(3014, 20002)] (jput_c _ _ (by first | exact hwy | exact hwy.app (W1.bytes [44])) hka (by have q1 := wtAs_nth hia; have q2 := (nthA v.map i).wt_eq; have q3 := quoteB_length (lst (nthA v.map i).key); have q4 := lst_len (nthA v.map i).key; (try simp only [List.length_append, List.length_cons, List.length_nil, bytesL_len]); omega)) rfl rfl ⟨.inr ⟨_, rfl, rfl⟩, .inl rfl, trivial⟩ trivial rfl rfl rfl) rfl ?_
        refine g_u (s_buildSlice (X0 := z5) rfl Tryd.underlying99 tS5 tZ5 rfl rfl rfl rfl rfl rfl rfl rfl) ?_
        refine g_u (s_append rfl rfl rfl rfl rfl Tryd.underlying99 Tryd.underlying99 tS5 zv5 rfl (by decide) by5 (by (try dsimp only); (try (have q1 := wtAs_nth hia; have q2 := (nthA v.map i).wt_eq; have q3 := quoteB_length (lst (nthA v.map i).key); have q4 := lst_len (nthA v.map i).key)); (try simp only [List.length_append, List.length_cons, List.length_nil, bytesL_len]); omega) (by (try dsimp only); (try (have q1 := wtAs_nth hia; have q2 := (nthA v.map i).wt_eq; have q3 := quoteB_length (lst (nthA v.map i).key); have q4 := lst_len (nthA v.map i).key)); (try simp only [List.length_append, List.length_cons, List.length_nil, bytesL_len]); omega)) ?_
        refine g_u (s_fieldAddr rfl rfl fa72_1 rfl) ?_
        refine g_u (s_load_imm rfl rfl rfl tA70 tS70 rfl rfl) ?_
        refine g_uG (s_mcall [(100001, 20002)] (ih _ (nthA_mem hia) _ (by first | exact ((hwy.app (W1.bytes _)).app (W1.bytes [58])) | exact (((hwy.app (W1.bytes [44])).app (W1.bytes _)).app (W1.bytes [58]))) (by show _ + 150 * (nthA v.map i).val.wt ≤ 5000000000; have q1 := wtAs_nth hia; have q2 := (nthA v.map i).wt_eq; have q3 := quoteB_length (lst (nthA v.map i).key); have q4 := lst_len (nthA v.map i).key; (try simp only [List.length_append, List.length_cons, List.length_nil, bytesL_len]); omega)) rfl rfl ⟨.inl rfl, .inl rfl, trivial⟩ ⟨rfl, trivial⟩ rfl rfl rfl) rfl ?_
        refine g_u (s_as_slg rfl rfl) ?_
        refine g_nil ⟨by kernel_rfl, ?_⟩
        refine normal_blk ?_
        refine normal_thn ?_
        refine aw_renTok 20002 100001 1 _ [(0, .slg 100001 1 _), (58, .imm (.sl 7 (v.map.map avA))), (59, .imm (iv (v.map.length : Int))), (60, .imm (iv (i : Int)))] rfl rfl rfl rfl rfl rfl ⟨.inr (.inl ⟨rfl, rfl⟩), .inl ⟨rfl, rfl⟩, .inl ⟨rfl, rfl⟩, .inl ⟨rfl, rfl⟩, trivial⟩ (by simp only [List.length_append, List.length_cons, List.length_nil, bytesL_len]; omega) ?_
        refine aw_region ?_
        refine g_u (s_add rfl rfl rfl) ?_
        refine g_u (s_mv_imm rfl rfl) ?_
        refine g_nil ?_
        refine normal_thn ?_
        refine ⟨⟨i + 1, _⟩, ⟨hia, ?_⟩, ⟨rfl, rfl, rfl, rfl, look_int rfl (by rw [wrap64 (by omega) (by omega)]; rfl), trivial⟩, by dsimp only; omega⟩
        dsimp only
        rw [jsonAs_take hia, hc, jsonA_eq]
        subst h2
        simp only [List.append_assoc, List.cons_append, List.nil_append, ← bytesL_app, bytesL_cons, bytesL_nil, strOf_list, lst_strOf]
        try rfl
    · skip
      have hi : i = v.map.length := by have := of_decide_eq_false hb1; simp only [List.length_map] at this; omega
      refine aw_exit ?_
      refine exit_thn ?_
      refine exit_thn ?_
      refine exit_blk ?_
      refine normal_thn ?_
      refine aw_seq ?_
      refine aw_region ?_
      refine g_u (s_mv_slg rfl rfl) ?_
      refine g_u (s_buildSlice (X0 := z5) rfl Tryd.underlying99 tS5 tZ5 rfl rfl rfl rfl rfl rfl rfl rfl) ?_
      refine g_u (s_append rfl rfl rfl rfl rfl Tryd.underlying99 Tryd.underlying99 tS5 zv5 rfl (by decide) by5 (by (try dsimp only); (try (have q1 := wtAs_nth hia; have q2 := (nthA v.map i).wt_eq; have q3 := quoteB_length (lst (nthA v.map i).key); have q4 := lst_len (nthA v.map i).key)); (try simp only [List.length_append, List.length_cons, List.length_nil, bytesL_len]); omega) (by (try dsimp only); (try (have q1 := wtAs_nth hia; have q2 := (nthA v.map i).wt_eq; have q3 := quoteB_length (lst (nthA v.map i).key); have q4 := lst_len (nthA v.map i).key)); (try simp only [List.length_append, List.length_cons, List.length_nil, bytesL_len]); omega)) ?_
      refine g_u (s_as_slg rfl rfl) ?_
      refine g_nil ?_
      refine normal_thn ?_
      refine aw_ret ?_
      refine ret_blk ?_
      refine ret_thn ?_
      exact ⟨⟨.inr ⟨_, rfl, look_slg rfl (by rw [json7 hk, h2, hi, List.take_of_length_le (Nat.le_refl _), List.append_assoc]; exact congrArg (xs ++ ·) (bytesL_app _ [125])), rfl⟩, trivial⟩, ⟨look_tok rfl (by rw [json7 hk, h2, hi, List.take_of_length_le (Nat.le_refl _), List.append_assoc]; exact congrArg (xs ++ ·) (bytesL_app _ [125])), trivial⟩⟩

theorem lay_c (v : GV) : v.ok → v.wt ≤ 10000000 → ∀ xs : List AV, W1 xs → xs.length + 150 * v.wt ≤ 5000000000 → MCall Tryd.prog Γ0 128 [.slg 100001 1 xs, .imm v.av] [(100001, .tok 1 xs)] (.slg 100001 1 (xs ++ bytesL (jsonB v))) [(100001, .tok 1 (xs ++ bytesL (jsonB v)))] := by
  refine GV.ind (P := fun v => v.ok → v.wt ≤ 10000000 → ∀ xs : List AV, W1 xs → xs.length + 150 * v.wt ≤ 5000000000 → MCall Tryd.prog Γ0 128 [.slg 100001 1 xs, .imm v.av] [(100001, .tok 1 xs)] (.slg 100001 1 (xs ++ bytesL (jsonB v))) [(100001, .tok 1 (xs ++ bytesL (jsonB v)))]) ?_ v
  intro v h1 h2 ho hw xs hx hl
  have ok := v.ok_iff.1 ho
  have ek := v.wt_eq
  by_cases h6 : v.kind = 6
  · exact lay_l v ho hw xs hx hl h6 fun y hy ys hy1 hy2 => h1 y hy (ok.2.2.2.2.1 y hy) (by have := wtVs_mem hy; omega) ys hy1 hy2
  by_cases h7 : v.kind = 7
  · exact lay_m v ho hw xs hx hl h7 fun a ha ys hy1 hy2 => h2 a ha ((GA.ok_iff a).1 (ok.2.2.2.2.2 a ha)).2 (by have := wtAs_mem ha; have := a.wt_eq; omega) ys hy1 hy2
  by_cases hq : v.kind = 1 ∨ v.kind = 4 ∨ v.kind = 5
  · exact lay_q v ho hw xs hx hl hq
  · exact lay_p v ho hw xs hx hl (by omega)

set_option maxHeartbeats 400000 in
theorem json_c (v : GV) (ho : v.ok) (hw : v.wt ≤ 10000000) : PCall Tryd.prog Γ0 95 [v.av] [sv (strOf (jsonB v))] := by
  have lv := len_wtVs v.list
  have la := len_wtAs v.map
  have ek := v.wt_eq
  have ok := v.ok_iff.1 ho
  have sl := simpB_length v
  have jl := json_len v
  refine pcall_of Tryd.func95 rfl Tryd.ntmps95 (by kernel_rfl) rfl fun w0 I0 G0 => ?_
  refine aw_seq ?_
  refine aw_region ?_
  refine g_uG (s_box_imm 1001 rfl rfl rfl rfl) rfl ?_
  refine g_u (s_as_imm rfl rfl) ?_
  refine g_nil ?_
  refine normal_thn ?_
  refine aw_seq ?_
  refine aw_region ?_
  refine g_u (s_load_imm rfl rfl rfl tA70 tS70 rfl rfl) ?_
  refine g_u (s_call1 (pcall_nil (n := 1) (xs := [v.av]) (lay_c v ho hw [] (fun x hx => by cases hx) (by simp only [List.length_nil]; omega))) rfl rfl) ?_
  refine g_u (s_cvBS' (rfl) rfl rfl Tryd.underlying99 Tryd.underlying9 Tryd.underlying5) ?_
  refine g_u (s_as_imm rfl rfl) ?_
  refine g_nil ?_
  refine normal_thn ?_
  refine aw_ret ?_
  exact ⟨⟨(rfl : toAV (Al.look _ _) = some _).trans (congrArg some (by rfl)), rfl⟩, trivial⟩

set_option maxHeartbeats 400000 in
theorem text_q (v : GV) (ho : v.ok) (hw : v.wt ≤ 10000000) (hk : v.kind = 1 ∨ v.kind = 4 ∨ v.kind = 5) : PCall Tryd.prog Γ0 67 [v.av] [sv (textM v)] := by
  have lv := len_wtVs v.list
  have la := len_wtAs v.map
  have ek := v.wt_eq
  have ok := v.ok_iff.1 ho
  have sl := simpB_length v
  have jl := json_len v
  refine pcall_of Tryd.func67 rfl Tryd.ntmps67 (by kernel_rfl) rfl fun w0 I0 G0 => ?_
  refine aw_seq ?_
  refine aw_region ?_
  refine g_uG (s_box_imm 1001 rfl rfl rfl rfl) rfl ?_
  refine g_u (s_as_imm rfl rfl) ?_
  refine g_nil ?_
  refine normal_thn ?_
  refine aw_seq ?_
  refine aw_seq ?_
  refine aw_region ?_
  refine g_u (s_load_imm rfl rfl rfl tA70 tS70 rfl rfl) ?_
  refine g_u (s_call1 (thing_q hk (thing_c v ho hw)) rfl rfl) ?_
  refine g_nil ?_
  refine normal_thn ?_
  refine aw_block ?_
  refine aw_seq ?_
  refine aw_region ?_
  refine g_u (s_assert_yes rfl rfl nI140) ?_
  refine g_u (s_extract rfl rfl rfl rfl) ?_
  refine g_u (s_extract rfl rfl rfl rfl) ?_
  refine g_nil ?_
  refine normal_thn ?_
  refine aw_cond_true rfl ?_
  refine aw_seq ?_
  refine aw_region ?_
  refine g_u (s_as_imm rfl rfl) ?_
  refine g_nil ?_
  refine normal_thn ?_
  refine aw_seq ?_
  refine aw_region ?_
  refine g_u (s_mv_imm rfl rfl) ?_
  refine g_u (s_as_imm rfl rfl) ?_
  refine g_nil ?_
  refine normal_thn ?_
  refine aw_ret ?_
  refine ret_blk ?_
  refine ret_thn ?_
  exact ⟨⟨(rfl : toAV (Al.look _ _) = some _).trans (congrArg some (by (rw [textE (by omega)]))), rfl⟩, trivial⟩

set_option maxHeartbeats 400000 in
theorem text_p (v : GV) (ho : v.ok) (hw : v.wt ≤ 10000000) (hk : v.kind ≠ 1 ∧ v.kind ≠ 4 ∧ v.kind ≠ 5 ∧ v.kind ≠ 6 ∧ v.kind ≠ 7) : PCall Tryd.prog Γ0 67 [v.av] [sv (textM v)] := by
  have lv := len_wtVs v.list
  have la := len_wtAs v.map
  have ek := v.wt_eq
  have ok := v.ok_iff.1 ho
  have sl := simpB_length v
  have jl := json_len v
  refine pcall_of Tryd.func67 rfl Tryd.ntmps67 (by kernel_rfl) rfl fun w0 I0 G0 => ?_
  refine aw_seq ?_
  refine aw_region ?_
  refine g_uG (s_box_imm 1001 rfl rfl rfl rfl) rfl ?_
  refine g_u (s_as_imm rfl rfl) ?_
  refine g_nil ?_
  refine normal_thn ?_
  refine aw_seq ?_
  refine aw_seq ?_
  refine aw_region ?_
  refine g_u (s_load_imm rfl rfl rfl tA70 tS70 rfl rfl) ?_
  refine g_u (s_call1 (thing_p hk (thing_c v ho hw)) rfl rfl) ?_
  refine g_nil ?_
  refine normal_thn ?_
  refine aw_block ?_
  refine aw_seq ?_
  refine aw_region ?_
  refine g_u (s_assert_no rfl rfl nI140 tZ140 (fun z h => by rw [zv140] at h; cases h; rfl) rfl) ?_
  refine g_u (s_extract rfl rfl rfl rfl) ?_
  refine g_u (s_extract rfl rfl rfl rfl) ?_
  refine g_nil ?_
  refine normal_thn ?_
  refine aw_cond_false rfl ?_
  refine aw_seq ?_
  refine aw_region ?_
  refine g_u (s_assert_yes rfl rfl nI141) ?_
  refine g_u (s_extract rfl rfl rfl rfl) ?_
  refine g_u (s_extract rfl rfl rfl rfl) ?_
  refine g_nil ?_
  refine normal_thn ?_
  refine aw_cond_true rfl ?_
  refine aw_seq ?_
  refine aw_region ?_
  refine g_u (s_as_imm rfl rfl) ?_
  refine g_nil ?_
  refine normal_thn ?_
  refine aw_seq ?_
  refine aw_seq ?_
  refine aw_region ?_
  refine g_u (s_fieldAddr rfl rfl fa70_0 rfl) ?_
  refine g_u (s_load_imm rfl rfl rfl tA5 tS5 rfl rfl) ?_
  refine g_u (s_eqI rfl rfl rfl) ?_
  refine g_nil ?_
  refine normal_thn ?_
  refine aw_cond rfl (fun hb1 => ?_) (fun hb1 => ?_)
  · skip
    refine aw_seq ?_
    refine aw_region ?_
    refine g_u (s_as_imm rfl rfl) ?_
    refine g_nil ?_
    refine normal_thn ?_
    refine aw_ret ?_
    refine ret_thn ?_
    refine ret_blk ?_
    refine ret_thn ?_
    exact ⟨⟨(rfl : toAV (Al.look _ _) = some _).trans (congrArg some (by (simp only [beq_iff_eq, beq_eq_false_iff_ne, ne_eq, decide_eq_true_eq, decide_eq_false_iff_not] at *; rw [textE (by omega), simp6 (by omega)]; rfl))), rfl⟩, trivial⟩
  · skip
    refine aw_skip ?_
    refine normal_thn ?_
    refine aw_seq ?_
    refine aw_region ?_
    refine g_u (s_mv_imm rfl rfl) ?_
    refine g_u (s_as_imm rfl rfl) ?_
    refine g_nil ?_
    refine normal_thn ?_
    refine aw_ret ?_
    refine ret_blk ?_
    refine ret_thn ?_
    exact ⟨⟨(rfl : toAV (Al.look _ _) = some _).trans (congrArg some (by (simp only [beq_iff_eq, beq_eq_false_iff_ne, ne_eq, decide_eq_true_eq, decide_eq_false_iff_not] at *; rw [textE (by omega), jsonE (by omega)]))), rfl⟩, trivial⟩

set_option maxHeartbeats 400000 in
theorem text_l (v : GV) (ho : v.ok) (hw : v.wt ≤ 10000000) (hk : v.kind = 6) : PCall Tryd.prog Γ0 67 [v.av] [sv (textM v)] := by
  have lv := len_wtVs v.list
  have la := len_wtAs v.map
  have ek := v.wt_eq
  have ok := v.ok_iff.1 ho
  have sl := simpB_length v
  have jl := json_len v
  refine pcall_of Tryd.func67 rfl Tryd.ntmps67 (by kernel_rfl) rfl fun w0 I0 G0 => ?_
  refine aw_seq ?_
  refine aw_region ?_
  refine g_uG (s_box_imm 1001 rfl rfl rfl rfl) rfl ?_
  refine g_u (s_as_imm rfl rfl) ?_
  refine g_nil ?_
  refine normal_thn ?_
  refine aw_seq ?_
  refine aw_seq ?_
  refine aw_region ?_
  refine g_u (s_load_imm rfl rfl rfl tA70 tS70 rfl rfl) ?_
  refine g_u (s_call1 (thing_l hk (thing_c v ho hw)) rfl rfl) ?_
  refine g_nil ?_
  refine normal_thn ?_
  refine aw_block ?_
  refine aw_seq ?_
  refine aw_region ?_
  refine g_u (s_assert_no rfl rfl nI140 tZ140 (fun z h => by rw [zv140] at h; cases h; rfl) rfl) ?_
  refine g_u (s_extract rfl rfl rfl rfl) ?_
  refine g_u (s_extract rfl rfl rfl rfl) ?_
  refine g_nil ?_
  refine normal_thn ?_
  refine aw_cond_false rfl ?_
  refine aw_seq ?_
  refine aw_region ?_
  refine g_u (s_assert_no rfl rfl nI141 tZ141 (fun z h => by rw [zv141] at h; cases h; rfl) rfl) ?_
  refine g_u (s_extract rfl rfl rfl rfl) ?_
  refine g_u (s_extract rfl rfl rfl rfl) ?_
  refine g_nil ?_
  refine normal_thn ?_
  refine aw_cond_false rfl ?_
  refine aw_skip ?_
  refine normal_blk ?_
  refine normal_thn ?_
  refine aw_seq ?_
  refine aw_region ?_
  refine g_u (s_load_imm rfl rfl rfl tA70 tS70 rfl rfl) ?_
  refine g_u (s_call1 (json_c v ho hw) rfl rfl) ?_
  refine g_u (s_as_imm rfl rfl) ?_
  refine g_nil ?_
  refine normal_thn ?_
  refine aw_ret ?_
  exact ⟨⟨(rfl : toAV (Al.look _ _) = some _).trans (congrArg some (by (rw [text6 (by omega)]))), rfl⟩, trivial⟩

set_option maxHeartbeats 400000 in
theorem text_m (v : GV) (ho : v.ok) (hw : v.wt ≤ 10000000) (hk : v.kind = 7) : PCall Tryd.prog Γ0 67 [v.av] [sv (textM v)] := by
  have lv := len_wtVs v.list
  have la := len_wtAs v.map
  have ek := v.wt_eq
  have ok := v.ok_iff.1 ho
  have sl := simpB_length v
  have jl := json_len v
  refine pcall_of Tryd.func67 rfl Tryd.ntmps67 (by kernel_rfl) rfl fun w0 I0 G0 => ?_
  refine aw_seq ?_
  refine aw_region ?_
  refine g_uG (s_box_imm 1001 rfl rfl rfl rfl) rfl ?_
  refine g_u (s_as_imm rfl rfl) ?_
  refine g_nil ?_
  refine normal_thn ?_
  refine aw_seq ?_
  refine aw_seq ?_
  refine aw_region ?_
  refine g_u (s_load_imm rfl rfl rfl tA70 tS70 rfl rfl) ?_
  refine g_u (s_call1 (thing_m hk (thing_c v ho hw)) rfl rfl) ?_
  refine g_nil ?_
  refine normal_thn ?_
  refine aw_block ?_
  refine aw_seq ?_
  refine aw_region ?_
  refine g_u (s_assert_no rfl rfl nI140 tZ140 (fun z h => by rw [zv140] at h; cases h; rfl) rfl) ?_
  refine g_u (s_extract rfl rfl rfl rfl) ?_
  refine g_u (s_extract rfl rfl rfl rfl) ?_
  refine g_nil ?_
  refine normal_thn ?_
  refine aw_cond_false rfl ?_
  refine aw_seq ?_
  refine aw_region ?_
  refine g_u (s_assert_no rfl rfl nI141 tZ141 (fun z h => by rw [zv141] at h; cases h; rfl) rfl) ?_
  refine g_u (s_extract rfl rfl rfl rfl) ?_
  refine g_u (s_extract rfl rfl rfl rfl) ?_
  refine g_nil ?_
  refine normal_thn ?_
  refine aw_cond_false rfl ?_
  refine aw_skip ?_
  refine normal_blk ?_
  refine normal_thn ?_
  refine aw_seq ?_
  refine aw_region ?_
  refine g_u (s_load_imm rfl rfl rfl tA70 tS70 rfl rfl) ?_
  refine g_u (s_call1 (json_c v ho hw) rfl rfl) ?_
  refine g_u (s_as_imm rfl rfl) ?_
  refine g_nil ?_
  refine normal_thn ?_
  refine aw_ret ?_
  exact ⟨⟨(rfl : toAV (Al.look _ _) = some _).trans (congrArg some (by (rw [text6 (by omega)]))), rfl⟩, trivial⟩

theorem text_c (v : GV) (ho : v.ok) (hw : v.wt ≤ 10000000) : PCall Tryd.prog Γ0 67 [v.av] [sv (textM v)] := by
  by_cases h6 : v.kind = 6
  · exact text_l v ho hw h6
  by_cases h7 : v.kind = 7
  · exact text_m v ho hw h7
  by_cases hq : v.kind = 1 ∨ v.kind = 4 ∨ v.kind = 5
  · exact text_q v ho hw hq
  · exact text_p v ho hw (by omega)

end Go.Proofs

namespace Go.Proofs
open Go Go.Al
set_option maxRecDepth 10000
set_option maxHeartbeats 400000 in
theorem leftV_st (v : GV) (n : Int) (hn : -1 ≤ n ∧ n ≤ 1000000000) (ih : ∀ y ∈ v.list, ∀ n : Int, -1 ≤ n ∧ n ≤ 1000000000 → PCall Tryd.prog Γ0 54 [y.av, iv n] [iv (leftV y n)]) (ihm : ∀ n : Int, -1 ≤ n ∧ n ≤ 1000000000 → PCall Tryd.prog Γ0 30 [.sl 7 (v.map.map avA), iv n] [iv (leftAs v.map n)]) : PCall Tryd.prog Γ0 54 [v.av, iv n] [iv (leftV v n)] := by
  have ek := v.wt_eq
  refine pcall_of Tryd.func54 rfl Tryd.ntmps54 (by kernel_rfl) rfl fun w0 I0 G0 => ?_
  refine aw_seq ?_
  refine aw_region ?_
  refine g_uG (s_box_imm 1002 rfl rfl rfl rfl) rfl ?_
  refine g_u (s_as_imm rfl rfl) ?_
  refine g_nil ?_
  refine normal_thn ?_
  refine aw_seq ?_
  refine aw_seq ?_
  refine aw_region ?_
  refine g_u (s_mv_imm rfl rfl) ?_
  refine g_u (s_ltI rfl rfl rfl) ?_
  refine g_u (s_mv_imm rfl rfl) ?_
  refine g_case (t := 8) rfl ?_
  rintro (hb1 | hb1)
  · rw [hb1]
    have hn0 : n < 0 := of_decide_eq_true hb1
    refine g_skip rfl rfl rfl ?_
    refine g_skip rfl rfl rfl ?_
    refine g_skip rfl rfl rfl ?_
    refine g_skip rfl rfl rfl ?_
    refine g_skip rfl rfl rfl ?_
    refine g_u (s_pick_t rfl rfl rfl) ?_
    refine g_nil ?_
    refine normal_thn ?_
    refine aw_cond_true rfl ?_
    refine aw_seq ?_
    refine aw_region ?_
    refine g_u (s_as_imm rfl rfl) ?_
    refine g_nil ?_
    refine normal_thn ?_
    refine aw_ret ?_
    refine ret_thn ?_
    exact ⟨⟨(rfl : toAV (Al.look _ _) = some _).trans (congrArg some (by (exact congrArg iv (by rw [leftV_F, if_pos hn0])))), rfl⟩, trivial⟩
  · rw [hb1]
    have hn0 : ¬ n < 0 := of_decide_eq_false hb1
    refine g_run rfl rfl (s_fieldAddr rfl rfl fa70_1 rfl) ?_
    refine g_run rfl rfl (s_load_imm rfl rfl rfl tA9 tS9 rfl rfl) ?_
    refine g_run rfl rfl (s_lenS rfl rfl Tryd.underlying9) ?_
    refine g_run rfl rfl (s_mv_imm rfl rfl) ?_
    refine g_run rfl rfl (s_gtI rfl rfl rfl) ?_
    refine g_u (s_pick_f rfl rfl rfl) ?_
    refine g_nil ?_
    refine normal_thn ?_
    refine aw_cond rfl (fun hb2 => ?_) (fun hb2 => ?_)
    · skip
      have ht0 : (v.text.size : Int) > n := of_decide_eq_true hb2
      refine aw_seq ?_
      refine aw_region ?_
      refine g_u (s_as_imm rfl rfl) ?_
      refine g_nil ?_
      refine normal_thn ?_
      refine aw_ret ?_
      refine ret_thn ?_
      exact ⟨⟨(rfl : toAV (Al.look _ _) = some _).trans (congrArg some (by (exact congrArg iv (by rw [leftV_F, if_neg hn0]; unfold leftF; rw [if_neg (by omega)])))), rfl⟩, trivial⟩
    · skip
      have ht0 : ¬ (v.text.size : Int) > n := of_decide_eq_false hb2
      have hL : -1 ≤ n - 1 - v.text.size := by omega
      refine aw_skip ?_
      refine normal_thn ?_
      refine aw_seq ?_
      refine aw_region ?_
      refine g_u (s_mv_imm rfl rfl) ?_
      refine g_u (s_sub rfl rfl rfl) ?_
      refine g_u (s_fieldAddr rfl rfl fa70_1 rfl) ?_
      refine g_u (s_load_imm rfl rfl rfl tA9 tS9 rfl rfl) ?_
      refine g_u (s_lenS rfl rfl Tryd.underlying9) ?_
      refine g_u (s_sub rfl rfl rfl) ?_
      refine g_u (s_as_imm rfl rfl) ?_
      refine g_nil ?_
      refine normal_thn ?_
      refine aw_seq ?_
      refine aw_seq ?_
      refine aw_region ?_
      refine g_u (s_as_imm rfl rfl) ?_
      refine g_nil ?_
      refine normal_thn ?_
      refine aw_block ?_
      refine aw_loop' (fun i : Nat => [(2, .ptr 1002 0), (1002, .box 70 (.imm v.av)), (1, .imm (iv (leftF (n - 1 - v.text.size) (wtVs (v.list.take i))))), (5, .imm (iv (i : Int)))]) (fun i => i ≤ v.list.length) (fun i => v.list.length - i) (0) ?_ ⟨rfl, rfl, look_int rfl (by rw [show wtVs (v.list.take 0) = 0 from rfl, leftF_zero hL, wrap64 (n := n - 1) (by omega) (by omega), wrap64 (by omega) (by omega)]), rfl, trivial⟩ ?_
      · exact Nat.zero_le _
      · rintro i h1; have h1 : i ≤ v.list.length := h1; have bd := leftF_bd hL (wtVs (v.list.take i))
        refine aw_seq ?_
        refine aw_seq ?_
        refine aw_region ?_
        refine g_u (s_mv_imm rfl rfl) ?_
        refine g_u (s_fieldAddr rfl rfl fa70_4 rfl) ?_
        refine g_u (s_load_imm rfl rfl rfl tA68 tS68 rfl rfl) ?_
        refine g_u (s_lenL rfl rfl Tryd.underlying68) ?_
        refine g_u (s_ltI rfl rfl rfl) ?_
        refine g_u (s_mv_imm rfl rfl) ?_
        refine g_case (t := 26) rfl ?_
        rintro (hb3 | hb3)
        · rw [hb3]
          have hiv : i < v.list.length := by have := of_decide_eq_true hb3; (try simp only [List.length_map] at this); omega
          refine g_run rfl rfl (s_mv_imm rfl rfl) ?_
          refine g_run rfl rfl (s_geI rfl rfl rfl) ?_
          refine g_u (s_pick_t rfl rfl rfl) ?_
          refine g_nil ?_
          refine normal_thn ?_
          refine aw_cond rfl (fun hb4 => ?_) (fun hb4 => ?_)
          · skip
            have hs : 0 ≤ leftF (n - 1 - v.text.size) (wtVs (v.list.take i)) := of_decide_eq_true hb4
            have hi9 := leftV_len hs h1
            refine aw_skip ?_
            refine normal_thn ?_
            refine aw_seq ?_
            refine aw_block ?_
            refine aw_region ?_
            refine g_u (s_fieldAddr rfl rfl fa70_4 rfl) ?_
            refine g_u (s_load_imm rfl rfl rfl tA68 tS68 rfl rfl) ?_
            refine g_u (s_mv_imm rfl rfl) ?_
            refine g_u (s_indexAddr rfl rfl rfl Tryd.underlying68 tS70 (by omega) (ixV hiv)) ?_
            refine g_u (s_load_cp rfl rfl tA70 tS70 rfl rfl) ?_
            refine g_u (s_mv_imm rfl rfl) ?_
            refine g_u (s_call1 (ih _ (nthV_mem hiv) _ ⟨bd.1, by have := bd.2; omega⟩) rfl rfl) ?_
            refine g_u (s_as_imm rfl rfl) ?_
            refine g_nil ?_
            refine normal_blk ?_
            refine normal_thn ?_
            refine aw_region ?_
            refine g_u (s_mv_imm rfl rfl) ?_
            refine g_u (s_add rfl rfl rfl) ?_
            refine g_u (s_as_imm rfl rfl) ?_
            refine g_nil ?_
            refine normal_thn ?_
            refine ⟨i + 1, hiv, ⟨rfl, rfl, look_int rfl (leftV_step hiv hs), look_int rfl (by rw [wrap64 (by omega) (by omega)]; rfl), trivial⟩, by (try dsimp only); omega⟩
          · skip
            have hs : ¬ 0 ≤ leftF (n - 1 - v.text.size) (wtVs (v.list.take i)) := of_decide_eq_false hb4
            refine aw_exit ?_
            refine exit_thn ?_
            refine exit_thn ?_
            refine exit_blk ?_
            refine normal_thn ?_
            refine aw_seq ?_
            refine aw_region ?_
            refine g_u (s_fieldAddr rfl rfl fa70_5 rfl) ?_
            refine g_u (s_load_imm rfl rfl rfl tA30 tS30 rfl rfl) ?_
            refine g_u (s_mv_imm rfl rfl) ?_
            refine g_u (s_call1 (ihm _ ⟨bd.1, by have := bd.2; omega⟩) rfl rfl) ?_
            refine g_u (s_as_imm rfl rfl) ?_
            refine g_nil ?_
            refine normal_thn ?_
            refine aw_ret ?_
            exact ⟨⟨(rfl : toAV (Al.look _ _) = some _).trans (congrArg some (by (exact congrArg iv (leftV_fin hn0 ht0 (by first | exact .inl hivn | exact .inr (by omega)))))), rfl⟩, trivial⟩
        · rw [hb3]
          have hivn : i = v.list.length := by have := of_decide_eq_false hb3; (try simp only [List.length_map] at this); omega
          refine g_skip rfl rfl rfl ?_
          refine g_skip rfl rfl rfl ?_
          refine g_u (s_pick_f rfl rfl rfl) ?_
          refine g_nil ?_
          refine normal_thn ?_
          refine aw_cond_false rfl ?_
          refine aw_exit ?_
          refine exit_thn ?_
          refine exit_thn ?_
          refine exit_blk ?_
          refine normal_thn ?_
          refine aw_seq ?_
          refine aw_region ?_
          refine g_u (s_fieldAddr rfl rfl fa70_5 rfl) ?_
          refine g_u (s_load_imm rfl rfl rfl tA30 tS30 rfl rfl) ?_
          refine g_u (s_mv_imm rfl rfl) ?_
          refine g_u (s_call1 (ihm _ ⟨bd.1, by have := bd.2; omega⟩) rfl rfl) ?_
          refine g_u (s_as_imm rfl rfl) ?_
          refine g_nil ?_
          refine normal_thn ?_
          refine aw_ret ?_
          exact ⟨⟨(rfl : toAV (Al.look _ _) = some _).trans (congrArg some (by (exact congrArg iv (leftV_fin hn0 ht0 (by first | exact .inl hivn | exact .inr (by omega)))))), rfl⟩, trivial⟩

set_option maxHeartbeats 400000 in
theorem leftAs_st (l : List GA) (n : Int) (hn : -1000000000000 ≤ n ∧ n ≤ 1000000000) (ih : ∀ a ∈ l, ∀ n : Int, -1 ≤ n ∧ n ≤ 1000000000 → PCall Tryd.prog Γ0 54 [a.val.av, iv n] [iv (leftV a.val n)]) : PCall Tryd.prog Γ0 30 [.sl 7 (l.map avA), iv n] [iv (leftAs l n)] := by
  refine pcall_of Tryd.func30 rfl Tryd.ntmps30 (by kernel_rfl) rfl fun w0 I0 G0 => ?_
  refine aw_seq ?_
  refine aw_region ?_
  refine g_u (s_as_imm rfl rfl) ?_
  refine g_nil ?_
  refine normal_thn ?_
  refine aw_seq ?_
  refine aw_seq ?_
  refine aw_region ?_
  refine g_u (s_as_imm rfl rfl) ?_
  refine g_nil ?_
  refine normal_thn ?_
  refine aw_block ?_
  refine aw_loop' (fun i : Nat => [(0, .imm (.sl 7 (l.map avA))), (1, .imm (iv (leftAs (l.take i) n))), (5, .imm (iv (i : Int)))]) (fun i => i ≤ l.length) (fun i => l.length - i) (0) ?_ ⟨rfl, look_int rfl (leftAs_zero l).symm, rfl, trivial⟩ ?_
  · exact Nat.zero_le _
  · rintro i h1; have h1 : i ≤ l.length := h1; have bd := leftAs_bd' (l.take i) n
    refine aw_seq ?_
    refine aw_seq ?_
    refine aw_region ?_
    refine g_u (s_mv_imm rfl rfl) ?_
    refine g_u (s_mv_imm rfl rfl) ?_
    refine g_u (s_lenL rfl rfl Tryd.underlying30) ?_
    refine g_u (s_ltI rfl rfl rfl) ?_
    refine g_u (s_mv_imm rfl rfl) ?_
    refine g_case (t := 10) rfl ?_
    rintro (hb1 | hb1)
    · rw [hb1]
      have hia : i < l.length := by have := of_decide_eq_true hb1; (try simp only [List.length_map] at this); omega
      refine g_run rfl rfl (s_mv_imm rfl rfl) ?_
      refine g_run rfl rfl (s_geI rfl rfl rfl) ?_
      refine g_u (s_pick_t rfl rfl rfl) ?_
      refine g_nil ?_
      refine normal_thn ?_
      refine aw_cond rfl (fun hb2 => ?_) (fun hb2 => ?_)
      · skip
        have hs : 0 ≤ leftAs (l.take i) n := of_decide_eq_true hb2
        have hi9 := leftAs_len hs h1
        refine aw_skip ?_
        refine normal_thn ?_
        refine aw_seq ?_
        refine aw_block ?_
        refine aw_seq ?_
        refine aw_seq ?_
        refine aw_region ?_
        refine g_u (s_mv_imm rfl rfl) ?_
        refine g_u (s_mv_imm rfl rfl) ?_
        refine g_u (s_indexAddr rfl rfl rfl Tryd.underlying30 tS72 (by omega) (ixA hia)) ?_
        refine g_u (s_fieldAddr_cp rfl rfl fa72_0 rfl rfl) ?_
        refine g_u (s_load_cp rfl rfl tA9 tS9 rfl rfl) ?_
        refine g_u (s_lenS rfl rfl Tryd.underlying9) ?_
        refine g_u (s_mv_imm rfl rfl) ?_
        refine g_u (s_gtI rfl rfl rfl) ?_
        refine g_nil ?_
        refine normal_thn ?_
        refine aw_cond rfl (fun hb3 => ?_) (fun hb3 => ?_)
        · skip
          have hk : ((nthA l i).key.size : Int) > leftAs (l.take i) n := of_decide_eq_true hb3
          refine aw_seq ?_
          refine aw_region ?_
          refine g_u (s_as_imm rfl rfl) ?_
          refine g_nil ?_
          refine normal_thn ?_
          refine aw_ret ?_
          refine ret_thn ?_
          refine ret_blk ?_
          refine ret_thn ?_
          refine ret_thn ?_
          refine ret_blk ?_
          refine ret_thn ?_
          exact ⟨⟨(rfl : toAV (Al.look _ _) = some _).trans (congrArg some (by (exact congrArg iv (leftAs_out hia hs hk)))), rfl⟩, trivial⟩
        · skip
          have hk : ¬ ((nthA l i).key.size : Int) > leftAs (l.take i) n := of_decide_eq_false hb3
          have ew : IntKind.i64.wrap (leftAs (l.take i) n - (nthA l i).key.size) = leftAs (l.take i) n - (nthA l i).key.size := wrap64 (by omega) (by omega)
          refine aw_skip ?_
          refine normal_thn ?_
          refine aw_draw mixed ?_
          refine g_u (s_mv_imm rfl rfl) ?_
          refine g_u (s_mv_imm rfl rfl) ?_
          refine g_u (s_indexAddr rfl rfl rfl Tryd.underlying30 tS72 (by omega) (ixA hia)) ?_
          refine g_u (s_fieldAddr_cp rfl rfl fa72_1 rfl rfl) ?_
          refine g_u (s_load_cp rfl rfl tA70 tS70 rfl rfl) ?_
          refine g_u (s_mv_imm rfl rfl) ?_
          refine g_u (s_mv_imm rfl rfl) ?_
          refine g_u (s_mv_imm rfl rfl) ?_
          refine g_u (s_indexAddr rfl rfl rfl Tryd.underlying30 tS72 (by omega) (ixA hia)) ?_
          refine g_u (s_fieldAddr_cp rfl rfl fa72_0 rfl rfl) ?_
          refine g_u (s_load_cp rfl rfl tA9 tS9 rfl rfl) ?_
          refine g_u (s_lenS rfl rfl Tryd.underlying9) ?_
          refine g_u (s_sub rfl rfl rfl) ?_
          refine g_u (s_call1 ((show PCall Tryd.prog Γ0 54 [(nthA l i).val.av, iv (IntKind.i64.wrap (leftAs (l.take i) n - (nthA l i).key.size))] [iv (leftV (nthA l i).val (leftAs (l.take i) n - (nthA l i).key.size))] from by rw [ew]; exact ih _ (nthA_mem hia) _ ⟨by omega, by omega⟩)) rfl rfl) ?_
          refine g_u (s_as_imm rfl rfl) ?_
          refine g_nil ⟨by kernel_rfl, ?_⟩
          refine normal_blk ?_
          refine normal_thn ?_
          refine aw_region ?_
          refine g_u (s_mv_imm rfl rfl) ?_
          refine g_u (s_add rfl rfl rfl) ?_
          refine g_u (s_as_imm rfl rfl) ?_
          refine g_nil ?_
          refine normal_thn ?_
          refine ⟨i + 1, hia, ⟨rfl, look_int rfl (leftAs_step hia hs hk), look_int rfl (by rw [wrap64 (by omega) (by omega)]; rfl), trivial⟩, by (try dsimp only); omega⟩
      · skip
        have hs : ¬ 0 ≤ leftAs (l.take i) n := of_decide_eq_false hb2
        refine aw_exit ?_
        refine exit_thn ?_
        refine exit_thn ?_
        refine exit_blk ?_
        refine normal_thn ?_
        refine aw_seq ?_
        refine aw_region ?_
        refine g_u (s_mv_imm rfl rfl) ?_
        refine g_u (s_as_imm rfl rfl) ?_
        refine g_nil ?_
        refine normal_thn ?_
        refine aw_ret ?_
        exact ⟨⟨(rfl : toAV (Al.look _ _) = some _).trans (congrArg some (by (exact congrArg iv (leftAs_fin (by first | exact .inl hian | exact .inr (by omega)))))), rfl⟩, trivial⟩
    · rw [hb1]
      have hian : i = l.length := by have := of_decide_eq_false hb1; (try simp only [List.length_map] at this); omega
      refine g_skip rfl rfl rfl ?_
      refine g_skip rfl rfl rfl ?_
      refine g_u (s_pick_f rfl rfl rfl) ?_
      refine g_nil ?_
      refine normal_thn ?_
      refine aw_cond_false rfl ?_
      refine aw_exit ?_
      refine exit_thn ?_
      refine exit_thn ?_
      refine exit_blk ?_
      refine normal_thn ?_
      refine aw_seq ?_
      refine aw_region ?_
      refine g_u (s_mv_imm rfl rfl) ?_
      refine g_u (s_as_imm rfl rfl) ?_
      refine g_nil ?_
      refine normal_thn ?_
      refine aw_ret ?_
      exact ⟨⟨(rfl : toAV (Al.look _ _) = some _).trans (congrArg some (by (exact congrArg iv (leftAs_fin (by first | exact .inl hian | exact .inr (by omega)))))), rfl⟩, trivial⟩

theorem leftV_c (v : GV) : ∀ n : Int, -1 ≤ n ∧ n ≤ 1000000000 → PCall Tryd.prog Γ0 54 [v.av, iv n] [iv (leftV v n)] := by
  refine GV.ind (P := fun v => ∀ n : Int, -1 ≤ n ∧ n ≤ 1000000000 → PCall Tryd.prog Γ0 54 [v.av, iv n] [iv (leftV v n)]) ?_ v
  intro v h1 h2 n hn
  exact leftV_st v n hn h1 fun n hn => leftAs_st v.map n (by omega) h2
theorem leftAs_c (l : List GA) (n : Int) (hn : -1000000000000 ≤ n ∧ n ≤ 1000000000) : PCall Tryd.prog Γ0 30 [.sl 7 (l.map avA), iv n] [iv (leftAs l n)] := leftAs_st l n hn fun a _ => leftV_c a.val

end Go.Proofs

namespace Go.Proofs
open Go Go.Al
set_option maxRecDepth 10000
theorem z52_w : AV.width z52 = 42 := by kernel_rfl
theorem z87_w : AV.width z87 = 26 := by kernel_rfl








end Go.Proofs

namespace Go.Proofs
open Go Go.Al
set_option maxRecDepth 10000
theorem cmp149 : cmpFn Tryd.prog 149 := ⟨_, Tryd.func149, by kernel_rfl, rfl, by kernel_rfl, by kernel_rfl⟩
set_option maxHeartbeats 400000 in
theorem cmp_141_c (s t : ByteArray) : PCall Tryd.prog Γ0 141 [sv s, sv t] [iv (cmpK s t)] := by
  refine pcall_of Tryd.func141 rfl Tryd.ntmps141 (by kernel_rfl) rfl fun w0 I0 G0 => ?_
  refine aw_seq ?_
  refine aw_region ?_
  refine g_u (s_as_imm rfl rfl) ?_
  refine g_nil ?_
  refine normal_thn ?_
  refine aw_seq ?_
  refine aw_region ?_
  refine g_u (s_mv_imm rfl rfl) ?_
  refine g_u (s_mv_imm rfl rfl) ?_
  refine g_u (s_cmpS cmp149 rfl rfl rfl) ?_
  refine g_u (s_as_imm rfl rfl) ?_
  refine g_nil ?_
  refine normal_thn ?_
  refine aw_ret ?_
  exact ⟨⟨(rfl : toAV (Al.look _ _) = some _).trans (congrArg some (by rfl)), rfl⟩, trivial⟩

set_option maxHeartbeats 400000 in
theorem cmp_123_c (s t : ByteArray) : PCall Tryd.prog Γ0 123 [sv s, sv t] [iv (cmpK s t)] := by
  refine pcall_of Tryd.func123 rfl Tryd.ntmps123 (by kernel_rfl) rfl fun w0 I0 G0 => ?_
  refine aw_seq ?_
  refine aw_region ?_
  refine g_u (s_as_imm rfl rfl) ?_
  refine g_nil ?_
  refine normal_thn ?_
  refine aw_seq ?_
  refine aw_region ?_
  refine g_u (s_mv_imm rfl rfl) ?_
  refine g_u (s_mv_imm rfl rfl) ?_
  refine g_u (s_call1 (cmp_141_c _ _) rfl rfl) ?_
  refine g_u (s_as_imm rfl rfl) ?_
  refine g_nil ?_
  refine normal_thn ?_
  refine aw_ret ?_
  exact ⟨⟨(rfl : toAV (Al.look _ _) = some _).trans (congrArg some (by rfl)), rfl⟩, trivial⟩

set_option maxHeartbeats 400000 in
theorem cmpA_c (a : GA) (k : ByteArray) : PCall Tryd.prog Γ0 122 [a.av, sv k] [iv (cmpK a.key k)] := by
  refine pcall_of Tryd.func122 rfl Tryd.ntmps122 (by kernel_rfl) rfl fun w0 I0 G0 => ?_
  refine aw_seq ?_
  refine aw_region ?_
  refine g_uG (s_box_imm 1002 rfl rfl rfl rfl) rfl ?_
  refine g_u (s_as_imm rfl rfl) ?_
  refine g_nil ?_
  refine normal_thn ?_
  refine aw_seq ?_
  refine aw_region ?_
  refine g_u (s_fieldAddr rfl rfl fa72_0 rfl) ?_
  refine g_u (s_load_imm rfl rfl rfl tA9 tS9 rfl rfl) ?_
  refine g_u (s_mv_imm rfl rfl) ?_
  refine g_u (s_call1 (cmp_123_c _ _) rfl rfl) ?_
  refine g_u (s_as_imm rfl rfl) ?_
  refine g_nil ?_
  refine normal_thn ?_
  refine aw_ret ?_
  exact ⟨⟨(rfl : toAV (Al.look _ _) = some _).trans (congrArg some (by rfl)), rfl⟩, trivial⟩

set_option maxHeartbeats 400000 in
theorem bsf_c (l : List GA) (k : ByteArray) (hr : risA none l) (hl : l.length ≤ 1000000000000) : PCall Tryd.prog Γ0 121 [.sl 7 (l.map avA), sv k, .fn (.func 122) [] []] [iv (posA l k : Nat), bv (hasA l k)] := by
  refine pcall_of Tryd.func121 rfl Tryd.ntmps121 (by kernel_rfl) rfl fun w0 I0 G0 => ?_
  refine aw_seq ?_
  refine aw_region ?_
  refine g_u (s_as_imm rfl rfl) ?_
  refine g_u (s_as_imm rfl rfl) ?_
  refine g_nil ?_
  refine normal_thn ?_
  refine aw_seq ?_
  refine aw_region ?_
  refine g_u (s_mv_imm rfl rfl) ?_
  refine g_u (s_lenL rfl rfl Tryd.underlying30) ?_
  refine g_u (s_as_imm rfl rfl) ?_
  refine g_nil ?_
  refine normal_thn ?_
  refine aw_seq ?_
  refine aw_region ?_
  refine g_u (s_mv_imm rfl rfl) ?_
  refine g_u (s_as_imm rfl rfl) ?_
  refine g_u (s_as_imm rfl rfl) ?_
  refine g_nil ?_
  refine normal_thn ?_
  refine aw_seq ?_
  refine aw_block ?_
  refine aw_loop' (fun j : Nat × Nat => [(0, .imm (.sl 7 (l.map avA))), (1, .imm (sv k)), (2, .imm (.fn (.func 122) [] [])), (8, .imm (iv (l.length : Int))), (9, .imm (iv (j.1 : Int))), (10, .imm (iv (j.2 : Int)))]) (fun j => j.1 ≤ j.2 ∧ j.2 ≤ l.length ∧ (∀ i, i < j.1 → ltB (nthA l i).key k = true) ∧ (∀ i, j.2 ≤ i → i < l.length → ltB (nthA l i).key k = false)) (fun j => j.2 - j.1) (⟨0, l.length⟩) ?_ ⟨rfl, rfl, rfl, look_int rfl (by rw [List.length_map]), rfl, look_int rfl (by rw [List.length_map]), trivial⟩ ?_
  · exact ⟨Nat.zero_le _, Nat.le_refl _, fun i h => absurd h (Nat.not_lt_zero _), fun i h1 h2 => absurd h2 (Nat.not_lt.2 h1)⟩
  · rintro ⟨lo, hi⟩ ⟨h1, h2, h3, h4⟩; dsimp only at h1 h2 h3 h4
    have em : IntKind.i64.wrap ((IntKind.u64.wrap (IntKind.i64.wrap ((lo : Int) + (hi : Int)))).fdiv (2 ^ (min (1 : Int).toNat IntKind.u64.bits))) = (((lo + hi) / 2 : Nat) : Int) := by rw [wrap64 (n := (lo : Int) + (hi : Int)) (by omega) (by omega), wrapu64 (by omega) (by omega), Int.fdiv_eq_ediv_of_nonneg _ (by decide), show (2 : Int) ^ (min (1 : Int).toNat IntKind.u64.bits) = 2 from by decide, wrap64 (by omega) (by omega)]; omega
    refine aw_seq ?_
    refine aw_seq ?_
    refine aw_region ?_
    refine g_u (s_mv_imm rfl rfl) ?_
    refine g_u (s_mv_imm rfl rfl) ?_
    refine g_u (s_ltI rfl rfl rfl) ?_
    refine g_nil ?_
    refine normal_thn ?_
    refine aw_cond rfl (fun hb1 => ?_) (fun hb1 => ?_)
    · skip
      have hmid : (lo + hi) / 2 < l.length := by have := of_decide_eq_true hb1; omega
      refine aw_skip ?_
      refine normal_thn ?_
      refine aw_block ?_
      refine aw_seq ?_
      refine aw_region ?_
      refine g_u (s_mv_imm rfl rfl) ?_
      refine g_u (s_mv_imm rfl rfl) ?_
      refine g_u (s_add rfl rfl rfl) ?_
      refine g_u (s_cvII rfl rfl Tryd.underlying3 Tryd.underlying137) ?_
      refine g_u (s_shr rfl rfl rfl (by first | decide | omega | (((try simp only [decide_eq_true_eq, decide_eq_false_iff_not, bne_iff_ne, ne_eq, beq_iff_eq, bne_eq_false_iff_eq, beq_eq_false_iff_ne, Bool.not_eq_true', Bool.not_eq_false', gt_iff_lt, ge_iff_le] at *); (repeat simp (disch := omega) only [wrap64, wrap32] at *)); omega))) ?_
      refine g_u (s_cvII rfl rfl Tryd.underlying137 Tryd.underlying3) ?_
      refine g_u (s_as_imm rfl rfl) ?_
      refine g_nil ?_
      refine normal_thn ?_
      refine aw_seq ?_
      refine aw_region ?_
      refine g_u (s_mv_imm rfl rfl) ?_
      refine g_u (s_mv_imm rfl rfl) ?_
      refine g_u (s_mv_imm rfl rfl) ?_
      refine g_u (s_indexAddr rfl rfl rfl Tryd.underlying30 tS72 (by erw [em]; omega) ((congrArg (fun z : Int => (l.map avA)[z.toNat]?) em).trans (ixA hmid))) ?_
      refine g_u (s_load_cp rfl rfl tA72 tS72 rfl rfl) ?_
      refine g_u (s_mv_imm rfl rfl) ?_
      refine g_u (s_callv1 (cmpA_c _ _) rfl rfl rfl) ?_
      refine g_u (s_ltI rfl rfl rfl) ?_
      refine g_nil ?_
      refine normal_thn ?_
      refine aw_cond rfl (fun hb2 => ?_) (fun hb2 => ?_)
      · skip
        have hk : ltB (nthA l ((lo + hi) / 2)).key k = true := (cmpK_lt _ _).1 (of_decide_eq_true hb2)
        refine aw_region ?_
        refine g_u (s_mv_imm rfl rfl) ?_
        refine g_u (s_add rfl rfl rfl) ?_
        refine g_u (s_as_imm rfl rfl) ?_
        refine g_nil ?_
        refine normal_blk ?_
        refine normal_thn ?_
        have hlt : lo < hi := by have := of_decide_eq_true hb1; omega
        first
          | exact ⟨⟨(lo + hi) / 2 + 1, hi⟩, ⟨by dsimp only; omega, h2, fun i hi1 => ris_left hr hmid hk (by dsimp only at hi1; omega), h4⟩, ⟨rfl, rfl, rfl, rfl, look_int rfl (by erw [em]; rw [wrap64 (by omega) (by omega)]; rfl), rfl, trivial⟩, by dsimp only; omega⟩
          | exact ⟨⟨lo, (lo + hi) / 2⟩, ⟨by dsimp only; omega, by dsimp only; omega, h3, fun i hi1 hi2 => ris_right hr hk hi1 hi2⟩, ⟨rfl, rfl, rfl, rfl, rfl, look_int rfl em, trivial⟩, by dsimp only; omega⟩
      · skip
        have hk : ltB (nthA l ((lo + hi) / 2)).key k = false := by cases hq : ltB (nthA l ((lo + hi) / 2)).key k; rfl; exact absurd ((cmpK_lt _ _).2 hq) (of_decide_eq_false hb2)
        refine aw_region ?_
        refine g_u (s_mv_imm rfl rfl) ?_
        refine g_u (s_as_imm rfl rfl) ?_
        refine g_nil ?_
        refine normal_blk ?_
        refine normal_thn ?_
        have hlt : lo < hi := by have := of_decide_eq_true hb1; omega
        first
          | exact ⟨⟨(lo + hi) / 2 + 1, hi⟩, ⟨by dsimp only; omega, h2, fun i hi1 => ris_left hr hmid hk (by dsimp only at hi1; omega), h4⟩, ⟨rfl, rfl, rfl, rfl, look_int rfl (by erw [em]; rw [wrap64 (by omega) (by omega)]; rfl), rfl, trivial⟩, by dsimp only; omega⟩
          | exact ⟨⟨lo, (lo + hi) / 2⟩, ⟨by dsimp only; omega, by dsimp only; omega, h3, fun i hi1 hi2 => ris_right hr hk hi1 hi2⟩, ⟨rfl, rfl, rfl, rfl, rfl, look_int rfl em, trivial⟩, by dsimp only; omega⟩
    · skip
      have hlo : lo = hi := by have := of_decide_eq_false hb1; omega
      have hp : lo = posA l k := posA_spec l k lo (by omega) h3 (fun i hi1 hi2 => h4 i (by omega) hi2)
      refine aw_exit ?_
      refine exit_thn ?_
      refine exit_thn ?_
      refine exit_blk ?_
      refine normal_thn ?_
      refine aw_seq ?_
      refine aw_region ?_
      refine g_u (s_mv_imm rfl rfl) ?_
      refine g_u (s_mv_imm rfl rfl) ?_
      refine g_u (s_mv_imm rfl rfl) ?_
      refine g_u (s_ltI rfl rfl rfl) ?_
      refine g_u (s_mv_imm rfl rfl) ?_
      refine g_case (t := 39) rfl ?_
      rintro (hb3 | hb3)
      · rw [hb3]
        have hll : lo < l.length := by have := of_decide_eq_true hb3; (try simp only [List.length_map] at this); omega
        refine g_run rfl rfl (s_mv_imm rfl rfl) ?_
        refine g_run rfl rfl (s_mv_imm rfl rfl) ?_
        refine g_run rfl rfl (s_mv_imm rfl rfl) ?_
        refine g_run rfl rfl (s_indexAddr rfl rfl rfl Tryd.underlying30 tS72 (by omega) (ixA hll)) ?_
        refine g_run rfl rfl (s_load_cp rfl rfl tA72 tS72 rfl rfl) ?_
        refine g_run rfl rfl (s_mv_imm rfl rfl) ?_
        refine g_run rfl rfl (s_callv1 (cmpA_c _ _) rfl rfl rfl) ?_
        refine g_run rfl rfl (s_eqI rfl rfl rfl) ?_
        refine g_u (s_pick_t rfl rfl rfl) ?_
        refine g_u (s_as_imm rfl rfl) ?_
        refine g_u (s_as_imm rfl rfl) ?_
        refine g_nil ?_
        refine normal_thn ?_
        refine aw_ret ?_
        exact ⟨⟨(rfl : toAV (Al.look _ _) = some _).trans (congrArg (fun n : Nat => some (iv n)) hp), rfl⟩, ⟨(rfl : toAV (Al.look _ _) = some _).trans (congrArg (fun b => some (bv b)) (by rw [hasA, ← hp, decide_eq_true hll, Bool.true_and, ← Bool.coe_iff_coe]; simp only [beq_iff_eq, decide_eq_true_eq]; exact cmpK_eq _ _)), rfl⟩, trivial⟩
      · rw [hb3]
        have hll : ¬ lo < l.length := by have := of_decide_eq_false hb3; (try simp only [List.length_map] at this); omega
        refine g_skip rfl rfl rfl ?_
        refine g_skip rfl rfl rfl ?_
        refine g_skip rfl rfl rfl ?_
        refine g_skip rfl rfl rfl ?_
        refine g_skip rfl rfl rfl ?_
        refine g_skip rfl rfl rfl ?_
        refine g_skip rfl rfl rfl ?_
        refine g_skip rfl rfl rfl ?_
        refine g_u (s_pick_f rfl rfl rfl) ?_
        refine g_u (s_as_imm rfl rfl) ?_
        refine g_u (s_as_imm rfl rfl) ?_
        refine g_nil ?_
        refine normal_thn ?_
        refine aw_ret ?_
        exact ⟨⟨(rfl : toAV (Al.look _ _) = some _).trans (congrArg (fun n : Nat => some (iv n)) hp), rfl⟩, ⟨(rfl : toAV (Al.look _ _) = some _).trans (congrArg (fun b => some (bv b)) (by rw [hasA, ← hp, decide_eq_false hll, Bool.false_and])), rfl⟩, trivial⟩

set_option maxHeartbeats 400000 in
theorem find_c (l : List GA) (k : ByteArray) (hr : risA none l) (hl : l.length ≤ 1000000000000) : PCall Tryd.prog Γ0 93 [.sl 7 (l.map avA), sv k] [iv (posA l k : Nat), bv (hasA l k)] := by
  refine pcall_of Tryd.func93 rfl Tryd.ntmps93 (by kernel_rfl) rfl fun w0 I0 G0 => ?_
  refine aw_seq ?_
  refine aw_region ?_
  refine g_u (s_as_imm rfl rfl) ?_
  refine g_u (s_as_imm rfl rfl) ?_
  refine g_nil ?_
  refine normal_thn ?_
  refine aw_seq ?_
  refine aw_region ?_
  refine g_u (s_mv_imm rfl rfl) ?_
  refine g_u (s_mv_imm rfl rfl) ?_
  refine g_u (s_call2 (bsf_c l k hr hl) rfl rfl) ?_
  refine g_u (s_extract rfl rfl rfl rfl) ?_
  refine g_u (s_extract rfl rfl rfl rfl) ?_
  refine g_u (s_as_imm rfl rfl) ?_
  refine g_u (s_as_imm rfl rfl) ?_
  refine g_nil ?_
  refine normal_thn ?_
  refine aw_ret ?_
  exact ⟨⟨(rfl : toAV (Al.look _ _) = some _).trans (congrArg some (by rfl)), rfl⟩, ⟨(rfl : toAV (Al.look _ _) = some _).trans (congrArg some (by rfl)), rfl⟩, trivial⟩

set_option maxHeartbeats 400000 in
theorem get_c (l : List GA) (k : ByteArray) (hr : risA none l) (hl : l.length ≤ 1000000000000) : PCall Tryd.prog Γ0 66 [.sl 7 (l.map avA), sv k] [((getA l k).getD zeroV).av, bv (getA l k).isSome] := by
  refine pcall_of Tryd.func66 rfl Tryd.ntmps66 (by kernel_rfl) rfl fun w0 I0 G0 => ?_
  refine aw_seq ?_
  refine aw_region ?_
  refine g_uG (s_alloc' 1004 rfl rfl rfl tZ70) rfl ?_
  refine g_u (s_as_imm rfl rfl) ?_
  refine g_nil ?_
  refine normal_thn ?_
  refine aw_seq ?_
  refine aw_seq ?_
  refine aw_region ?_
  refine g_u (s_mv_imm rfl rfl) ?_
  refine g_u (s_mv_imm rfl rfl) ?_
  refine g_u (s_call2 (find_c l k hr hl) rfl rfl) ?_
  refine g_u (s_mv_tup rfl rfl) ?_
  refine g_u (s_extract rfl rfl rfl rfl) ?_
  refine g_u (s_extract rfl rfl rfl rfl) ?_
  refine g_u (s_as_imm rfl rfl) ?_
  refine g_u (s_as_imm rfl rfl) ?_
  refine g_nil ?_
  refine normal_thn ?_
  refine aw_seq ?_
  refine aw_region ?_
  refine g_u (s_mv_imm rfl rfl) ?_
  refine g_nil ?_
  refine normal_thn ?_
  refine aw_cond rfl (fun hb1 => ?_) (fun hb1 => ?_)
  · skip
    have hh : hasA l k = true := hb1
    have hll : posA l k < l.length := by unfold hasA at hh; simp at hh; exact hh.1
    refine aw_seq ?_
    refine aw_region ?_
    refine g_u (s_mv_imm rfl rfl) ?_
    refine g_u (s_mv_imm rfl rfl) ?_
    refine g_u (s_indexAddr rfl rfl rfl Tryd.underlying30 tS72 (by omega) (ixA hll)) ?_
    refine g_u (s_fieldAddr_cp rfl rfl fa72_1 rfl rfl) ?_
    refine g_u (s_load_cp rfl rfl tA70 tS70 rfl rfl) ?_
    refine g_u (s_store_imm rfl rfl rfl tS70 rfl rfl) ?_
    refine g_u (s_as_imm rfl rfl) ?_
    refine g_nil ?_
    refine normal_thn ?_
    refine aw_ret ?_
    refine ret_thn ?_
    exact ⟨⟨_, _, _, _, _, _, _, rfl, rfl, tA70, tS70, rfl, rfl, (rfl : toAV _ = some _).trans (congrArg some (by (rw [getA_pos hr k, if_pos hh]; rfl)))⟩, ⟨(rfl : toAV (Al.look _ _) = some _).trans (congrArg some (by (rw [getA_pos hr k, if_pos hh]; rfl))), rfl⟩, trivial⟩
  · skip
    have hh : hasA l k = false := hb1
    refine aw_skip ?_
    refine normal_thn ?_
    refine aw_seq ?_
    refine aw_region ?_
    refine g_u (s_build rfl tU70 us70 pl70 rfl rfl rfl rfl) ?_
    refine g_u (s_store_imm rfl rfl rfl tS70 rfl rfl) ?_
    refine g_u (s_as_imm rfl rfl) ?_
    refine g_nil ?_
    refine normal_thn ?_
    refine aw_ret ?_
    exact ⟨⟨_, _, _, _, _, _, _, rfl, rfl, tA70, tS70, rfl, rfl, (rfl : toAV _ = some _).trans (congrArg some (by (rw [getA_pos hr k, if_neg (by rw [hh]; decide)]; rfl)))⟩, ⟨(rfl : toAV (Al.look _ _) = some _).trans (congrArg some (by (rw [getA_pos hr k, if_neg (by rw [hh]; decide)]; rfl))), rfl⟩, trivial⟩

theorem getA_ok {l : List GA} (k : ByteArray) (h : ∀ a ∈ l, a.ok) : ((getA l k).getD zeroV).ok ∧ ((getA l k).getD zeroV).wt ≤ 1 + wtAs l := by
  cases hg : getA l k with
  | none => exact ⟨by simp only [Option.getD_none]; rw [GV.ok_iff]; exact ⟨by decide, by decide, by decide, by decide, fun x hx => absurd hx (by simp [zeroV, GV.list]), fun x hx => absurd hx (by simp [zeroV, GV.map])⟩, by simp only [Option.getD_none]; rw [GV.wt_eq]; simp [zeroV, GV.list, GV.map, GV.text, wtVs, wtAs]; exact Nat.zero_le _⟩
  | some v =>
    obtain ⟨a, ha, rfl, _⟩ := getA_mem hg
    have := wtAs_mem ha
    have := a.wt_eq
    exact ⟨((GA.ok_iff a).1 (h a ha)).2, by simp only [Option.getD_some]; omega⟩

set_option maxHeartbeats 400000 in
theorem textA_c (l : List GA) (k : ByteArray) (hr : risA none l) (hl : l.length ≤ 1000000000000) (ho : ∀ a ∈ l, a.ok) (hw : wtAs l ≤ 9000000) : PCall Tryd.prog Γ0 40 [.sl 7 (l.map avA), sv k] [sv (textA l k)] := by
  refine pcall_of Tryd.func40 rfl Tryd.ntmps40 (by kernel_rfl) rfl fun w0 I0 G0 => ?_
  refine aw_seq ?_
  refine aw_region ?_
  refine g_u (s_as_imm rfl rfl) ?_
  refine g_nil ?_
  refine normal_thn ?_
  refine aw_seq ?_
  refine aw_region ?_
  refine g_u (s_mv_imm rfl rfl) ?_
  refine g_u (s_mv_imm rfl rfl) ?_
  refine g_u (s_call2 (get_c l k hr hl) rfl rfl) ?_
  refine g_u (s_mv_tup rfl rfl) ?_
  refine g_u (s_extract rfl rfl rfl rfl) ?_
  refine g_u (s_extract rfl rfl rfl rfl) ?_
  refine g_uG (s_alloc' 1005 rfl rfl rfl tZ70) rfl ?_
  refine g_u (s_store_imm rfl rfl rfl tS70 rfl rfl) ?_
  refine g_u (s_as_imm rfl rfl) ?_
  refine g_nil ?_
  refine normal_thn ?_
  refine aw_seq ?_
  refine aw_region ?_
  refine g_u (s_load_agg rfl rfl rfl tA70 tS70 rfl rfl) ?_
  refine g_u (s_call1 (text_c _ (getA_ok k ho).1 (by have := (getA_ok k ho).2; omega)) rfl rfl) ?_
  refine g_u (s_as_imm rfl rfl) ?_
  refine g_nil ?_
  refine normal_thn ?_
  refine aw_ret ?_
  exact ⟨⟨(rfl : toAV (Al.look _ _) = some _).trans (congrArg some (by rfl)), rfl⟩, trivial⟩

set_option maxHeartbeats 400000 in
theorem rget_c (l : List GA) (k : ByteArray) (hl : l.length ≤ 1000000000000) : PCall Tryd.prog Γ0 68 [.sl 7 (l.map avA), sv k] [((getA l k).getD zeroV).av, bv (getA l k).isSome] := by
  refine pcall_of Tryd.func68 rfl Tryd.ntmps68 (by kernel_rfl) rfl fun w0 I0 G0 => ?_
  refine aw_seq ?_
  refine aw_region ?_
  refine g_uG (s_alloc' 1004 rfl rfl rfl tZ70) rfl ?_
  refine g_u (s_as_imm rfl rfl) ?_
  refine g_nil ?_
  refine normal_thn ?_
  refine aw_seq ?_
  refine aw_seq ?_
  refine aw_region ?_
  refine g_u (s_as_imm rfl rfl) ?_
  refine g_nil ?_
  refine normal_thn ?_
  refine aw_block ?_
  refine aw_loop' (fun i : Nat => [(0, .imm (.sl 7 (l.map avA))), (1, .imm (sv k)), (4, .ptr 1004 0), (1004, .box 70 (.imm z70)), (5, .imm (bv false)), (6, .imm (iv (i : Int)))]) (fun i => i ≤ l.length ∧ getA l k = getA (l.drop i) k) (fun i => l.length - i) (0) ?_ ⟨rfl, rfl, rfl, rfl, rfl, rfl, trivial⟩ ?_
  · exact ⟨Nat.zero_le _, rfl⟩
  · rintro i ⟨h1, h2⟩; (try dsimp only at h1 h2)
    refine aw_seq ?_
    refine aw_seq ?_
    refine aw_region ?_
    refine g_u (s_mv_imm rfl rfl) ?_
    refine g_u (s_mv_imm rfl rfl) ?_
    refine g_u (s_lenL rfl rfl Tryd.underlying30) ?_
    refine g_u (s_ltI rfl rfl rfl) ?_
    refine g_nil ?_
    refine normal_thn ?_
    refine aw_cond rfl (fun hb1 => ?_) (fun hb1 => ?_)
    · skip
      have hi : i < l.length := by have := of_decide_eq_true hb1; (try simp only [List.length_map] at this); omega
      refine aw_skip ?_
      refine normal_thn ?_
      refine aw_seq ?_
      refine aw_block ?_
      refine aw_seq ?_
      refine aw_region ?_
      refine g_u (s_mv_imm rfl rfl) ?_
      refine g_u (s_mv_imm rfl rfl) ?_
      refine g_u (s_indexAddr rfl rfl rfl Tryd.underlying30 tS72 (by omega) (ixA hi)) ?_
      refine g_u (s_fieldAddr_cp rfl rfl fa72_0 rfl rfl) ?_
      refine g_u (s_load_cp rfl rfl tA9 tS9 rfl rfl) ?_
      refine g_u (s_mv_imm rfl rfl) ?_
      refine g_u (s_eqS rfl rfl rfl) ?_
      refine g_nil ?_
      refine normal_thn ?_
      refine aw_cond rfl (fun hb2 => ?_) (fun hb2 => ?_)
      · skip
        have hke : (nthA l i).key = k := by have e := hb2; rw [str_beq] at e; exact of_decide_eq_true e
        refine aw_seq ?_
        refine aw_region ?_
        refine g_u (s_mv_imm rfl rfl) ?_
        refine g_u (s_mv_imm rfl rfl) ?_
        refine g_u (s_indexAddr rfl rfl rfl Tryd.underlying30 tS72 (by omega) (ixA hi)) ?_
        refine g_u (s_fieldAddr_cp rfl rfl fa72_1 rfl rfl) ?_
        refine g_u (s_load_cp rfl rfl tA70 tS70 rfl rfl) ?_
        refine g_u (s_store_imm rfl rfl rfl tS70 rfl rfl) ?_
        refine g_u (s_as_imm rfl rfl) ?_
        refine g_nil ?_
        refine normal_thn ?_
        refine aw_ret ?_
        refine ret_blk ?_
        refine ret_thn ?_
        refine ret_thn ?_
        refine ret_blk ?_
        refine ret_thn ?_
        exact ⟨⟨_, _, _, _, _, _, _, rfl, rfl, tA70, tS70, rfl, rfl, (rfl : toAV _ = some _).trans (congrArg some (by (rw [h2, getA_drop hi, if_pos hke]; rfl)))⟩, ⟨(rfl : toAV (Al.look _ _) = some _).trans (congrArg some (by (rw [h2, getA_drop hi, if_pos hke]; rfl))), rfl⟩, trivial⟩
      · skip
        have hke : ¬ (nthA l i).key = k := by have e := hb2; rw [str_beq] at e; exact of_decide_eq_false e
        refine aw_skip ?_
        refine normal_blk ?_
        refine normal_thn ?_
        refine aw_region ?_
        refine g_u (s_mv_imm rfl rfl) ?_
        refine g_u (s_add rfl rfl rfl) ?_
        refine g_u (s_as_imm rfl rfl) ?_
        refine g_nil ?_
        refine normal_thn ?_
        refine ⟨i + 1, ⟨hi, by rw [h2, getA_drop hi, if_neg hke]⟩, ⟨rfl, rfl, rfl, rfl, rfl, look_int rfl (by rw [wrap64 (by omega) (by omega)]; rfl), trivial⟩, by (try dsimp only); omega⟩
    · skip
      have hin : i = l.length := by have := of_decide_eq_false hb1; (try simp only [List.length_map] at this); omega
      refine aw_exit ?_
      refine exit_thn ?_
      refine exit_thn ?_
      refine exit_blk ?_
      refine normal_thn ?_
      refine aw_seq ?_
      refine aw_region ?_
      refine g_u (s_build rfl tU70 us70 pl70 rfl rfl rfl rfl) ?_
      refine g_u (s_store_imm rfl rfl rfl tS70 rfl rfl) ?_
      refine g_u (s_as_imm rfl rfl) ?_
      refine g_nil ?_
      refine normal_thn ?_
      refine aw_ret ?_
      exact ⟨⟨_, _, _, _, _, _, _, rfl, rfl, tA70, tS70, rfl, rfl, (rfl : toAV _ = some _).trans (congrArg some (by (rw [h2, hin, List.drop_length]; rfl)))⟩, ⟨(rfl : toAV (Al.look _ _) = some _).trans (congrArg some (by (rw [h2, hin, List.drop_length]; rfl))), rfl⟩, trivial⟩

set_option maxHeartbeats 400000 in
theorem rtextA_c (l : List GA) (k : ByteArray) (ho : ∀ a ∈ l, a.ok) (hw : wtAs l ≤ 9000000) : PCall Tryd.prog Γ0 41 [.sl 7 (l.map avA), sv k] [sv (textA l k)] := by
  have q1 := len_wtAs l
  refine pcall_of Tryd.func41 rfl Tryd.ntmps41 (by kernel_rfl) rfl fun w0 I0 G0 => ?_
  refine aw_seq ?_
  refine aw_region ?_
  refine g_u (s_as_imm rfl rfl) ?_
  refine g_nil ?_
  refine normal_thn ?_
  refine aw_seq ?_
  refine aw_region ?_
  refine g_u (s_mv_imm rfl rfl) ?_
  refine g_u (s_mv_imm rfl rfl) ?_
  refine g_u (s_call2 (rget_c _ _ (by first | assumption | omega)) rfl rfl) ?_
  refine g_u (s_mv_tup rfl rfl) ?_
  refine g_u (s_extract rfl rfl rfl rfl) ?_
  refine g_u (s_extract rfl rfl rfl rfl) ?_
  refine g_uG (s_alloc' 1005 rfl rfl rfl tZ70) rfl ?_
  refine g_u (s_store_imm rfl rfl rfl tS70 rfl rfl) ?_
  refine g_u (s_as_imm rfl rfl) ?_
  refine g_nil ?_
  refine normal_thn ?_
  refine aw_seq ?_
  refine aw_region ?_
  refine g_u (s_load_agg rfl rfl rfl tA70 tS70 rfl rfl) ?_
  refine g_u (s_call1 (rtext_c _ (getA_ok k ho).1 (by have := (getA_ok k ho).2; omega)) rfl rfl) ?_
  refine g_u (s_as_imm rfl rfl) ?_
  refine g_nil ?_
  refine normal_thn ?_
  refine aw_ret ?_
  exact ⟨⟨(rfl : toAV (Al.look _ _) = some _).trans (congrArg some (by rfl)), rfl⟩, trivial⟩

set_option maxHeartbeats 400000 in
theorem rservice_c (r : GRes) (ho : ∀ a ∈ r.attrs, a.ok) (hw : wtAs r.attrs ≤ 9000000) : PCall Tryd.prog Γ0 15 [r.av] [sv (serviceM r)] := by
  refine pcall_of Tryd.func15 rfl Tryd.ntmps15 (by kernel_rfl) rfl fun w0 I0 G0 => ?_
  refine aw_seq ?_
  refine aw_region ?_
  refine g_uG (s_box_imm 1001 rfl rfl rfl rfl) rfl ?_
  refine g_u (s_as_imm rfl rfl) ?_
  refine g_nil ?_
  refine normal_thn ?_
  refine aw_seq ?_
  refine aw_region ?_
  refine g_u (s_fieldAddr rfl rfl fa33_0 rfl) ?_
  refine g_u (s_load_imm rfl rfl rfl tA30 tS30 rfl rfl) ?_
  refine g_u (s_call1 (rtextA_c r.attrs skey ho hw) rfl rfl) ?_
  refine g_u (s_as_imm rfl rfl) ?_
  refine g_nil ?_
  refine normal_thn ?_
  refine aw_ret ?_
  exact ⟨⟨(rfl : toAV (Al.look _ _) = some _).trans (congrArg some (by rfl)), rfl⟩, trivial⟩

set_option maxHeartbeats 400000 in
theorem service_c (r : GRes) (ho : ∀ a ∈ r.attrs, a.ok) (hw : wtAs r.attrs ≤ 9000000) (hr : risA none r.attrs) : PCall Tryd.prog Γ0 14 [r.av] [sv (serviceM r)] := by
  have q1 := len_wtAs r.attrs
  refine pcall_of Tryd.func14 rfl Tryd.ntmps14 (by kernel_rfl) rfl fun w0 I0 G0 => ?_
  refine aw_seq ?_
  refine aw_region ?_
  refine g_uG (s_box_imm 1001 rfl rfl rfl rfl) rfl ?_
  refine g_u (s_as_imm rfl rfl) ?_
  refine g_nil ?_
  refine normal_thn ?_
  refine aw_seq ?_
  refine aw_region ?_
  refine g_u (s_fieldAddr rfl rfl fa33_0 rfl) ?_
  refine g_u (s_load_imm rfl rfl rfl tA30 tS30 rfl rfl) ?_
  refine g_u (s_call1 (textA_c r.attrs skey hr (by omega) ho hw) rfl rfl) ?_
  refine g_u (s_as_imm rfl rfl) ?_
  refine g_nil ?_
  refine normal_thn ?_
  refine aw_ret ?_
  exact ⟨⟨(rfl : toAV (Al.look _ _) = some _).trans (congrArg some (by rfl)), rfl⟩, trivial⟩

end Go.Proofs

namespace Go.Proofs
open Go Go.Al
set_option maxRecDepth 10000





end Go.Proofs

namespace Go.Proofs
open Go Go.Al
set_option maxRecDepth 10000






end Go.Proofs

namespace Go.Proofs
open Go Go.Al
set_option maxRecDepth 10000
end Go.Proofs

namespace Go.Proofs
open Go Go.Al
set_option maxRecDepth 10000
end Go.Proofs

namespace Go.Proofs
open Go Go.Al
set_option maxRecDepth 10000
set_option maxHeartbeats 400000 in
theorem into_c (l : List GA) (a : GA) (hl : l.length ≤ 1000000000) : PCall Tryd.prog Γ0 63 [.sl 7 (l.map avA), a.av] [.sl 7 ((intoA l a).map avA)] := by
  refine pcall_of Tryd.func63 rfl Tryd.ntmps63 (by kernel_rfl) rfl fun w0 I0 G0 => ?_
  refine aw_seq ?_
  refine aw_region ?_
  refine g_uG (s_box_imm 1003 rfl rfl rfl rfl) rfl ?_
  refine g_u (s_as_imm rfl rfl) ?_
  refine g_nil ?_
  refine normal_thn ?_
  refine aw_seq ?_
  refine aw_region ?_
  refine g_u (s_as_imm rfl rfl) ?_
  refine g_nil ?_
  refine normal_thn ?_
  refine aw_seq ?_
  refine aw_block ?_
  refine aw_loop' (fun i : Nat => [(0, .imm (.sl 7 (l.map avA))), (3, .ptr 1003 0), (1003, .box 72 (.imm a.av)), (5, .imm (iv (i : Int)))]) (fun i => i ≤ l.length ∧ ∀ j, j < i → ltB (nthA l j).key a.key = true) (fun i => l.length - i) (0) ?_ ⟨rfl, rfl, rfl, rfl, trivial⟩ ?_
  · exact ⟨Nat.zero_le _, fun j h => absurd h (Nat.not_lt_zero _)⟩
  · rintro i ⟨h1, h2⟩; (try dsimp only at h1 h2)
    refine aw_seq ?_
    refine aw_seq ?_
    refine aw_draw mixed ?_
    refine g_u (s_mv_imm rfl rfl) ?_
    refine g_u (s_mv_imm rfl rfl) ?_
    refine g_u (s_lenL rfl rfl Tryd.underlying30) ?_
    refine g_u (s_ltI rfl rfl rfl) ?_
    refine g_u (s_mv_imm rfl rfl) ?_
    refine g_case (t := 11) rfl ?_
    rintro (hb1 | hb1)
    · rw [hb1]
      have hi : i < l.length := by have := of_decide_eq_true hb1; (try simp only [List.length_map] at this); omega
      refine g_run rfl rfl (s_mv_imm rfl rfl) ?_
      refine g_run rfl rfl (s_mv_imm rfl rfl) ?_
      refine g_run rfl rfl (s_indexAddr rfl rfl rfl Tryd.underlying30 tS72 (by omega) (ixA hi)) ?_
      refine g_run rfl rfl (s_fieldAddr_cp rfl rfl fa72_0 rfl rfl) ?_
      refine g_run rfl rfl (s_load_cp rfl rfl tA9 tS9 rfl rfl) ?_
      refine g_run rfl rfl (s_fieldAddr rfl rfl fa72_0 rfl) ?_
      refine g_run rfl rfl (s_load_imm rfl rfl rfl tA9 tS9 rfl rfl) ?_
      refine g_run rfl rfl (s_ltS rfl rfl rfl) ?_
      refine g_u (s_pick_t rfl rfl rfl) ?_
      refine g_nil ⟨by kernel_rfl, ?_⟩
      refine normal_thn ?_
      refine aw_cond rfl (fun hb2 => ?_) (fun hb2 => ?_)
      · skip
        have hk : ltB (nthA l i).key a.key = true := (less_eq _ _).symm.trans hb2
        refine aw_skip ?_
        refine normal_thn ?_
        refine aw_block ?_
        refine aw_region ?_
        refine g_u (s_mv_imm rfl rfl) ?_
        refine g_u (s_add rfl rfl rfl) ?_
        refine g_u (s_as_imm rfl rfl) ?_
        refine g_nil ?_
        refine normal_blk ?_
        refine normal_thn ?_
        refine ⟨i + 1, ⟨hi, fun j hj => by rcases Nat.lt_or_ge j i with h | h; exact h2 j h; rw [show j = i by omega]; exact hk⟩, ⟨rfl, rfl, rfl, look_int rfl (by rw [wrap64 (by omega) (by omega)]; rfl), trivial⟩, by (try dsimp only); omega⟩
      · skip
        have hk : ltB (nthA l i).key a.key = false := (less_eq _ _).symm.trans hb2
        have hp : i = posA l a.key := posA_first l a.key i h2 h1 (fun _ => hk)
        refine aw_exit ?_
        refine exit_thn ?_
        refine exit_thn ?_
        refine exit_blk ?_
        refine normal_thn ?_
        refine aw_seq ?_
        refine aw_draw mixed ?_
        refine g_uG (s_build0 1023 3023 rfl rfl rfl rfl rfl rfl Tryd.underlying30 tS72) rfl ?_
        refine g_u (s_mv_imm rfl rfl) ?_
        refine g_u (s_mv_imm rfl rfl) ?_
        refine g_u (s_slL_h i rfl rfl rfl Tryd.underlying30 tS72 (by omega) (by rw [List.length_map]; omega)) ?_
        refine g_u (s_append rfl rfl rfl rfl rfl Tryd.underlying30 Tryd.underlying30 tS72 zv72 rfl (by decide) by72 (by (try dsimp only); simp only [List.length_append, List.length_cons, List.length_nil, List.length_map, List.length_take, List.length_drop]; omega) (by (try dsimp only); simp only [List.length_append, List.length_cons, List.length_nil, List.length_map, List.length_take, List.length_drop]; omega)) ?_
        refine g_u (s_load_imm rfl rfl rfl tA72 tS72 rfl rfl) ?_
        refine g_u (s_buildSlice (X0 := z72) rfl Tryd.underlying30 tS72 tZ72 rfl rfl rfl rfl rfl rfl rfl rfl) ?_
        refine g_u (s_append rfl rfl rfl rfl rfl Tryd.underlying30 Tryd.underlying30 tS72 zv72 rfl (by decide) by72 (by (try dsimp only); simp only [List.length_append, List.length_cons, List.length_nil, List.length_map, List.length_take, List.length_drop]; omega) (by (try dsimp only); simp only [List.length_append, List.length_cons, List.length_nil, List.length_map, List.length_take, List.length_drop]; omega)) ?_
        refine g_u (s_as_slg rfl rfl) ?_
        refine g_nil ⟨by kernel_rfl, ?_⟩
        refine normal_thn ?_
        refine aw_seq ?_
        refine aw_seq ?_
        refine aw_draw mixed ?_
        refine g_u (s_mv_imm rfl rfl) ?_
        refine g_u (s_mv_imm rfl rfl) ?_
        refine g_u (s_lenL rfl rfl Tryd.underlying30) ?_
        refine g_u (s_ltI rfl rfl rfl) ?_
        refine g_u (s_mv_imm rfl rfl) ?_
        refine g_case (t := 35) rfl ?_
        rintro (hb3 | hb3)
        · rw [hb3]
          have hpl : i < l.length := by have := of_decide_eq_true hb3; (try simp only [List.length_map] at this); omega
          refine g_run rfl rfl (s_mv_imm rfl rfl) ?_
          refine g_run rfl rfl (s_mv_imm rfl rfl) ?_
          refine g_run rfl rfl (s_indexAddr rfl rfl rfl Tryd.underlying30 tS72 (by omega) (ixA hpl)) ?_
          refine g_run rfl rfl (s_fieldAddr_cp rfl rfl fa72_0 rfl rfl) ?_
          refine g_run rfl rfl (s_load_cp rfl rfl tA9 tS9 rfl rfl) ?_
          refine g_run rfl rfl (s_fieldAddr rfl rfl fa72_0 rfl) ?_
          refine g_run rfl rfl (s_load_imm rfl rfl rfl tA9 tS9 rfl rfl) ?_
          refine g_run rfl rfl (s_eqS rfl rfl rfl) ?_
          refine g_u (s_pick_t rfl rfl rfl) ?_
          refine g_nil ⟨by kernel_rfl, ?_⟩
          refine normal_thn ?_
          refine aw_cond rfl (fun hb4 => ?_) (fun hb4 => ?_)
          · skip
            have he : (nthA l i).key = a.key := by have e := hb4; rw [str_beq] at e; exact of_decide_eq_true e
            refine aw_region ?_
            refine g_u (s_mv_imm rfl rfl) ?_
            refine g_u (s_add rfl rfl rfl) ?_
            refine g_u (s_as_imm rfl rfl) ?_
            refine g_nil ?_
            refine normal_thn ?_
            refine aw_seq ?_
            refine aw_region ?_
            refine g_u (s_mv_slg rfl rfl) ?_
            refine g_u (s_mv_imm rfl rfl) ?_
            refine g_u (s_mv_imm rfl rfl) ?_
            refine g_u (s_slL_l (i + 1) rfl rfl rfl Tryd.underlying30 tS72 (by rw [wrap64 (by omega) (by omega)]; omega) (by rw [List.length_map]; omega)) ?_
            refine g_u (s_append rfl rfl rfl rfl rfl Tryd.underlying30 Tryd.underlying30 tS72 zv72 rfl (by decide) by72 (by (try dsimp only); simp only [List.length_append, List.length_cons, List.length_nil, List.length_map, List.length_take, List.length_drop]; omega) (by (try dsimp only); simp only [List.length_append, List.length_cons, List.length_nil, List.length_map, List.length_take, List.length_drop]; omega)) ?_
            refine g_u (s_as_slg rfl rfl) ?_
            refine g_nil ?_
            refine normal_thn ?_
            refine aw_ret ?_
            exact ⟨⟨(rfl : toAV (Al.look _ _) = some _).trans (congrArg some (by (refine congrArg (AV.sl 7) ?_; rw [intoA_pos, ← hp]; first | (have hh : hasA l a.key = true := (by rw [hasA, ← hp, decide_eq_true hpl, Bool.true_and]; exact decide_eq_true he); rw [if_pos hh]; simp [avA_eq, List.take_of_length_le]) | (have hh : hasA l a.key = false := (by rw [hasA, ← hp, decide_eq_true hpl, Bool.true_and]; exact decide_eq_false he); rw [if_neg (by rw [hh]; decide)]; simp [avA_eq, List.take_of_length_le]) | (have hh : hasA l a.key = false := (by rw [hasA, ← hp, decide_eq_false hpl, Bool.false_and]); rw [if_neg (by rw [hh]; decide)]; simp [avA_eq, List.take_of_length_le])))), rfl⟩, trivial⟩
          · skip
            have he : ¬ (nthA l i).key = a.key := by first | (have e := hb4; rw [str_beq] at e; exact of_decide_eq_false e) | (intro _; omega)
            refine aw_skip ?_
            refine normal_thn ?_
            refine aw_seq ?_
            refine aw_region ?_
            refine g_u (s_mv_slg rfl rfl) ?_
            refine g_u (s_mv_imm rfl rfl) ?_
            refine g_u (s_mv_imm rfl rfl) ?_
            refine g_u (s_slL_l i rfl rfl rfl Tryd.underlying30 tS72 (by omega) (by rw [List.length_map]; omega)) ?_
            refine g_u (s_append rfl rfl rfl rfl rfl Tryd.underlying30 Tryd.underlying30 tS72 zv72 rfl (by decide) by72 (by (try dsimp only); simp only [List.length_append, List.length_cons, List.length_nil, List.length_map, List.length_take, List.length_drop]; omega) (by (try dsimp only); simp only [List.length_append, List.length_cons, List.length_nil, List.length_map, List.length_take, List.length_drop]; omega)) ?_
            refine g_u (s_as_slg rfl rfl) ?_
            refine g_nil ?_
            refine normal_thn ?_
            refine aw_ret ?_
            exact ⟨⟨(rfl : toAV (Al.look _ _) = some _).trans (congrArg some (by (refine congrArg (AV.sl 7) ?_; rw [intoA_pos, ← hp]; first | (have hh : hasA l a.key = true := (by rw [hasA, ← hp, decide_eq_true hpl, Bool.true_and]; exact decide_eq_true he); rw [if_pos hh]; simp [avA_eq, List.take_of_length_le]) | (have hh : hasA l a.key = false := (by rw [hasA, ← hp, decide_eq_true hpl, Bool.true_and]; exact decide_eq_false he); rw [if_neg (by rw [hh]; decide)]; simp [avA_eq, List.take_of_length_le]) | (have hh : hasA l a.key = false := (by rw [hasA, ← hp, decide_eq_false hpl, Bool.false_and]); rw [if_neg (by rw [hh]; decide)]; simp [avA_eq, List.take_of_length_le])))), rfl⟩, trivial⟩
        · rw [hb3]
          have hpl : ¬ i < l.length := by have := of_decide_eq_false hb3; (try simp only [List.length_map] at this); omega
          refine g_skip rfl rfl rfl ?_
          refine g_skip rfl rfl rfl ?_
          refine g_skip rfl rfl rfl ?_
          refine g_skip rfl rfl rfl ?_
          refine g_skip rfl rfl rfl ?_
          refine g_skip rfl rfl rfl ?_
          refine g_skip rfl rfl rfl ?_
          refine g_skip rfl rfl rfl ?_
          refine g_u (s_pick_f rfl rfl rfl) ?_
          refine g_nil ⟨by kernel_rfl, ?_⟩
          refine normal_thn ?_
          refine aw_cond_false rfl ?_
          refine aw_skip ?_
          refine normal_thn ?_
          refine aw_seq ?_
          refine aw_region ?_
          refine g_u (s_mv_slg rfl rfl) ?_
          refine g_u (s_mv_imm rfl rfl) ?_
          refine g_u (s_mv_imm rfl rfl) ?_
          refine g_u (s_slL_l i rfl rfl rfl Tryd.underlying30 tS72 (by omega) (by rw [List.length_map]; omega)) ?_
          refine g_u (s_append rfl rfl rfl rfl rfl Tryd.underlying30 Tryd.underlying30 tS72 zv72 rfl (by decide) by72 (by (try dsimp only); simp only [List.length_append, List.length_cons, List.length_nil, List.length_map, List.length_take, List.length_drop]; omega) (by (try dsimp only); simp only [List.length_append, List.length_cons, List.length_nil, List.length_map, List.length_take, List.length_drop]; omega)) ?_
          refine g_u (s_as_slg rfl rfl) ?_
          refine g_nil ?_
          refine normal_thn ?_
          refine aw_ret ?_
          exact ⟨⟨(rfl : toAV (Al.look _ _) = some _).trans (congrArg some (by (refine congrArg (AV.sl 7) ?_; rw [intoA_pos, ← hp]; first | (have hh : hasA l a.key = true := (by rw [hasA, ← hp, decide_eq_true hpl, Bool.true_and]; exact decide_eq_true he); rw [if_pos hh]; simp [avA_eq, List.take_of_length_le]) | (have hh : hasA l a.key = false := (by rw [hasA, ← hp, decide_eq_true hpl, Bool.true_and]; exact decide_eq_false he); rw [if_neg (by rw [hh]; decide)]; simp [avA_eq, List.take_of_length_le]) | (have hh : hasA l a.key = false := (by rw [hasA, ← hp, decide_eq_false hpl, Bool.false_and]); rw [if_neg (by rw [hh]; decide)]; simp [avA_eq, List.take_of_length_le])))), rfl⟩, trivial⟩
    · rw [hb1]
      have hin : i = l.length := by have := of_decide_eq_false hb1; (try simp only [List.length_map] at this); omega
      have hp : i = posA l a.key := posA_first l a.key i h2 h1 (fun h => absurd h (by omega))
      refine g_skip rfl rfl rfl ?_
      refine g_skip rfl rfl rfl ?_
      refine g_skip rfl rfl rfl ?_
      refine g_skip rfl rfl rfl ?_
      refine g_skip rfl rfl rfl ?_
      refine g_skip rfl rfl rfl ?_
      refine g_skip rfl rfl rfl ?_
      refine g_skip rfl rfl rfl ?_
      refine g_u (s_pick_f rfl rfl rfl) ?_
      refine g_nil ⟨by kernel_rfl, ?_⟩
      refine normal_thn ?_
      refine aw_cond_false rfl ?_
      refine aw_exit ?_
      refine exit_thn ?_
      refine exit_thn ?_
      refine exit_blk ?_
      refine normal_thn ?_
      refine aw_seq ?_
      refine aw_draw mixed ?_
      refine g_uG (s_build0 1023 3023 rfl rfl rfl rfl rfl rfl Tryd.underlying30 tS72) rfl ?_
      refine g_u (s_mv_imm rfl rfl) ?_
      refine g_u (s_mv_imm rfl rfl) ?_
      refine g_u (s_slL_h i rfl rfl rfl Tryd.underlying30 tS72 (by omega) (by rw [List.length_map]; omega)) ?_
      refine g_u (s_append rfl rfl rfl rfl rfl Tryd.underlying30 Tryd.underlying30 tS72 zv72 rfl (by decide) by72 (by (try dsimp only); simp only [List.length_append, List.length_cons, List.length_nil, List.length_map, List.length_take, List.length_drop]; omega) (by (try dsimp only); simp only [List.length_append, List.length_cons, List.length_nil, List.length_map, List.length_take, List.length_drop]; omega)) ?_
      refine g_u (s_load_imm rfl rfl rfl tA72 tS72 rfl rfl) ?_
      refine g_u (s_buildSlice (X0 := z72) rfl Tryd.underlying30 tS72 tZ72 rfl rfl rfl rfl rfl rfl rfl rfl) ?_
      refine g_u (s_append rfl rfl rfl rfl rfl Tryd.underlying30 Tryd.underlying30 tS72 zv72 rfl (by decide) by72 (by (try dsimp only); simp only [List.length_append, List.length_cons, List.length_nil, List.length_map, List.length_take, List.length_drop]; omega) (by (try dsimp only); simp only [List.length_append, List.length_cons, List.length_nil, List.length_map, List.length_take, List.length_drop]; omega)) ?_
      refine g_u (s_as_slg rfl rfl) ?_
      refine g_nil ⟨by kernel_rfl, ?_⟩
      refine normal_thn ?_
      refine aw_seq ?_
      refine aw_seq ?_
      refine aw_draw mixed ?_
      refine g_u (s_mv_imm rfl rfl) ?_
      refine g_u (s_mv_imm rfl rfl) ?_
      refine g_u (s_lenL rfl rfl Tryd.underlying30) ?_
      refine g_u (s_ltI rfl rfl rfl) ?_
      refine g_u (s_mv_imm rfl rfl) ?_
      refine g_case (t := 35) rfl ?_
      rintro (hb5 | hb5)
      · rw [hb5]
        have hpl : i < l.length := by have := of_decide_eq_true hb5; (try simp only [List.length_map] at this); omega
        refine g_run rfl rfl (s_mv_imm rfl rfl) ?_
        refine g_run rfl rfl (s_mv_imm rfl rfl) ?_
        refine g_run rfl rfl (s_indexAddr rfl rfl rfl Tryd.underlying30 tS72 (by omega) (ixA hpl)) ?_
        refine g_run rfl rfl (s_fieldAddr_cp rfl rfl fa72_0 rfl rfl) ?_
        refine g_run rfl rfl (s_load_cp rfl rfl tA9 tS9 rfl rfl) ?_
        refine g_run rfl rfl (s_fieldAddr rfl rfl fa72_0 rfl) ?_
        refine g_run rfl rfl (s_load_imm rfl rfl rfl tA9 tS9 rfl rfl) ?_
        refine g_run rfl rfl (s_eqS rfl rfl rfl) ?_
        refine g_u (s_pick_t rfl rfl rfl) ?_
        refine g_nil ⟨by kernel_rfl, ?_⟩
        refine normal_thn ?_
        refine aw_cond rfl (fun hb6 => ?_) (fun hb6 => ?_)
        · skip
          have he : (nthA l i).key = a.key := by have e := hb6; rw [str_beq] at e; exact of_decide_eq_true e
          refine aw_region ?_
          refine g_u (s_mv_imm rfl rfl) ?_
          refine g_u (s_add rfl rfl rfl) ?_
          refine g_u (s_as_imm rfl rfl) ?_
          refine g_nil ?_
          refine normal_thn ?_
          refine aw_seq ?_
          refine aw_region ?_
          refine g_u (s_mv_slg rfl rfl) ?_
          refine g_u (s_mv_imm rfl rfl) ?_
          refine g_u (s_mv_imm rfl rfl) ?_
          refine g_u (s_slL_l (i + 1) rfl rfl rfl Tryd.underlying30 tS72 (by rw [wrap64 (by omega) (by omega)]; omega) (by rw [List.length_map]; omega)) ?_
          refine g_u (s_append rfl rfl rfl rfl rfl Tryd.underlying30 Tryd.underlying30 tS72 zv72 rfl (by decide) by72 (by (try dsimp only); simp only [List.length_append, List.length_cons, List.length_nil, List.length_map, List.length_take, List.length_drop]; omega) (by (try dsimp only); simp only [List.length_append, List.length_cons, List.length_nil, List.length_map, List.length_take, List.length_drop]; omega)) ?_
          refine g_u (s_as_slg rfl rfl) ?_
          refine g_nil ?_
          refine normal_thn ?_
          refine aw_ret ?_
          exact ⟨⟨(rfl : toAV (Al.look _ _) = some _).trans (congrArg some (by (refine congrArg (AV.sl 7) ?_; rw [intoA_pos, ← hp]; first | (have hh : hasA l a.key = true := (by rw [hasA, ← hp, decide_eq_true hpl, Bool.true_and]; exact decide_eq_true he); rw [if_pos hh]; simp [avA_eq, List.take_of_length_le]) | (have hh : hasA l a.key = false := (by rw [hasA, ← hp, decide_eq_true hpl, Bool.true_and]; exact decide_eq_false he); rw [if_neg (by rw [hh]; decide)]; simp [avA_eq, List.take_of_length_le]) | (have hh : hasA l a.key = false := (by rw [hasA, ← hp, decide_eq_false hpl, Bool.false_and]); rw [if_neg (by rw [hh]; decide)]; simp [avA_eq, List.take_of_length_le])))), rfl⟩, trivial⟩
        · skip
          have he : ¬ (nthA l i).key = a.key := by first | (have e := hb6; rw [str_beq] at e; exact of_decide_eq_false e) | (intro _; omega)
          refine aw_skip ?_
          refine normal_thn ?_
          refine aw_seq ?_
          refine aw_region ?_
          refine g_u (s_mv_slg rfl rfl) ?_
          refine g_u (s_mv_imm rfl rfl) ?_
          refine g_u (s_mv_imm rfl rfl) ?_
          refine g_u (s_slL_l i rfl rfl rfl Tryd.underlying30 tS72 (by omega) (by rw [List.length_map]; omega)) ?_
          refine g_u (s_append rfl rfl rfl rfl rfl Tryd.underlying30 Tryd.underlying30 tS72 zv72 rfl (by decide) by72 (by (try dsimp only); simp only [List.length_append, List.length_cons, List.length_nil, List.length_map, List.length_take, List.length_drop]; omega) (by (try dsimp only); simp only [List.length_append, List.length_cons, List.length_nil, List.length_map, List.length_take, List.length_drop]; omega)) ?_
          refine g_u (s_as_slg rfl rfl) ?_
          refine g_nil ?_
          refine normal_thn ?_
          refine aw_ret ?_
          exact ⟨⟨(rfl : toAV (Al.look _ _) = some _).trans (congrArg some (by (refine congrArg (AV.sl 7) ?_; rw [intoA_pos, ← hp]; first | (have hh : hasA l a.key = true := (by rw [hasA, ← hp, decide_eq_true hpl, Bool.true_and]; exact decide_eq_true he); rw [if_pos hh]; simp [avA_eq, List.take_of_length_le]) | (have hh : hasA l a.key = false := (by rw [hasA, ← hp, decide_eq_true hpl, Bool.true_and]; exact decide_eq_false he); rw [if_neg (by rw [hh]; decide)]; simp [avA_eq, List.take_of_length_le]) | (have hh : hasA l a.key = false := (by rw [hasA, ← hp, decide_eq_false hpl, Bool.false_and]); rw [if_neg (by rw [hh]; decide)]; simp [avA_eq, List.take_of_length_le])))), rfl⟩, trivial⟩
      · rw [hb5]
        have hpl : ¬ i < l.length := by have := of_decide_eq_false hb5; (try simp only [List.length_map] at this); omega
        refine g_skip rfl rfl rfl ?_
        refine g_skip rfl rfl rfl ?_
        refine g_skip rfl rfl rfl ?_
        refine g_skip rfl rfl rfl ?_
        refine g_skip rfl rfl rfl ?_
        refine g_skip rfl rfl rfl ?_
        refine g_skip rfl rfl rfl ?_
        refine g_skip rfl rfl rfl ?_
        refine g_u (s_pick_f rfl rfl rfl) ?_
        refine g_nil ⟨by kernel_rfl, ?_⟩
        refine normal_thn ?_
        refine aw_cond_false rfl ?_
        refine aw_skip ?_
        refine normal_thn ?_
        refine aw_seq ?_
        refine aw_region ?_
        refine g_u (s_mv_slg rfl rfl) ?_
        refine g_u (s_mv_imm rfl rfl) ?_
        refine g_u (s_mv_imm rfl rfl) ?_
        refine g_u (s_slL_l i rfl rfl rfl Tryd.underlying30 tS72 (by omega) (by rw [List.length_map]; omega)) ?_
        refine g_u (s_append rfl rfl rfl rfl rfl Tryd.underlying30 Tryd.underlying30 tS72 zv72 rfl (by decide) by72 (by (try dsimp only); simp only [List.length_append, List.length_cons, List.length_nil, List.length_map, List.length_take, List.length_drop]; omega) (by (try dsimp only); simp only [List.length_append, List.length_cons, List.length_nil, List.length_map, List.length_take, List.length_drop]; omega)) ?_
        refine g_u (s_as_slg rfl rfl) ?_
        refine g_nil ?_
        refine normal_thn ?_
        refine aw_ret ?_
        exact ⟨⟨(rfl : toAV (Al.look _ _) = some _).trans (congrArg some (by (refine congrArg (AV.sl 7) ?_; rw [intoA_pos, ← hp]; first | (have hh : hasA l a.key = true := (by rw [hasA, ← hp, decide_eq_true hpl, Bool.true_and]; exact decide_eq_true he); rw [if_pos hh]; simp [avA_eq, List.take_of_length_le]) | (have hh : hasA l a.key = false := (by rw [hasA, ← hp, decide_eq_true hpl, Bool.true_and]; exact decide_eq_false he); rw [if_neg (by rw [hh]; decide)]; simp [avA_eq, List.take_of_length_le]) | (have hh : hasA l a.key = false := (by rw [hasA, ← hp, decide_eq_false hpl, Bool.false_and]); rw [if_neg (by rw [hh]; decide)]; simp [avA_eq, List.take_of_length_le])))), rfl⟩, trivial⟩

set_option maxHeartbeats 400000 in
theorem canonAs_st (l : List GA) (hl : l.length ≤ 1000000000) (ih : ∀ a ∈ l, PCall Tryd.prog Γ0 64 [a.val.av] [(canonV a.val).av]) : PCall Tryd.prog Γ0 38 [.sl 7 (l.map avA)] [.sl 7 ((canonAs l).map avA)] := by
  refine pcall_of Tryd.func38 rfl Tryd.ntmps38 (by kernel_rfl) rfl fun w0 I0 G0 => ?_
  refine aw_seq ?_
  refine aw_region ?_
  refine g_u (s_as_imm rfl rfl) ?_
  refine g_nil ?_
  refine normal_thn ?_
  refine aw_seq ?_
  refine aw_region ?_
  refine g_u (s_as_imm rfl rfl) ?_
  refine g_nil ?_
  refine normal_thn ?_
  refine aw_seq ?_
  refine aw_seq ?_
  refine aw_up 3 rfl (Up.nil 7) ?_
  refine aw_region ?_
  refine g_u (s_as_imm rfl rfl) ?_
  refine g_nil ?_
  refine normal_thn ?_
  refine aw_block ?_
  refine aw_loop' (fun i : Nat => [(0, .imm (.sl 7 (l.map avA))), (3, .imm (.sl 7 ((intoAll [] ((l.take i).map canonP)).map avA))), (4, .imm (iv (i : Int)))]) (fun i => i ≤ l.length) (fun i => l.length - i) (0) ?_ ⟨rfl, rfl, rfl, trivial⟩ ?_
  · exact Nat.zero_le _
  · rintro i h1; have h1 : i ≤ l.length := h1
    refine aw_seq ?_
    refine aw_seq ?_
    refine aw_region ?_
    refine g_u (s_mv_imm rfl rfl) ?_
    refine g_u (s_mv_imm rfl rfl) ?_
    refine g_u (s_lenL rfl rfl Tryd.underlying30) ?_
    refine g_u (s_ltI rfl rfl rfl) ?_
    refine g_nil ?_
    refine normal_thn ?_
    refine aw_cond rfl (fun hb1 => ?_) (fun hb1 => ?_)
    · skip
      have hi : i < l.length := by have := of_decide_eq_true hb1; (try simp only [List.length_map] at this); omega
      refine aw_skip ?_
      refine normal_thn ?_
      refine aw_seq ?_
      refine aw_block ?_
      refine aw_draw mixed ?_
      refine g_u (s_mv_imm rfl rfl) ?_
      refine g_u (s_mv_imm rfl rfl) ?_
      refine g_u (s_mv_imm rfl rfl) ?_
      refine g_u (s_indexAddr rfl rfl rfl Tryd.underlying30 tS72 (by omega) (ixA hi)) ?_
      refine g_u (s_fieldAddr_cp rfl rfl fa72_0 rfl rfl) ?_
      refine g_u (s_load_cp rfl rfl tA9 tS9 rfl rfl) ?_
      refine g_u (s_mv_imm rfl rfl) ?_
      refine g_u (s_mv_imm rfl rfl) ?_
      refine g_u (s_indexAddr rfl rfl rfl Tryd.underlying30 tS72 (by omega) (ixA hi)) ?_
      refine g_u (s_fieldAddr_cp rfl rfl fa72_1 rfl rfl) ?_
      refine g_u (s_load_cp rfl rfl tA70 tS70 rfl rfl) ?_
      refine g_u (s_call1 (ih _ (nthA_mem hi)) rfl rfl) ?_
      refine g_u (s_build rfl tU72 us72 pl72 rfl rfl rfl rfl) ?_
      refine g_u (s_call1 (into_c _ (.mk (nthA l i).key (canonV (nthA l i).val)) (by have := len_intoAll ((l.take i).map canonP) []; simp only [List.length_map, List.length_take, List.length_nil] at this; omega)) rfl rfl) ?_
      refine g_u (s_as_imm rfl rfl) ?_
      refine g_nil ⟨by kernel_rfl, ?_⟩
      refine normal_blk ?_
      refine normal_thn ?_
      refine aw_region ?_
      refine g_u (s_mv_imm rfl rfl) ?_
      refine g_u (s_add rfl rfl rfl) ?_
      refine g_u (s_as_imm rfl rfl) ?_
      refine g_nil ?_
      refine normal_thn ?_
      refine ⟨i + 1, hi, ⟨rfl, look_imm rfl (by rw [canonAs_take hi, canonP_eq]), look_int rfl (by rw [wrap64 (by omega) (by omega)]; rfl), trivial⟩, by (try dsimp only); omega⟩
    · skip
      have hin : i = l.length := by have := of_decide_eq_false hb1; (try simp only [List.length_map] at this); omega
      refine aw_exit ?_
      refine exit_thn ?_
      refine exit_thn ?_
      refine exit_blk ?_
      refine normal_thn ?_
      refine aw_seq ?_
      refine aw_region ?_
      refine g_u (s_mv_imm rfl rfl) ?_
      refine g_u (s_as_imm rfl rfl) ?_
      refine g_nil ?_
      refine normal_thn ?_
      refine aw_ret ?_
      exact ⟨⟨(rfl : toAV (Al.look _ _) = some _).trans (congrArg some (by (rw [hin, List.take_length]; rfl))), rfl⟩, trivial⟩

set_option maxHeartbeats 400000 in
theorem canonV_st (v : GV) (hw : v.wt ≤ 10000000) (ih : ∀ y ∈ v.list, PCall Tryd.prog Γ0 64 [y.av] [(canonV y).av]) (ihm : PCall Tryd.prog Γ0 38 [.sl 7 (v.map.map avA)] [.sl 7 ((canonAs v.map).map avA)]) : PCall Tryd.prog Γ0 64 [v.av] [(canonV v).av] := by
  have ek := v.wt_eq
  have lv := len_wtVs v.list
  refine pcall_of Tryd.func64 rfl Tryd.ntmps64 (by kernel_rfl) rfl fun w0 I0 G0 => ?_
  refine aw_seq ?_
  refine aw_region ?_
  refine g_uG (s_box_imm 1001 rfl rfl rfl rfl) rfl ?_
  refine g_uG (s_alloc' 1002 rfl rfl rfl tZ70) rfl ?_
  refine g_nil ?_
  refine normal_thn ?_
  refine aw_seq ?_
  refine aw_region ?_
  refine g_u (s_as_imm rfl rfl) ?_
  refine g_nil ?_
  refine normal_thn ?_
  refine aw_seq ?_
  refine aw_seq ?_
  refine aw_newtok 3003 3 6 rfl rfl rfl rfl ?_
  refine aw_region ?_
  refine g_u (s_as_imm rfl rfl) ?_
  refine g_nil ?_
  refine normal_thn ?_
  refine aw_block ?_
  refine aw_loop' (fun i : Nat => [(1, .ptr 1001 0), (1001, .box 70 (.imm v.av)), (2, .ptr 1002 0), (1002, .box 70 (.imm z70)), (3, .slg 3003 6 ((v.list.take i).map fun x => (canonV x).av)), (3003, .tok 6 ((v.list.take i).map fun x => (canonV x).av)), (4, .imm (iv (i : Int)))]) (fun i => i ≤ v.list.length) (fun i => v.list.length - i) (0) ?_ ⟨rfl, rfl, rfl, rfl, rfl, rfl, rfl, trivial⟩ ?_
  · exact Nat.zero_le _
  · rintro i h1; have h1 : i ≤ v.list.length := h1
    refine aw_seq ?_
    refine aw_seq ?_
    refine aw_region ?_
    refine g_u (s_mv_imm rfl rfl) ?_
    refine g_u (s_fieldAddr rfl rfl fa70_4 rfl) ?_
    refine g_u (s_load_imm rfl rfl rfl tA68 tS68 rfl rfl) ?_
    refine g_u (s_lenL rfl rfl Tryd.underlying68) ?_
    refine g_u (s_ltI rfl rfl rfl) ?_
    refine g_nil ?_
    refine normal_thn ?_
    refine aw_cond rfl (fun hb1 => ?_) (fun hb1 => ?_)
    · skip
      have hi : i < v.list.length := by have := of_decide_eq_true hb1; (try simp only [List.length_map] at this); omega
      refine aw_skip ?_
      refine normal_thn ?_
      refine aw_seq ?_
      refine aw_block ?_
      refine aw_region ?_
      refine g_u (s_mv_slg rfl rfl) ?_
      refine g_u (s_fieldAddr rfl rfl fa70_4 rfl) ?_
      refine g_u (s_load_imm rfl rfl rfl tA68 tS68 rfl rfl) ?_
      refine g_u (s_mv_imm rfl rfl) ?_
      refine g_u (s_indexAddr rfl rfl rfl Tryd.underlying68 tS70 (by omega) (ixV hi)) ?_
      refine g_u (s_load_cp rfl rfl tA70 tS70 rfl rfl) ?_
      refine g_u (s_call1 (ih _ (nthV_mem hi)) rfl rfl) ?_
      refine g_u (s_buildSlice (X0 := z70) rfl Tryd.underlying68 tS70 tZ70 rfl rfl rfl rfl rfl rfl rfl rfl) ?_
      refine g_u (s_append rfl rfl rfl rfl rfl Tryd.underlying68 Tryd.underlying68 tS70 zv70 rfl (by decide) by70 (by (try dsimp only); simp only [List.length_append, List.length_cons, List.length_nil, List.length_map, List.length_take, List.length_drop]; omega) (by (try dsimp only); simp only [List.length_append, List.length_cons, List.length_nil, List.length_map, List.length_take, List.length_drop]; omega)) ?_
      refine g_u (s_as_slg rfl rfl) ?_
      refine g_nil ?_
      refine normal_blk ?_
      refine normal_thn ?_
      refine aw_region ?_
      refine g_u (s_mv_imm rfl rfl) ?_
      refine g_u (s_add rfl rfl rfl) ?_
      refine g_u (s_as_imm rfl rfl) ?_
      refine g_nil ?_
      refine normal_thn ?_
      have et : (v.list.take (i + 1)).map (fun x => (canonV x).av) = (v.list.take i).map (fun x => (canonV x).av) ++ [(canonV (nthV v.list i)).av] := by rw [take_snoc (nth_get (d := v0) hi), List.map_append]; rfl
      refine ⟨i + 1, hi, ⟨rfl, rfl, rfl, rfl, look_slg rfl et.symm, look_tok rfl et.symm, look_int rfl (by rw [wrap64 (by omega) (by omega)]; rfl), trivial⟩, by (try dsimp only); omega⟩
    · skip
      have hin : i = v.list.length := by have := of_decide_eq_false hb1; (try simp only [List.length_map] at this); omega
      refine aw_exit ?_
      refine exit_thn ?_
      refine exit_thn ?_
      refine exit_blk ?_
      refine normal_thn ?_
      refine aw_seq ?_
      refine aw_region ?_
      refine g_u (s_mv_slg rfl rfl) ?_
      refine g_u (s_fieldAddr rfl rfl fa70_4 rfl) ?_
      refine g_u (s_store rfl rfl rfl rfl tS68 rfl rfl) ?_
      refine g_nil ?_
      refine normal_thn ?_
      refine aw_seq ?_
      refine aw_region ?_
      refine g_u (s_fieldAddr rfl rfl fa70_5 rfl) ?_
      refine g_u (s_load_imm rfl rfl rfl tA30 tS30 rfl rfl) ?_
      refine g_u (s_call1 (ihm) rfl rfl) ?_
      refine g_u (s_fieldAddr rfl rfl fa70_5 rfl) ?_
      refine g_u (s_store_imm rfl rfl rfl tS30 rfl rfl) ?_
      refine g_nil ?_
      refine normal_thn ?_
      refine aw_seq ?_
      refine aw_region ?_
      refine g_u (s_load_agg rfl rfl rfl tA70 tS70 rfl rfl) ?_
      refine g_u (s_store_imm rfl rfl rfl tS70 rfl rfl) ?_
      refine g_nil ?_
      refine normal_thn ?_
      refine aw_ret ?_
      exact ⟨⟨_, _, _, _, _, _, _, rfl, rfl, tA70, tS70, rfl, rfl, (rfl : toAV _ = some _).trans (congrArg some (by (rw [canonV_eq, hin, List.take_length]; show AV.agg _ = AV.agg [_, _, _, _, .sl 6 ((v.list.map canonV).map avV), _]; rw [List.map_map, show avV ∘ canonV = fun x => (canonV x).av from funext fun x => avV_eq _]; rfl)))⟩, trivial⟩

theorem canonV_c (v : GV) : v.wt ≤ 10000000 → PCall Tryd.prog Γ0 64 [v.av] [(canonV v).av] := by
  refine GV.ind (P := fun v => v.wt ≤ 10000000 → PCall Tryd.prog Γ0 64 [v.av] [(canonV v).av]) ?_ v
  intro v h1 h2 hw
  have ek := v.wt_eq
  have la := len_wtAs v.map
  exact canonV_st v hw (fun y hy => h1 y hy (by have := wtVs_mem hy; omega)) (canonAs_st v.map (by omega) fun a ha => h2 a ha (by have := wtAs_mem ha; have := a.wt_eq; omega))
theorem canonAs_c (l : List GA) (hw : wtAs l ≤ 10000000) : PCall Tryd.prog Γ0 38 [.sl 7 (l.map avA)] [.sl 7 ((canonAs l).map avA)] := by
  have la := len_wtAs l
  exact canonAs_st l (by omega) fun a ha => canonV_c a.val (by have := wtAs_mem ha; have := a.wt_eq; omega)

end Go.Proofs

namespace Go.Proofs
open Go Go.Al
set_option maxRecDepth 10000
set_option maxHeartbeats 8000000 in
theorem canonS_c (s : GSpan) (hw : s.wt ≤ 1000000) : PCall Tryd.prog Γ0 65 [s.av] [(canonS s).av] := by
  have qw : s.wt = 1 + s.state.size + s.name.size + s.note.size + wtAs s.attrs + sumBy GE.wt s.events + sumBy GL.wt s.links := rfl
  have ql := sumBy_len GE.wt (fun e => by unfold GE.wt; omega) s.events
  have qm := sumBy_len GL.wt (fun e => by unfold GL.wt; omega) s.links
  refine pcall_of Tryd.func65 rfl Tryd.ntmps65 (by kernel_rfl) rfl fun w0 I0 G0 => ?_
  refine aw_seq ?_
  refine aw_region ?_
  refine g_uG (s_box_imm 1001 rfl rfl rfl rfl) rfl ?_
  refine g_uG (s_alloc' 1002 rfl rfl rfl tZ52) rfl ?_
  refine g_nil ?_
  refine normal_thn ?_
  refine aw_seq ?_
  refine aw_region ?_
  refine g_u (s_load_imm rfl rfl rfl tA52 tS52 rfl (by first | exact getS_w (GSpan.width _) rfl | rfl)) ?_
  refine g_uG (s_alloc' 1003 rfl rfl rfl tZ52) rfl ?_
  refine g_u (s_store_imm rfl rfl rfl tS52 (by first | exact beqW (GSpan.width _) | rfl) (by first | exact setS_w (z52_w.trans (GSpan.width _).symm) rfl | rfl)) ?_
  refine g_nil ?_
  refine normal_thn ?_
  refine aw_seq ?_
  refine aw_region ?_
  refine g_u (s_fieldAddr rfl rfl fa52_8 rfl) ?_
  refine g_u (s_load_imm rfl rfl rfl tA30 tS30 rfl rfl) ?_
  refine g_u (s_call1 (canonAs_c s.attrs (by omega)) rfl rfl) ?_
  refine g_u (s_fieldAddr rfl rfl fa52_8 rfl) ?_
  refine g_u (s_store_imm rfl rfl rfl tS30 rfl rfl) ?_
  refine g_nil ?_
  refine normal_thn ?_
  refine aw_seq ?_
  refine aw_region ?_
  refine g_u (s_fieldAddr rfl rfl fa52_9 rfl) ?_
  refine g_u (s_store_imm rfl rfl rfl tS47 rfl rfl) ?_
  refine g_nil ?_
  refine normal_thn ?_
  refine aw_seq ?_
  refine aw_region ?_
  refine g_u (s_fieldAddr rfl rfl fa52_10 rfl) ?_
  refine g_u (s_store_imm rfl rfl rfl tS48 rfl rfl) ?_
  refine g_nil ?_
  refine normal_thn ?_
  refine aw_seq ?_
  refine aw_seq ?_
  refine aw_newtokB 3009 1003 3 38 rfl rfl rfl rfl rfl rfl rfl ?_
  refine aw_region ?_
  refine g_u (s_as_imm rfl rfl) ?_
  refine g_nil ?_
  refine normal_thn ?_
  refine aw_block ?_
  refine aw_loop' (fun i : Nat => [(1, .ptr 1001 0), (1001, .box 52 (.imm s.av)), (2, .ptr 1002 0), (1002, .box 52 (.imm z52)), (3, .ptr 1003 0), (1003, .box 52 (.agg [.imm (.arr 16 s.trace), .imm (.arr 8 s.id), .imm (.arr 8 s.parent), .imm (sv s.state), .imm (sv s.name), .imm (iv s.kind), .imm (uv s.start), .imm (uv s.fin), .imm (.sl 7 ((canonAs s.attrs).map avA)), .slg 3009 3 ((s.events.take i).map fun e => (canonE e).av), .imm (.v (.slice none 0 0)), .imm (.agg [iv s.code, sv s.note])])), (3009, .tok 3 ((s.events.take i).map fun e => (canonE e).av)), (4, .imm (iv (i : Int)))]) (fun i => i ≤ s.events.length) (fun i => s.events.length - i) (0) ?_ ⟨rfl, rfl, rfl, rfl, rfl, rfl, rfl, rfl, trivial⟩ ?_
  · exact Nat.zero_le _
  · rintro i h1; have h1 : i ≤ s.events.length := h1
    refine aw_seq ?_
    refine aw_seq ?_
    refine aw_region ?_
    refine g_u (s_mv_imm rfl rfl) ?_
    refine g_u (s_fieldAddr rfl rfl fa52_9 rfl) ?_
    refine g_u (s_load_imm rfl rfl rfl tA47 tS47 rfl rfl) ?_
    refine g_u (s_lenL rfl rfl Tryd.underlying47) ?_
    refine g_u (s_ltI rfl rfl rfl) ?_
    refine g_nil ?_
    refine normal_thn ?_
    refine aw_cond rfl (fun hb1 => ?_) (fun hb1 => ?_)
    · skip
      have hi : i < s.events.length := by have := of_decide_eq_true hb1; (try simp only [List.length_map] at this); omega
      have hx : wtAs (nthE s.events i).attrs ≤ 10000000 := by have h5 := sumBy_mem GE.wt (nthE_mem hi); have h6 : (nthE s.events i).wt = 1 + (nthE s.events i).name.size + wtAs (nthE s.events i).attrs := rfl; omega
      refine aw_skip ?_
      refine normal_thn ?_
      refine aw_seq ?_
      refine aw_block ?_
      refine aw_seq ?_
      refine aw_region ?_
      refine g_u (s_fieldAddr rfl rfl fa52_9 rfl) ?_
      refine g_u (s_load_imm rfl rfl rfl tA47 tS47 rfl rfl) ?_
      refine g_u (s_mv_imm rfl rfl) ?_
      refine g_u (s_indexAddr rfl rfl rfl Tryd.underlying47 tS85 (by omega) (ixE hi)) ?_
      refine g_u (s_load_cp rfl rfl tA85 tS85 rfl rfl) ?_
      refine g_uG (s_alloc' 1005 rfl rfl rfl tZ85) rfl ?_
      refine g_u (s_store_imm rfl rfl rfl tS85 rfl rfl) ?_
      refine g_nil ?_
      refine normal_thn ?_
      refine aw_draw mixed ?_
      refine g_u (s_fieldAddr rfl rfl fa52_9 rfl) ?_
      refine g_u (s_load_slg rfl rfl rfl tA47 tS47 rfl rfl) ?_
      refine g_u (s_fieldAddr rfl rfl fa85_0 rfl) ?_
      refine g_u (s_load_imm rfl rfl rfl tA46 tS46 rfl rfl) ?_
      refine g_u (s_fieldAddr rfl rfl fa85_1 rfl) ?_
      refine g_u (s_load_imm rfl rfl rfl tA9 tS9 rfl rfl) ?_
      refine g_u (s_fieldAddr rfl rfl fa85_2 rfl) ?_
      refine g_u (s_load_imm rfl rfl rfl tA30 tS30 rfl rfl) ?_
      refine g_u (s_call1 (canonAs_c (nthE s.events i).attrs hx) rfl rfl) ?_
      refine g_u (s_build rfl tU85 us85 pl85 rfl rfl rfl rfl) ?_
      refine g_u (s_buildSlice (X0 := z85) rfl Tryd.underlying47 tS85 tZ85 rfl rfl rfl rfl rfl rfl rfl rfl) ?_
      refine g_u (s_append rfl rfl rfl rfl rfl Tryd.underlying47 Tryd.underlying47 tS85 zv85 rfl (by decide) by85 (by (try dsimp only); simp only [List.length_append, List.length_cons, List.length_nil, List.length_map, List.length_take, List.length_drop]; omega) (by (try dsimp only); simp only [List.length_append, List.length_cons, List.length_nil, List.length_map, List.length_take, List.length_drop]; omega)) ?_
      refine g_u (s_fieldAddr rfl rfl fa52_9 rfl) ?_
      refine g_u (s_store rfl rfl rfl rfl tS47 rfl rfl) ?_
      refine g_nil ⟨by kernel_rfl, ?_⟩
      refine normal_blk ?_
      refine normal_thn ?_
      refine aw_region ?_
      refine g_u (s_mv_imm rfl rfl) ?_
      refine g_u (s_add rfl rfl rfl) ?_
      refine g_u (s_as_imm rfl rfl) ?_
      refine g_nil ?_
      refine normal_thn ?_
      have et : ((s.events.take (i + 1)).map fun e => (canonE e).av) = ((s.events.take i).map fun e => (canonE e).av) ++ [(canonE (nthE s.events i)).av] := by rw [take_snoc (nth_get (d := ge0) hi), List.map_append]; rfl
      refine ⟨i + 1, hi, ⟨rfl, rfl, rfl, rfl, rfl, (by rw [et]; rfl), look_tok rfl et.symm, look_int rfl (by rw [wrap64 (by omega) (by omega)]; rfl), trivial⟩, by (try dsimp only); omega⟩
    · skip
      have hin : i = s.events.length := by have := of_decide_eq_false hb1; (try simp only [List.length_map] at this); omega
      refine aw_exit ?_
      refine exit_thn ?_
      refine exit_thn ?_
      refine exit_blk ?_
      refine normal_thn ?_
      refine aw_seq ?_
      refine aw_seq ?_
      refine aw_newtokB 3010 1003 26 39 rfl rfl rfl rfl rfl rfl rfl ?_
      refine aw_region ?_
      refine g_u (s_as_imm rfl rfl) ?_
      refine g_nil ?_
      refine normal_thn ?_
      refine aw_block ?_
      refine aw_loop' (fun i : Nat => [(1, .ptr 1001 0), (1001, .box 52 (.imm s.av)), (2, .ptr 1002 0), (1002, .box 52 (.imm z52)), (3, .ptr 1003 0), (1003, .box 52 (.agg [.imm (.arr 16 s.trace), .imm (.arr 8 s.id), .imm (.arr 8 s.parent), .imm (sv s.state), .imm (sv s.name), .imm (iv s.kind), .imm (uv s.start), .imm (uv s.fin), .imm (.sl 7 ((canonAs s.attrs).map avA)), .slg 3009 3 (s.events.map fun e => (canonE e).av), .slg 3010 26 ((s.links.take i).map fun e => (canonL e).av), .imm (.agg [iv s.code, sv s.note])])), (3010, .tok 26 ((s.links.take i).map fun e => (canonL e).av)), (6, .imm (iv (i : Int)))]) (fun i => i ≤ s.links.length) (fun i => s.links.length - i) (0) ?_ ⟨rfl, rfl, rfl, rfl, rfl, (by rw [hin, List.take_length]; rfl), rfl, rfl, trivial⟩ ?_
      · exact Nat.zero_le _
      · rintro i h1; have h1 : i ≤ s.links.length := h1
        refine aw_seq ?_
        refine aw_seq ?_
        refine aw_region ?_
        refine g_u (s_mv_imm rfl rfl) ?_
        refine g_u (s_fieldAddr rfl rfl fa52_10 rfl) ?_
        refine g_u (s_load_imm rfl rfl rfl tA48 tS48 rfl rfl) ?_
        refine g_u (s_lenL rfl rfl Tryd.underlying48) ?_
        refine g_u (s_ltI rfl rfl rfl) ?_
        refine g_nil ?_
        refine normal_thn ?_
        refine aw_cond rfl (fun hb2 => ?_) (fun hb2 => ?_)
        · skip
          have hi : i < s.links.length := by have := of_decide_eq_true hb2; (try simp only [List.length_map] at this); omega
          have hx : wtAs (nthL s.links i).attrs ≤ 10000000 := by have h5 := sumBy_mem GL.wt (nthL_mem hi); have h6 : (nthL s.links i).wt = 1 + (nthL s.links i).state.size + wtAs (nthL s.links i).attrs := rfl; omega
          refine aw_skip ?_
          refine normal_thn ?_
          refine aw_seq ?_
          refine aw_block ?_
          refine aw_seq ?_
          refine aw_region ?_
          refine g_u (s_fieldAddr rfl rfl fa52_10 rfl) ?_
          refine g_u (s_load_imm rfl rfl rfl tA48 tS48 rfl rfl) ?_
          refine g_u (s_mv_imm rfl rfl) ?_
          refine g_u (s_indexAddr rfl rfl rfl Tryd.underlying48 tS87 (by omega) (ixL hi)) ?_
          refine g_u (s_load_cp rfl rfl tA87 tS87 rfl (by first | exact getS_w (GL.width _) rfl | rfl)) ?_
          refine g_uG (s_alloc' 1007 rfl rfl rfl tZ87) rfl ?_
          refine g_u (s_store_imm rfl rfl rfl tS87 (by first | exact beqW (GL.width _) | rfl) (by first | exact setS_w (z87_w.trans (GL.width _).symm) rfl | rfl)) ?_
          refine g_nil ?_
          refine normal_thn ?_
          refine aw_draw mixed ?_
          refine g_u (s_fieldAddr rfl rfl fa52_10 rfl) ?_
          refine g_u (s_load_slg rfl rfl rfl tA48 tS48 rfl rfl) ?_
          refine g_u (s_fieldAddr rfl rfl fa87_0 rfl) ?_
          refine g_u (s_load_agg rfl rfl rfl tA43 tS43 rfl rfl) ?_
          refine g_u (s_fieldAddr rfl rfl fa87_1 rfl) ?_
          refine g_u (s_load_imm rfl rfl rfl tA45 tS45 rfl rfl) ?_
          refine g_u (s_fieldAddr rfl rfl fa87_2 rfl) ?_
          refine g_u (s_load_imm rfl rfl rfl tA9 tS9 rfl rfl) ?_
          refine g_u (s_fieldAddr rfl rfl fa87_3 rfl) ?_
          refine g_u (s_load_imm rfl rfl rfl tA30 tS30 rfl rfl) ?_
          refine g_u (s_call1 (canonAs_c (nthL s.links i).attrs hx) rfl rfl) ?_
          refine g_u (s_build rfl tU87 us87 pl87 rfl rfl rfl rfl) ?_
          refine g_u (s_buildSlice (X0 := z87) rfl Tryd.underlying48 tS87 tZ87 rfl rfl rfl rfl rfl rfl rfl rfl) ?_
          refine g_u (s_append rfl rfl rfl rfl rfl Tryd.underlying48 Tryd.underlying48 tS87 zv87 rfl (by decide) by87 (by (try dsimp only); simp only [List.length_append, List.length_cons, List.length_nil, List.length_map, List.length_take, List.length_drop]; omega) (by (try dsimp only); simp only [List.length_append, List.length_cons, List.length_nil, List.length_map, List.length_take, List.length_drop]; omega)) ?_
          refine g_u (s_fieldAddr rfl rfl fa52_10 rfl) ?_
          refine g_u (s_store rfl rfl rfl rfl tS48 rfl rfl) ?_
          refine g_nil ⟨by kernel_rfl, ?_⟩
          refine normal_blk ?_
          refine normal_thn ?_
          refine aw_region ?_
          refine g_u (s_mv_imm rfl rfl) ?_
          refine g_u (s_add rfl rfl rfl) ?_
          refine g_u (s_as_imm rfl rfl) ?_
          refine g_nil ?_
          refine normal_thn ?_
          have et : ((s.links.take (i + 1)).map fun e => (canonL e).av) = ((s.links.take i).map fun e => (canonL e).av) ++ [(canonL (nthL s.links i)).av] := by rw [take_snoc (nth_get (d := gl0) hi), List.map_append]; rfl
          refine ⟨i + 1, hi, ⟨rfl, rfl, rfl, rfl, rfl, (by rw [et]; rfl), look_tok rfl et.symm, look_int rfl (by rw [wrap64 (by omega) (by omega)]; rfl), trivial⟩, by (try dsimp only); omega⟩
        · skip
          have hin2 : i = s.links.length := by have := of_decide_eq_false hb2; (try simp only [List.length_map] at this); omega
          refine aw_exit ?_
          refine exit_thn ?_
          refine exit_thn ?_
          refine exit_blk ?_
          refine normal_thn ?_
          refine aw_seq ?_
          refine aw_region ?_
          refine g_u (s_load_agg rfl rfl rfl tA52 tS52 rfl rfl) ?_
          refine g_u (s_store_imm rfl rfl rfl tS52 (by first | exact beqW (GSpan.width _) | rfl) (by first | exact setS_w (z52_w.trans (GSpan.width _).symm) rfl | rfl)) ?_
          refine g_nil ?_
          refine normal_thn ?_
          refine aw_ret ?_
          exact ⟨⟨_, _, _, _, _, _, _, rfl, rfl, tA52, tS52, rfl, rfl, (rfl : toAV _ = some _).trans (congrArg some (by (rw [hin2, List.take_length]; show _ = GSpan.av (canonS s); simp only [GSpan.av, canonS, List.map_map]; rfl)))⟩, trivial⟩

end Go.Proofs

namespace Go.Proofs
open Go Go.Al
set_option maxRecDepth 10000
set_option maxHeartbeats 4000000 in
theorem canonScs_c (l : List GScope) (hw : sumBy GScope.wt l ≤ 1000000) : PCall Tryd.prog Γ0 39 [.sl 3 (l.map GScope.av)] [.sl 3 (l.map fun x => (canonSc x).av)] := by
  have ql := sumBy_len GScope.wt (fun e => by unfold GScope.wt; omega) l
  refine pcall_of Tryd.func39 rfl Tryd.ntmps39 (by kernel_rfl) rfl fun w0 I0 G0 => ?_
  refine aw_seq ?_
  refine aw_region ?_
  refine g_u (s_as_imm rfl rfl) ?_
  refine g_nil ?_
  refine normal_thn ?_
  refine aw_seq ?_
  refine aw_region ?_
  refine g_u (s_as_imm rfl rfl) ?_
  refine g_nil ?_
  refine normal_thn ?_
  refine aw_seq ?_
  refine aw_seq ?_
  refine aw_newtok 3003 3 3 rfl rfl rfl rfl ?_
  refine aw_region ?_
  refine g_u (s_as_imm rfl rfl) ?_
  refine g_nil ?_
  refine normal_thn ?_
  refine aw_block ?_
  refine aw_loop' (fun i : Nat => [(0, .imm (.sl 3 (l.map GScope.av))), (3, .slg 3003 3 ((l.take i).map fun x => (canonSc x).av)), (3003, .tok 3 ((l.take i).map fun x => (canonSc x).av)), (4, .imm (iv (i : Int)))]) (fun i => i ≤ l.length) (fun i => l.length - i) (0) ?_ ⟨rfl, rfl, rfl, rfl, trivial⟩ ?_
  · exact Nat.zero_le _
  · rintro i h1; have h1 : i ≤ l.length := h1
    refine aw_seq ?_
    refine aw_seq ?_
    refine aw_region ?_
    refine g_u (s_mv_imm rfl rfl) ?_
    refine g_u (s_mv_imm rfl rfl) ?_
    refine g_u (s_lenL rfl rfl Tryd.underlying31) ?_
    refine g_u (s_ltI rfl rfl rfl) ?_
    refine g_nil ?_
    refine normal_thn ?_
    refine aw_cond rfl (fun hb1 => ?_) (fun hb1 => ?_)
    · skip
      have hi : i < l.length := by have := of_decide_eq_true hb1; (try simp only [List.length_map] at this); omega
      have hc1 := sumBy_mem GScope.wt (nthC_mem hi)
      have hc2 : (nthC l i).wt = 1 + (nthC l i).name.size + (nthC l i).version.size + sumBy GSpan.wt (nthC l i).spans := rfl
      have hc3 := sumBy_len GSpan.wt (fun e => by unfold GSpan.wt; omega) (nthC l i).spans
      refine aw_skip ?_
      refine normal_thn ?_
      refine aw_seq ?_
      refine aw_block ?_
      refine aw_seq ?_
      refine aw_region ?_
      refine g_u (s_as_imm rfl rfl) ?_
      refine g_nil ?_
      refine normal_thn ?_
      refine aw_seq ?_
      refine aw_seq ?_
      refine aw_newtok 3005 5 42 rfl rfl rfl rfl ?_
      refine aw_region ?_
      refine g_u (s_as_imm rfl rfl) ?_
      refine g_nil ?_
      refine normal_thn ?_
      refine aw_block ?_
      refine aw_loop' (fun j : Nat => [(0, .imm (.sl 3 (l.map GScope.av))), (3, .slg 3003 3 ((l.take i).map fun x => (canonSc x).av)), (3003, .tok 3 ((l.take i).map fun x => (canonSc x).av)), (4, .imm (iv (i : Int))), (5, .slg 3005 42 (((nthC l i).spans.take j).map fun x => (canonS x).av)), (3005, .tok 42 (((nthC l i).spans.take j).map fun x => (canonS x).av)), (6, .imm (iv (j : Int)))]) (fun j => j ≤ (nthC l i).spans.length) (fun j => (nthC l i).spans.length - j) (0) ?_ ⟨rfl, rfl, rfl, rfl, rfl, rfl, rfl, trivial⟩ ?_
      · exact Nat.zero_le _
      · rintro j g1; have g1 : j ≤ (nthC l i).spans.length := g1
        refine aw_seq ?_
        refine aw_seq ?_
        refine aw_region ?_
        refine g_u (s_mv_imm rfl rfl) ?_
        refine g_u (s_mv_imm rfl rfl) ?_
        refine g_u (s_mv_imm rfl rfl) ?_
        refine g_u (s_indexAddr rfl rfl rfl Tryd.underlying31 tS67 (by omega) (ixC hi)) ?_
        refine g_u (s_fieldAddr_cp rfl rfl fa67_2 rfl rfl) ?_
        refine g_u (s_load_cp rfl rfl tA61 tS61 rfl rfl) ?_
        refine g_u (s_lenL rfl rfl Tryd.underlying61) ?_
        refine g_u (s_ltI rfl rfl rfl) ?_
        refine g_nil ?_
        refine normal_thn ?_
        refine aw_cond rfl (fun hb2 => ?_) (fun hb2 => ?_)
        · skip
          have hj : j < (nthC l i).spans.length := by have := of_decide_eq_true hb2; (try simp only [List.length_map] at this); omega
          have hx : (nthS (nthC l i).spans j).wt ≤ 1000000 := by have h5 := sumBy_mem GSpan.wt (nthS_mem hj); omega
          refine aw_skip ?_
          refine normal_thn ?_
          refine aw_seq ?_
          refine aw_block ?_
          refine aw_region ?_
          refine g_u (s_mv_slg rfl rfl) ?_
          refine g_u (s_mv_imm rfl rfl) ?_
          refine g_u (s_mv_imm rfl rfl) ?_
          refine g_u (s_indexAddr rfl rfl rfl Tryd.underlying31 tS67 (by omega) (ixC hi)) ?_
          refine g_u (s_fieldAddr_cp rfl rfl fa67_2 rfl rfl) ?_
          refine g_u (s_load_cp rfl rfl tA61 tS61 rfl rfl) ?_
          refine g_u (s_mv_imm rfl rfl) ?_
          refine g_u (s_indexAddr rfl rfl rfl Tryd.underlying61 tS52 (by omega) (ixS hj)) ?_
          refine g_u (s_load_cp rfl rfl tA52 tS52 rfl (by first | exact getS_w (GSpan.width _) rfl | rfl)) ?_
          refine g_u (s_call1 (canonS_c _ hx) rfl rfl) ?_
          refine g_u (s_buildSlice (X0 := z52) rfl Tryd.underlying61 tS52 tZ52 rfl rfl rfl rfl rfl rfl rfl rfl) ?_
          refine g_u (s_append rfl rfl rfl rfl rfl Tryd.underlying61 Tryd.underlying61 tS52 zv52 rfl (by decide) by52 (by (try dsimp only); simp only [List.length_append, List.length_cons, List.length_nil, List.length_map, List.length_take, List.length_drop]; omega) (by (try dsimp only); simp only [List.length_append, List.length_cons, List.length_nil, List.length_map, List.length_take, List.length_drop]; omega)) ?_
          refine g_u (s_as_slg rfl rfl) ?_
          refine g_nil ?_
          refine normal_blk ?_
          refine normal_thn ?_
          refine aw_region ?_
          refine g_u (s_mv_imm rfl rfl) ?_
          refine g_u (s_add rfl rfl rfl) ?_
          refine g_u (s_as_imm rfl rfl) ?_
          refine g_nil ?_
          refine normal_thn ?_
          have et : (((nthC l i).spans.take (j + 1)).map fun x => (canonS x).av) = (((nthC l i).spans.take j).map fun x => (canonS x).av) ++ [(canonS (nthS (nthC l i).spans j)).av] := by rw [take_snoc (nth_get (d := gs0) hj), List.map_append]; rfl
          refine ⟨j + 1, hj, ⟨rfl, rfl, rfl, rfl, look_slg rfl et.symm, look_tok rfl et.symm, look_int rfl (by rw [wrap64 (by omega) (by omega)]; rfl), trivial⟩, by (try dsimp only); omega⟩
        · skip
          have hjn : j = (nthC l i).spans.length := by have := of_decide_eq_false hb2; (try simp only [List.length_map] at this); omega
          refine aw_exit ?_
          refine exit_thn ?_
          refine exit_thn ?_
          refine exit_blk ?_
          refine normal_thn ?_
          refine aw_draw mixed ?_
          refine g_u (s_mv_slg rfl rfl) ?_
          refine g_u (s_mv_imm rfl rfl) ?_
          refine g_u (s_mv_imm rfl rfl) ?_
          refine g_u (s_indexAddr rfl rfl rfl Tryd.underlying31 tS67 (by omega) (ixC hi)) ?_
          refine g_u (s_fieldAddr_cp rfl rfl fa67_0 rfl rfl) ?_
          refine g_u (s_load_cp rfl rfl tA9 tS9 rfl rfl) ?_
          refine g_u (s_mv_imm rfl rfl) ?_
          refine g_u (s_mv_imm rfl rfl) ?_
          refine g_u (s_indexAddr rfl rfl rfl Tryd.underlying31 tS67 (by omega) (ixC hi)) ?_
          refine g_u (s_fieldAddr_cp rfl rfl fa67_1 rfl rfl) ?_
          refine g_u (s_load_cp rfl rfl tA9 tS9 rfl rfl) ?_
          refine g_u (s_mv_slg rfl rfl) ?_
          refine g_u (s_build rfl tU67 us67 pl67 rfl rfl rfl rfl) ?_
          refine g_u (s_buildSlice (X0 := z67) rfl Tryd.underlying31 tS67 tZ67 rfl rfl rfl rfl rfl rfl rfl rfl) ?_
          refine g_u (s_append rfl rfl rfl rfl rfl Tryd.underlying31 Tryd.underlying31 tS67 zv67 rfl (by decide) by67 (by (try dsimp only); simp only [List.length_append, List.length_cons, List.length_nil, List.length_map, List.length_take, List.length_drop]; omega) (by (try dsimp only); simp only [List.length_append, List.length_cons, List.length_nil, List.length_map, List.length_take, List.length_drop]; omega)) ?_
          refine g_u (s_as_slg rfl rfl) ?_
          refine g_nil ⟨by kernel_rfl, ?_⟩
          refine normal_blk ?_
          refine normal_thn ?_
          refine aw_region ?_
          refine g_u (s_mv_imm rfl rfl) ?_
          refine g_u (s_add rfl rfl rfl) ?_
          refine g_u (s_as_imm rfl rfl) ?_
          refine g_nil ?_
          refine normal_thn ?_
          have et : ((l.take (i + 1)).map fun x => (canonSc x).av) = ((l.take i).map fun x => (canonSc x).av) ++ [.agg [sv (nthC l i).name, sv (nthC l i).version, .sl 42 ((nthC l i).spans.map fun x => (canonS x).av)]] := by
            rw [take_snoc (nth_get (d := gc0) hi), List.map_append]; refine congrArg (_ ++ ·) ?_
            show [(canonSc (nthC l i)).av] = _
            simp only [GScope.av, canonSc, List.map_map]; rfl
          refine ⟨i + 1, hi, ⟨rfl, look_slg rfl (by rw [hjn, List.take_length]; exact et.symm), look_tok rfl (by rw [hjn, List.take_length]; exact et.symm), look_int rfl (by rw [wrap64 (by omega) (by omega)]; rfl), trivial⟩, by (try dsimp only); omega⟩
    · skip
      have hin : i = l.length := by have := of_decide_eq_false hb1; (try simp only [List.length_map] at this); omega
      refine aw_exit ?_
      refine exit_thn ?_
      refine exit_thn ?_
      refine exit_blk ?_
      refine normal_thn ?_
      refine aw_seq ?_
      refine aw_region ?_
      refine g_u (s_mv_slg rfl rfl) ?_
      refine g_u (s_as_slg rfl rfl) ?_
      refine g_nil ?_
      refine normal_thn ?_
      refine aw_ret ?_
      exact ⟨⟨(rfl : toAV (Al.look _ _) = some _).trans (congrArg some (by (rw [hin, List.take_length]))), rfl⟩, trivial⟩

set_option maxHeartbeats 4000000 in
theorem canonB_c (b : List GRes) (hw : wtB b ≤ 1000000) : PCall Tryd.prog Γ0 13 [batchAv b] [batchAv (canonB b)] := by
  have ql := sumBy_len GRes.wt (fun e => by unfold GRes.wt; omega) b
  have qw : wtB b = sumBy GRes.wt b := rfl
  refine pcall_of Tryd.func13 rfl Tryd.ntmps13 (by kernel_rfl) rfl fun w0 I0 G0 => ?_
  refine aw_seq ?_
  refine aw_region ?_
  refine g_uG (s_box_imm 1001 rfl rfl rfl rfl) rfl ?_
  refine g_uG (s_alloc' 1002 rfl rfl rfl tZ24) rfl ?_
  refine g_nil ?_
  refine normal_thn ?_
  refine aw_seq ?_
  refine aw_region ?_
  refine g_uG (s_alloc' 1003 rfl rfl rfl tZ24) rfl ?_
  refine g_nil ?_
  refine normal_thn ?_
  refine aw_seq ?_
  refine aw_seq ?_
  refine aw_newtokB 3099 1003 2 0 rfl rfl rfl rfl rfl rfl rfl ?_
  refine aw_region ?_
  refine g_u (s_as_imm rfl rfl) ?_
  refine g_nil ?_
  refine normal_thn ?_
  refine aw_block ?_
  refine aw_loop' (fun i : Nat => [(1, .ptr 1001 0), (1001, .box 24 (.imm (batchAv b))), (2, .ptr 1002 0), (1002, .box 24 (.imm z24)), (3, .ptr 1003 0), (1003, .box 24 (.agg [.slg 3099 2 ((b.take i).map fun r => (canonR r).av)])), (3099, .tok 2 ((b.take i).map fun r => (canonR r).av)), (4, .imm (iv (i : Int)))]) (fun i => i ≤ b.length) (fun i => b.length - i) (0) ?_ ⟨rfl, rfl, rfl, rfl, rfl, rfl, rfl, rfl, trivial⟩ ?_
  · exact Nat.zero_le _
  · rintro i h1; have h1 : i ≤ b.length := h1
    refine aw_seq ?_
    refine aw_seq ?_
    refine aw_region ?_
    refine g_u (s_mv_imm rfl rfl) ?_
    refine g_u (s_fieldAddr rfl rfl fa24_0 rfl) ?_
    refine g_u (s_load_imm rfl rfl rfl tA22 tS22 rfl rfl) ?_
    refine g_u (s_lenL rfl rfl Tryd.underlying22) ?_
    refine g_u (s_ltI rfl rfl rfl) ?_
    refine g_nil ?_
    refine normal_thn ?_
    refine aw_cond rfl (fun hb1 => ?_) (fun hb1 => ?_)
    · skip
      have hi : i < b.length := by have := of_decide_eq_true hb1; (try simp only [List.length_map] at this); omega
      have hc1 := sumBy_mem GRes.wt (nthR_mem hi)
      have hc2 : (nthR b i).wt = 1 + wtAs (nthR b i).attrs + sumBy GScope.wt (nthR b i).scopes := rfl
      refine aw_skip ?_
      refine normal_thn ?_
      refine aw_seq ?_
      refine aw_block ?_
      refine aw_draw mixed ?_
      refine g_u (s_fieldAddr rfl rfl fa24_0 rfl) ?_
      refine g_u (s_load_slg rfl rfl rfl tA22 tS22 rfl rfl) ?_
      refine g_u (s_fieldAddr rfl rfl fa24_0 rfl) ?_
      refine g_u (s_load_imm rfl rfl rfl tA22 tS22 rfl rfl) ?_
      refine g_u (s_mv_imm rfl rfl) ?_
      refine g_u (s_indexAddr rfl rfl rfl Tryd.underlying22 tS33 (by omega) (ixR hi)) ?_
      refine g_u (s_fieldAddr_cp rfl rfl fa33_0 rfl rfl) ?_
      refine g_u (s_load_cp rfl rfl tA30 tS30 rfl rfl) ?_
      refine g_u (s_call1 (canonAs_c (nthR b i).attrs (by omega)) rfl rfl) ?_
      refine g_u (s_fieldAddr rfl rfl fa24_0 rfl) ?_
      refine g_u (s_load_imm rfl rfl rfl tA22 tS22 rfl rfl) ?_
      refine g_u (s_mv_imm rfl rfl) ?_
      refine g_u (s_indexAddr rfl rfl rfl Tryd.underlying22 tS33 (by omega) (ixR hi)) ?_
      refine g_u (s_fieldAddr_cp rfl rfl fa33_1 rfl rfl) ?_
      refine g_u (s_load_cp rfl rfl tA31 tS31 rfl rfl) ?_
      refine g_u (s_call1 (canonScs_c (nthR b i).scopes (by omega)) rfl rfl) ?_
      refine g_u (s_build rfl tU33 us33 pl33 rfl rfl rfl rfl) ?_
      refine g_u (s_buildSlice (X0 := z33) rfl Tryd.underlying22 tS33 tZ33 rfl rfl rfl rfl rfl rfl rfl rfl) ?_
      refine g_u (s_append rfl rfl rfl rfl rfl Tryd.underlying22 Tryd.underlying22 tS33 zv33 rfl (by decide) by33 (by (try dsimp only); simp only [List.length_append, List.length_cons, List.length_nil, List.length_map, List.length_take, List.length_drop]; omega) (by (try dsimp only); simp only [List.length_append, List.length_cons, List.length_nil, List.length_map, List.length_take, List.length_drop]; omega)) ?_
      refine g_u (s_fieldAddr rfl rfl fa24_0 rfl) ?_
      refine g_u (s_store rfl rfl rfl rfl tS22 rfl rfl) ?_
      refine g_nil ⟨by kernel_rfl, ?_⟩
      refine normal_blk ?_
      refine normal_thn ?_
      refine aw_region ?_
      refine g_u (s_mv_imm rfl rfl) ?_
      refine g_u (s_add rfl rfl rfl) ?_
      refine g_u (s_as_imm rfl rfl) ?_
      refine g_nil ?_
      refine normal_thn ?_
      have et : ((b.take (i + 1)).map fun r => (canonR r).av) = ((b.take i).map fun r => (canonR r).av) ++ [.agg [.sl 7 ((canonAs (nthR b i).attrs).map avA), .sl 3 ((nthR b i).scopes.map fun x => (canonSc x).av)]] := by
        rw [take_snoc (nth_get (d := gr0) hi), List.map_append]; refine congrArg (_ ++ ·) ?_
        show [(canonR (nthR b i)).av] = _
        simp only [GRes.av, canonR, List.map_map]; rfl
      refine ⟨i + 1, hi, ⟨rfl, rfl, rfl, rfl, rfl, (by rw [et]; rfl), look_tok rfl et.symm, look_int rfl (by rw [wrap64 (by omega) (by omega)]; rfl), trivial⟩, by (try dsimp only); omega⟩
    · skip
      have hin : i = b.length := by have := of_decide_eq_false hb1; (try simp only [List.length_map] at this); omega
      refine aw_exit ?_
      refine exit_thn ?_
      refine exit_thn ?_
      refine exit_blk ?_
      refine normal_thn ?_
      refine aw_seq ?_
      refine aw_region ?_
      refine g_u (s_load_agg rfl rfl rfl tA24 tS24 rfl rfl) ?_
      refine g_u (s_store_imm rfl rfl rfl tS24 rfl rfl) ?_
      refine g_nil ?_
      refine normal_thn ?_
      refine aw_ret ?_
      exact ⟨⟨_, _, _, _, _, _, _, rfl, rfl, tA24, tS24, rfl, rfl, (rfl : toAV _ = some _).trans (congrArg some (by (rw [hin, List.take_length]; show AV.agg [.sl 2 _] = AV.agg [.sl 2 ((b.map canonR).map GRes.av)]; rw [List.map_map]; rfl)))⟩, trivial⟩

end Go.Proofs

