/- Texts that the proofs of this claim share, part 4: the abstract logic, plain Lean on values and batches, and walks. No condition but those typed in each lemma. -/
import Derived.Test.YtchikjokpmdipaaGreatDoorP3
set_option linter.unusedSimpArgs false
set_option linter.unusedVariables false
namespace Go.Proofs
open Go Go.Al
set_option maxRecDepth 10000
set_option maxHeartbeats 400000 in
theorem rquote_c (s : ByteArray) (hs : s.size ≤ 100000000000) : PCall Tryz.prog Γ0 85 [sv s] [sv (strOf (quoteB (lst s)))] := by
  have hz := lst_len s
  have c1 : (ByteArray.mk #[92]).size = 1 := rfl
  have c4 : (ByteArray.mk #[92, 117, 48, 48]).size = 4 := rfl
  have c0 : (ByteArray.mk #[34]).size = 1 := rfl
  refine pcall_of Tryz.func85 rfl Tryz.ntmps85 (by kernel_rfl) rfl fun w0 I0 G0 => ?_
  refine aw_seq ?_
  refine aw_region ?_
  refine g_u (s_as_imm rfl rfl) ?_
  refine g_nil ?_
  refine normal_thn ?_
  refine aw_seq ?_
  refine aw_region ?_
  refine g_u (s_as_imm rfl rfl) ?_
  refine g_nil ?_
  refine normal_thn ?_
  refine aw_seq ?_
  refine aw_seq ?_
  refine aw_region ?_
  refine g_u (s_as_imm rfl rfl) ?_
  refine g_nil ?_
  refine normal_thn ?_
  refine aw_block ?_
  refine aw_loop' (fun j : Nat × ByteArray => [(0, .imm (sv s)), (3, .imm (sv j.2)), (4, .imm (iv (j.1 : Int)))]) (fun j => j.1 ≤ s.size ∧ lst j.2 = 34 :: escs ((lst s).take j.1)) (fun j => s.size - j.1) (⟨0, ⟨#[34]⟩⟩) ?_ ⟨rfl, rfl, rfl, trivial⟩ ?_
  · exact ⟨Nat.zero_le _, rfl⟩
  · rintro ⟨i, t⟩ ⟨h1, h2⟩; dsimp only at h1 h2; have hlen : t.size ≤ 1 + 6 * s.size := by have := escs_length ((lst s).take i); rw [← lst_len t, h2, List.length_cons]; rw [List.length_take] at this; omega
    have e2 : i < s.size → (IntKind.i64.wrap ((i : Int) + 1)).toNat = i + 1 := fun h => by rw [wrap64 (by omega) (by omega)]; omega
    have hx : (i : Int) < (s.size : Int) → (s.extract (i : Int).toNat (IntKind.i64.wrap ((i : Int) + 1)).toNat).size = 1 := fun h => by rw [e2 (by omega), Int.toNat_natCast]; exact ex1_size (by omega)
    refine aw_seq ?_
    refine aw_seq ?_
    refine aw_region ?_
    refine g_u (s_mv_imm rfl rfl) ?_
    refine g_u (s_mv_imm rfl rfl) ?_
    refine g_u (s_lenS rfl rfl Tryz.underlying9) ?_
    refine g_u (s_ltI rfl rfl rfl) ?_
    refine g_nil ?_
    refine normal_thn ?_
    refine aw_cond rfl (fun hb1 => ?_) (fun hb1 => ?_)
    · skip
      refine aw_skip ?_
      refine normal_thn ?_
      refine aw_seq ?_
      refine aw_block ?_
      refine aw_seq ?_
      refine aw_seq ?_
      refine aw_region ?_
      refine g_u (s_mv_imm rfl rfl) ?_
      refine g_u (s_mv_imm rfl rfl) ?_
      refine g_u (si_ix rfl rfl rfl Tryz.underlying9 (by ((try simp only [decide_eq_true_eq, decide_eq_false_iff_not, bne_iff_ne, ne_eq, beq_iff_eq, bne_eq_false_iff_eq, beq_eq_false_iff_ne, Bool.not_eq_true', Bool.not_eq_false', gt_iff_lt, ge_iff_le] at *); (repeat simp (disch := omega) only [wrap64, wrap32] at *)); omega)) ?_
      refine g_u (s_eqI rfl rfl rfl) ?_
      refine g_u (s_mv_imm rfl rfl) ?_
      refine g_case (t := 15) rfl ?_
      rintro (hb2 | hb2)
      · rw [hb2]
        refine g_skip rfl rfl rfl ?_
        refine g_skip rfl rfl rfl ?_
        refine g_skip rfl rfl rfl ?_
        refine g_skip rfl rfl rfl ?_
        refine g_u (s_pick_t rfl rfl rfl) ?_
        refine g_nil ?_
        refine normal_thn ?_
        refine aw_cond_true rfl ?_
        refine aw_region ?_
        refine g_u (s_mv_imm rfl rfl) ?_
        refine g_u (s_catS rfl rfl rfl (by show _ ≤ (9223372036854775807 : Int); (try dsimp only); first | (simp only [app_size, c0, c1, c4]; omega) | (have q := hx (of_decide_eq_true hb1); simp only [app_size, strOf_size, hexB_length, lst_len, q, c1, c4]; omega))) ?_
        refine g_u (s_as_imm rfl rfl) ?_
        refine g_nil ?_
        refine normal_thn ?_
        refine aw_seq ?_
        refine aw_region ?_
        refine g_u (s_mv_imm rfl rfl) ?_
        refine g_u (s_mv_imm rfl rfl) ?_
        refine g_u (si_ix rfl rfl rfl Tryz.underlying9 (by ((try simp only [decide_eq_true_eq, decide_eq_false_iff_not, bne_iff_ne, ne_eq, beq_iff_eq, bne_eq_false_iff_eq, beq_eq_false_iff_ne, Bool.not_eq_true', Bool.not_eq_false', gt_iff_lt, ge_iff_le] at *); (repeat simp (disch := omega) only [wrap64, wrap32] at *)); omega)) ?_
        refine g_u (s_ltI rfl rfl rfl) ?_
        refine g_nil ?_
        refine normal_thn ?_
        refine aw_cond rfl (fun hb3 => ?_) (fun hb3 => ?_)
        · skip
          refine aw_region ?_
          refine g_u (s_mv_imm rfl rfl) ?_
          refine g_u (s_catS rfl rfl rfl (by show _ ≤ (9223372036854775807 : Int); (try dsimp only); first | (simp only [app_size, c0, c1, c4]; omega) | (have q := hx (of_decide_eq_true hb1); simp only [app_size, strOf_size, hexB_length, lst_len, q, c1, c4]; omega))) ?_
          refine g_u (s_mv_imm rfl rfl) ?_
          refine g_u (s_mv_imm rfl rfl) ?_
          refine g_u (s_mv_imm rfl rfl) ?_
          refine g_u (s_add rfl rfl rfl) ?_
          refine g_u (si_lh rfl rfl rfl rfl Tryz.underlying9 (by ((try simp only [decide_eq_true_eq, decide_eq_false_iff_not, bne_iff_ne, ne_eq, beq_iff_eq, bne_eq_false_iff_eq, beq_eq_false_iff_ne, Bool.not_eq_true', Bool.not_eq_false', gt_iff_lt, ge_iff_le] at *); (repeat simp (disch := omega) only [wrap64, wrap32] at *)); omega)) ?_
          refine g_u (s_call1 (rhex_c _ (by have q := hx (of_decide_eq_true hb1); (try dsimp only); omega)) rfl rfl) ?_
          refine g_u (s_catS rfl rfl rfl (by show _ ≤ (9223372036854775807 : Int); (try dsimp only); first | (simp only [app_size, c0, c1, c4]; omega) | (have q := hx (of_decide_eq_true hb1); simp only [app_size, strOf_size, hexB_length, lst_len, q, c1, c4]; omega))) ?_
          refine g_u (s_as_imm rfl rfl) ?_
          refine g_nil ?_
          refine normal_blk ?_
          refine normal_thn ?_
          refine aw_region ?_
          refine g_u (s_mv_imm rfl rfl) ?_
          refine g_u (s_add rfl rfl rfl) ?_
          refine g_u (s_as_imm rfl rfl) ?_
          refine g_nil ?_
          refine normal_thn ?_
          change decide ((i : Int) < (s.size : Int)) = true at hb1
          have hi : i < s.size := by have := of_decide_eq_true hb1; omega
          obtain ⟨c, hc1, hc2⟩ := bAt_nat s i hi
          refine ⟨⟨i + 1, _⟩, ⟨hi, ?_⟩, ⟨rfl, rfl, look_int rfl (by rw [wrap64 (by omega) (by omega)]; rfl), trivial⟩, by dsimp only; omega⟩
          dsimp only at *
          rw [take_snoc hc1, escs_snoc, ← List.cons_append, ← h2, e2 hi, Int.toNat_natCast]
          simp only [beq_iff_eq, beq_eq_false_iff_ne, ne_eq, decide_eq_true_eq, decide_eq_false_iff_not] at *
          first | (exfalso; omega) | exact resc1 hc1 (.inl (by omega)) | exact resc1 hc1 (.inr (by omega)) | exact resc2 hc1 (by omega) (by omega) (by omega) | exact resc3 hc1 (by omega) (by omega) (by omega)
        · skip
          refine aw_region ?_
          refine g_u (s_mv_imm rfl rfl) ?_
          refine g_u (s_mv_imm rfl rfl) ?_
          refine g_u (s_mv_imm rfl rfl) ?_
          refine g_u (s_mv_imm rfl rfl) ?_
          refine g_u (s_add rfl rfl rfl) ?_
          refine g_u (si_lh rfl rfl rfl rfl Tryz.underlying9 (by ((try simp only [decide_eq_true_eq, decide_eq_false_iff_not, bne_iff_ne, ne_eq, beq_iff_eq, bne_eq_false_iff_eq, beq_eq_false_iff_ne, Bool.not_eq_true', Bool.not_eq_false', gt_iff_lt, ge_iff_le] at *); (repeat simp (disch := omega) only [wrap64, wrap32] at *)); omega)) ?_
          refine g_u (s_catS rfl rfl rfl (by show _ ≤ (9223372036854775807 : Int); (try dsimp only); first | (simp only [app_size, c0, c1, c4]; omega) | (have q := hx (of_decide_eq_true hb1); simp only [app_size, strOf_size, hexB_length, lst_len, q, c1, c4]; omega))) ?_
          refine g_u (s_as_imm rfl rfl) ?_
          refine g_nil ?_
          refine normal_blk ?_
          refine normal_thn ?_
          refine aw_region ?_
          refine g_u (s_mv_imm rfl rfl) ?_
          refine g_u (s_add rfl rfl rfl) ?_
          refine g_u (s_as_imm rfl rfl) ?_
          refine g_nil ?_
          refine normal_thn ?_
          change decide ((i : Int) < (s.size : Int)) = true at hb1
          have hi : i < s.size := by have := of_decide_eq_true hb1; omega
          obtain ⟨c, hc1, hc2⟩ := bAt_nat s i hi
          refine ⟨⟨i + 1, _⟩, ⟨hi, ?_⟩, ⟨rfl, rfl, look_int rfl (by rw [wrap64 (by omega) (by omega)]; rfl), trivial⟩, by dsimp only; omega⟩
          dsimp only at *
          rw [take_snoc hc1, escs_snoc, ← List.cons_append, ← h2, e2 hi, Int.toNat_natCast]
          simp only [beq_iff_eq, beq_eq_false_iff_ne, ne_eq, decide_eq_true_eq, decide_eq_false_iff_not] at *
          first | (exfalso; omega) | exact resc1 hc1 (.inl (by omega)) | exact resc1 hc1 (.inr (by omega)) | exact resc2 hc1 (by omega) (by omega) (by omega) | exact resc3 hc1 (by omega) (by omega) (by omega)
      · rw [hb2]
        refine g_run rfl rfl (s_mv_imm rfl rfl) ?_
        refine g_run rfl rfl (s_mv_imm rfl rfl) ?_
        refine g_run rfl rfl (si_ix rfl rfl rfl Tryz.underlying9 (by ((try simp only [decide_eq_true_eq, decide_eq_false_iff_not, bne_iff_ne, ne_eq, beq_iff_eq, bne_eq_false_iff_eq, beq_eq_false_iff_ne, Bool.not_eq_true', Bool.not_eq_false', gt_iff_lt, ge_iff_le] at *); (repeat simp (disch := omega) only [wrap64, wrap32] at *)); omega)) ?_
        refine g_run rfl rfl (s_eqI rfl rfl rfl) ?_
        refine g_u (s_pick_f rfl rfl rfl) ?_
        refine g_nil ?_
        refine normal_thn ?_
        refine aw_cond rfl (fun hb4 => ?_) (fun hb4 => ?_)
        · skip
          refine aw_region ?_
          refine g_u (s_mv_imm rfl rfl) ?_
          refine g_u (s_catS rfl rfl rfl (by show _ ≤ (9223372036854775807 : Int); (try dsimp only); first | (simp only [app_size, c0, c1, c4]; omega) | (have q := hx (of_decide_eq_true hb1); simp only [app_size, strOf_size, hexB_length, lst_len, q, c1, c4]; omega))) ?_
          refine g_u (s_as_imm rfl rfl) ?_
          refine g_nil ?_
          refine normal_thn ?_
          refine aw_seq ?_
          refine aw_region ?_
          refine g_u (s_mv_imm rfl rfl) ?_
          refine g_u (s_mv_imm rfl rfl) ?_
          refine g_u (si_ix rfl rfl rfl Tryz.underlying9 (by ((try simp only [decide_eq_true_eq, decide_eq_false_iff_not, bne_iff_ne, ne_eq, beq_iff_eq, bne_eq_false_iff_eq, beq_eq_false_iff_ne, Bool.not_eq_true', Bool.not_eq_false', gt_iff_lt, ge_iff_le] at *); (repeat simp (disch := omega) only [wrap64, wrap32] at *)); omega)) ?_
          refine g_u (s_ltI rfl rfl rfl) ?_
          refine g_nil ?_
          refine normal_thn ?_
          refine aw_cond rfl (fun hb5 => ?_) (fun hb5 => ?_)
          · skip
            refine aw_region ?_
            refine g_u (s_mv_imm rfl rfl) ?_
            refine g_u (s_catS rfl rfl rfl (by show _ ≤ (9223372036854775807 : Int); (try dsimp only); first | (simp only [app_size, c0, c1, c4]; omega) | (have q := hx (of_decide_eq_true hb1); simp only [app_size, strOf_size, hexB_length, lst_len, q, c1, c4]; omega))) ?_
            refine g_u (s_mv_imm rfl rfl) ?_
            refine g_u (s_mv_imm rfl rfl) ?_
            refine g_u (s_mv_imm rfl rfl) ?_
            refine g_u (s_add rfl rfl rfl) ?_
            refine g_u (si_lh rfl rfl rfl rfl Tryz.underlying9 (by ((try simp only [decide_eq_true_eq, decide_eq_false_iff_not, bne_iff_ne, ne_eq, beq_iff_eq, bne_eq_false_iff_eq, beq_eq_false_iff_ne, Bool.not_eq_true', Bool.not_eq_false', gt_iff_lt, ge_iff_le] at *); (repeat simp (disch := omega) only [wrap64, wrap32] at *)); omega)) ?_
            refine g_u (s_call1 (rhex_c _ (by have q := hx (of_decide_eq_true hb1); (try dsimp only); omega)) rfl rfl) ?_
            refine g_u (s_catS rfl rfl rfl (by show _ ≤ (9223372036854775807 : Int); (try dsimp only); first | (simp only [app_size, c0, c1, c4]; omega) | (have q := hx (of_decide_eq_true hb1); simp only [app_size, strOf_size, hexB_length, lst_len, q, c1, c4]; omega))) ?_
            refine g_u (s_as_imm rfl rfl) ?_
            refine g_nil ?_
            refine normal_blk ?_
            refine normal_thn ?_
            refine aw_region ?_
            refine g_u (s_mv_imm rfl rfl) ?_
            refine g_u (s_add rfl rfl rfl) ?_
            refine g_u (s_as_imm rfl rfl) ?_
            refine g_nil ?_
            refine normal_thn ?_
            change decide ((i : Int) < (s.size : Int)) = true at hb1
            have hi : i < s.size := by have := of_decide_eq_true hb1; omega
            obtain ⟨c, hc1, hc2⟩ := bAt_nat s i hi
            refine ⟨⟨i + 1, _⟩, ⟨hi, ?_⟩, ⟨rfl, rfl, look_int rfl (by rw [wrap64 (by omega) (by omega)]; rfl), trivial⟩, by dsimp only; omega⟩
            dsimp only at *
            rw [take_snoc hc1, escs_snoc, ← List.cons_append, ← h2, e2 hi, Int.toNat_natCast]
            simp only [beq_iff_eq, beq_eq_false_iff_ne, ne_eq, decide_eq_true_eq, decide_eq_false_iff_not] at *
            first | (exfalso; omega) | exact resc1 hc1 (.inl (by omega)) | exact resc1 hc1 (.inr (by omega)) | exact resc2 hc1 (by omega) (by omega) (by omega) | exact resc3 hc1 (by omega) (by omega) (by omega)
          · skip
            refine aw_region ?_
            refine g_u (s_mv_imm rfl rfl) ?_
            refine g_u (s_mv_imm rfl rfl) ?_
            refine g_u (s_mv_imm rfl rfl) ?_
            refine g_u (s_mv_imm rfl rfl) ?_
            refine g_u (s_add rfl rfl rfl) ?_
            refine g_u (si_lh rfl rfl rfl rfl Tryz.underlying9 (by ((try simp only [decide_eq_true_eq, decide_eq_false_iff_not, bne_iff_ne, ne_eq, beq_iff_eq, bne_eq_false_iff_eq, beq_eq_false_iff_ne, Bool.not_eq_true', Bool.not_eq_false', gt_iff_lt, ge_iff_le] at *); (repeat simp (disch := omega) only [wrap64, wrap32] at *)); omega)) ?_
            refine g_u (s_catS rfl rfl rfl (by show _ ≤ (9223372036854775807 : Int); (try dsimp only); first | (simp only [app_size, c0, c1, c4]; omega) | (have q := hx (of_decide_eq_true hb1); simp only [app_size, strOf_size, hexB_length, lst_len, q, c1, c4]; omega))) ?_
            refine g_u (s_as_imm rfl rfl) ?_
            refine g_nil ?_
            refine normal_blk ?_
            refine normal_thn ?_
            refine aw_region ?_
            refine g_u (s_mv_imm rfl rfl) ?_
            refine g_u (s_add rfl rfl rfl) ?_
            refine g_u (s_as_imm rfl rfl) ?_
            refine g_nil ?_
            refine normal_thn ?_
            change decide ((i : Int) < (s.size : Int)) = true at hb1
            have hi : i < s.size := by have := of_decide_eq_true hb1; omega
            obtain ⟨c, hc1, hc2⟩ := bAt_nat s i hi
            refine ⟨⟨i + 1, _⟩, ⟨hi, ?_⟩, ⟨rfl, rfl, look_int rfl (by rw [wrap64 (by omega) (by omega)]; rfl), trivial⟩, by dsimp only; omega⟩
            dsimp only at *
            rw [take_snoc hc1, escs_snoc, ← List.cons_append, ← h2, e2 hi, Int.toNat_natCast]
            simp only [beq_iff_eq, beq_eq_false_iff_ne, ne_eq, decide_eq_true_eq, decide_eq_false_iff_not] at *
            first | (exfalso; omega) | exact resc1 hc1 (.inl (by omega)) | exact resc1 hc1 (.inr (by omega)) | exact resc2 hc1 (by omega) (by omega) (by omega) | exact resc3 hc1 (by omega) (by omega) (by omega)
        · skip
          refine aw_skip ?_
          refine normal_thn ?_
          refine aw_seq ?_
          refine aw_region ?_
          refine g_u (s_mv_imm rfl rfl) ?_
          refine g_u (s_mv_imm rfl rfl) ?_
          refine g_u (si_ix rfl rfl rfl Tryz.underlying9 (by ((try simp only [decide_eq_true_eq, decide_eq_false_iff_not, bne_iff_ne, ne_eq, beq_iff_eq, bne_eq_false_iff_eq, beq_eq_false_iff_ne, Bool.not_eq_true', Bool.not_eq_false', gt_iff_lt, ge_iff_le] at *); (repeat simp (disch := omega) only [wrap64, wrap32] at *)); omega)) ?_
          refine g_u (s_ltI rfl rfl rfl) ?_
          refine g_nil ?_
          refine normal_thn ?_
          refine aw_cond rfl (fun hb6 => ?_) (fun hb6 => ?_)
          · skip
            refine aw_region ?_
            refine g_u (s_mv_imm rfl rfl) ?_
            refine g_u (s_catS rfl rfl rfl (by show _ ≤ (9223372036854775807 : Int); (try dsimp only); first | (simp only [app_size, c0, c1, c4]; omega) | (have q := hx (of_decide_eq_true hb1); simp only [app_size, strOf_size, hexB_length, lst_len, q, c1, c4]; omega))) ?_
            refine g_u (s_mv_imm rfl rfl) ?_
            refine g_u (s_mv_imm rfl rfl) ?_
            refine g_u (s_mv_imm rfl rfl) ?_
            refine g_u (s_add rfl rfl rfl) ?_
            refine g_u (si_lh rfl rfl rfl rfl Tryz.underlying9 (by ((try simp only [decide_eq_true_eq, decide_eq_false_iff_not, bne_iff_ne, ne_eq, beq_iff_eq, bne_eq_false_iff_eq, beq_eq_false_iff_ne, Bool.not_eq_true', Bool.not_eq_false', gt_iff_lt, ge_iff_le] at *); (repeat simp (disch := omega) only [wrap64, wrap32] at *)); omega)) ?_
            refine g_u (s_call1 (rhex_c _ (by have q := hx (of_decide_eq_true hb1); (try dsimp only); omega)) rfl rfl) ?_
            refine g_u (s_catS rfl rfl rfl (by show _ ≤ (9223372036854775807 : Int); (try dsimp only); first | (simp only [app_size, c0, c1, c4]; omega) | (have q := hx (of_decide_eq_true hb1); simp only [app_size, strOf_size, hexB_length, lst_len, q, c1, c4]; omega))) ?_
            refine g_u (s_as_imm rfl rfl) ?_
            refine g_nil ?_
            refine normal_blk ?_
            refine normal_thn ?_
            refine aw_region ?_
            refine g_u (s_mv_imm rfl rfl) ?_
            refine g_u (s_add rfl rfl rfl) ?_
            refine g_u (s_as_imm rfl rfl) ?_
            refine g_nil ?_
            refine normal_thn ?_
            change decide ((i : Int) < (s.size : Int)) = true at hb1
            have hi : i < s.size := by have := of_decide_eq_true hb1; omega
            obtain ⟨c, hc1, hc2⟩ := bAt_nat s i hi
            refine ⟨⟨i + 1, _⟩, ⟨hi, ?_⟩, ⟨rfl, rfl, look_int rfl (by rw [wrap64 (by omega) (by omega)]; rfl), trivial⟩, by dsimp only; omega⟩
            dsimp only at *
            rw [take_snoc hc1, escs_snoc, ← List.cons_append, ← h2, e2 hi, Int.toNat_natCast]
            simp only [beq_iff_eq, beq_eq_false_iff_ne, ne_eq, decide_eq_true_eq, decide_eq_false_iff_not] at *
            first | (exfalso; omega) | exact resc1 hc1 (.inl (by omega)) | exact resc1 hc1 (.inr (by omega)) | exact resc2 hc1 (by omega) (by omega) (by omega) | exact resc3 hc1 (by omega) (by omega) (by omega)
          · skip
            refine aw_region ?_
            refine g_u (s_mv_imm rfl rfl) ?_
            refine g_u (s_mv_imm rfl rfl) ?_
            refine g_u (s_mv_imm rfl rfl) ?_
            refine g_u (s_mv_imm rfl rfl) ?_
            refine g_u (s_add rfl rfl rfl) ?_
            refine g_u (si_lh rfl rfl rfl rfl Tryz.underlying9 (by ((try simp only [decide_eq_true_eq, decide_eq_false_iff_not, bne_iff_ne, ne_eq, beq_iff_eq, bne_eq_false_iff_eq, beq_eq_false_iff_ne, Bool.not_eq_true', Bool.not_eq_false', gt_iff_lt, ge_iff_le] at *); (repeat simp (disch := omega) only [wrap64, wrap32] at *)); omega)) ?_
            refine g_u (s_catS rfl rfl rfl (by show _ ≤ (9223372036854775807 : Int); (try dsimp only); first | (simp only [app_size, c0, c1, c4]; omega) | (have q := hx (of_decide_eq_true hb1); simp only [app_size, strOf_size, hexB_length, lst_len, q, c1, c4]; omega))) ?_
            refine g_u (s_as_imm rfl rfl) ?_
            refine g_nil ?_
            refine normal_blk ?_
            refine normal_thn ?_
            refine aw_region ?_
            refine g_u (s_mv_imm rfl rfl) ?_
            refine g_u (s_add rfl rfl rfl) ?_
            refine g_u (s_as_imm rfl rfl) ?_
            refine g_nil ?_
            refine normal_thn ?_
            change decide ((i : Int) < (s.size : Int)) = true at hb1
            have hi : i < s.size := by have := of_decide_eq_true hb1; omega
            obtain ⟨c, hc1, hc2⟩ := bAt_nat s i hi
            refine ⟨⟨i + 1, _⟩, ⟨hi, ?_⟩, ⟨rfl, rfl, look_int rfl (by rw [wrap64 (by omega) (by omega)]; rfl), trivial⟩, by dsimp only; omega⟩
            dsimp only at *
            rw [take_snoc hc1, escs_snoc, ← List.cons_append, ← h2, e2 hi, Int.toNat_natCast]
            simp only [beq_iff_eq, beq_eq_false_iff_ne, ne_eq, decide_eq_true_eq, decide_eq_false_iff_not] at *
            first | (exfalso; omega) | exact resc1 hc1 (.inl (by omega)) | exact resc1 hc1 (.inr (by omega)) | exact resc2 hc1 (by omega) (by omega) (by omega) | exact resc3 hc1 (by omega) (by omega) (by omega)
    · skip
      refine aw_exit ?_
      refine exit_thn ?_
      refine exit_thn ?_
      refine exit_blk ?_
      refine normal_thn ?_
      refine aw_seq ?_
      refine aw_region ?_
      refine g_u (s_mv_imm rfl rfl) ?_
      refine g_u (s_catS rfl rfl rfl (by show _ ≤ (9223372036854775807 : Int); (try dsimp only); first | (simp only [app_size, c0, c1, c4]; omega) | (have q := hx (of_decide_eq_true hb1); simp only [app_size, strOf_size, hexB_length, lst_len, q, c1, c4]; omega))) ?_
      refine g_u (s_as_imm rfl rfl) ?_
      refine g_nil ?_
      refine normal_thn ?_
      refine aw_ret ?_
      change decide ((i : Int) < (s.size : Int)) = false at hb1
      have hi : i = s.size := by have := of_decide_eq_false hb1; omega
      exact ⟨⟨(rfl : toAV (Al.look _ _) = some _).trans (congrArg (fun z => some (sv z)) (strOf_eq (by show lst (t ++ ⟨#[34]⟩) = _; rw [lst_app, h2, hi, List.take_of_length_le (Nat.le_of_eq hz)]; rfl))), rfl⟩, trivial⟩

set_option maxHeartbeats 400000 in
theorem rcomma_c (i : Nat) : PCall Tryz.prog Γ0 86 [iv (i : Int)] [sv (strOf (comma (i == 0)))] := by
  refine pcall_of Tryz.func86 rfl Tryz.ntmps86 (by kernel_rfl) rfl fun w0 I0 G0 => ?_
  refine aw_seq ?_
  refine aw_region ?_
  refine g_u (s_as_imm rfl rfl) ?_
  refine g_nil ?_
  refine normal_thn ?_
  refine aw_seq ?_
  refine aw_seq ?_
  refine aw_region ?_
  refine g_u (s_mv_imm rfl rfl) ?_
  refine g_u (s_eqI rfl rfl rfl) ?_
  refine g_nil ?_
  refine normal_thn ?_
  refine aw_cond rfl (fun hb1 => ?_) (fun hb1 => ?_)
  · skip
    refine aw_seq ?_
    refine aw_region ?_
    refine g_u (s_as_imm rfl rfl) ?_
    refine g_nil ?_
    refine normal_thn ?_
    refine aw_ret ?_
    refine ret_thn ?_
    exact ⟨⟨(rfl : toAV (Al.look _ _) = some _).trans (congrArg some (by (have e : i = 0 := (by have : (i : Int) = 0 := (by simpa using hb1); omega); rw [e]; rfl))), rfl⟩, trivial⟩
  · skip
    refine aw_skip ?_
    refine normal_thn ?_
    refine aw_seq ?_
    refine aw_region ?_
    refine g_u (s_as_imm rfl rfl) ?_
    refine g_nil ?_
    refine normal_thn ?_
    refine aw_ret ?_
    exact ⟨⟨(rfl : toAV (Al.look _ _) = some _).trans (congrArg some (by (have e : i ≠ 0 := (by have : (i : Int) ≠ 0 := (by simpa using hb1); omega); rw [show (i == 0) = false from by simpa using e]; rfl))), rfl⟩, trivial⟩

set_option maxHeartbeats 400000 in
theorem rsimple_c (v : GV) (ho : v.ok) (hw : v.wt ≤ 10000000) : PCall Tryz.prog Γ0 68 [v.av] [sv (strOf (simpB v))] := by
  have lv := len_wtVs v.list
  have la := len_wtAs v.map
  have ek := v.wt_eq
  have ok := v.ok_iff.1 ho
  have sl := simpB_length v
  have jl := json_len v
  refine pcall_of Tryz.func68 rfl Tryz.ntmps68 (by kernel_rfl) rfl fun w0 I0 G0 => ?_
  refine aw_seq ?_
  refine aw_region ?_
  refine g_uG (s_box_imm 1001 rfl rfl rfl rfl) rfl ?_
  refine g_u (s_as_imm rfl rfl) ?_
  refine g_nil ?_
  refine normal_thn ?_
  refine aw_seq ?_
  refine aw_seq ?_
  refine aw_region ?_
  refine g_u (s_fieldAddr rfl rfl fa48_0 rfl) ?_
  refine g_u (s_load_imm rfl rfl rfl tA5 tS5 rfl rfl) ?_
  refine g_u (s_eqI rfl rfl rfl) ?_
  refine g_nil ?_
  refine normal_thn ?_
  refine aw_cond rfl (fun hb1 => ?_) (fun hb1 => ?_)
  · skip
    refine aw_seq ?_
    refine aw_region ?_
    refine g_u (s_fieldAddr rfl rfl fa48_1 rfl) ?_
    refine g_u (s_load_imm rfl rfl rfl tA9 tS9 rfl rfl) ?_
    refine g_u (s_as_imm rfl rfl) ?_
    refine g_nil ?_
    refine normal_thn ?_
    refine aw_ret ?_
    refine ret_thn ?_
    exact ⟨⟨(rfl : toAV (Al.look _ _) = some _).trans (congrArg some (by (simp only [beq_iff_eq, beq_eq_false_iff_ne, ne_eq, decide_eq_true_eq, decide_eq_false_iff_not] at *; first | (exfalso; omega) | exact congrArg sv (simp1 (by omega)).symm | (rw [simp2 (by omega) (by omega)]; rfl) | (rw [simp2' (by omega) (by omega)]; rfl) | (rw [simp3 (by omega)]) | (rw [simp4 (by omega), lst_strOf]; rfl) | (rw [simp5 (by omega)]) | (rw [simp6 (by omega)]; rfl)))), rfl⟩, trivial⟩
  · skip
    refine aw_skip ?_
    refine normal_thn ?_
    refine aw_seq ?_
    refine aw_seq ?_
    refine aw_region ?_
    refine g_u (s_fieldAddr rfl rfl fa48_0 rfl) ?_
    refine g_u (s_load_imm rfl rfl rfl tA5 tS5 rfl rfl) ?_
    refine g_u (s_eqI rfl rfl rfl) ?_
    refine g_u (s_mv_imm rfl rfl) ?_
    refine g_case (t := 11) rfl ?_
    rintro (hb2 | hb2)
    · rw [hb2]
      refine g_run rfl rfl (s_fieldAddr rfl rfl fa48_2 rfl) ?_
      refine g_run rfl rfl (s_load_imm rfl rfl rfl tA3 tS3 rfl rfl) ?_
      refine g_run rfl rfl (s_eqI rfl rfl rfl) ?_
      refine g_u (s_pick_t rfl rfl rfl) ?_
      refine g_nil ?_
      refine normal_thn ?_
      refine aw_cond rfl (fun hb3 => ?_) (fun hb3 => ?_)
      · skip
        refine aw_seq ?_
        refine aw_region ?_
        refine g_u (s_as_imm rfl rfl) ?_
        refine g_nil ?_
        refine normal_thn ?_
        refine aw_ret ?_
        refine ret_thn ?_
        exact ⟨⟨(rfl : toAV (Al.look _ _) = some _).trans (congrArg some (by (simp only [beq_iff_eq, beq_eq_false_iff_ne, ne_eq, decide_eq_true_eq, decide_eq_false_iff_not] at *; first | (exfalso; omega) | exact congrArg sv (simp1 (by omega)).symm | (rw [simp2 (by omega) (by omega)]; rfl) | (rw [simp2' (by omega) (by omega)]; rfl) | (rw [simp3 (by omega)]) | (rw [simp4 (by omega), lst_strOf]; rfl) | (rw [simp5 (by omega)]) | (rw [simp6 (by omega)]; rfl)))), rfl⟩, trivial⟩
      · skip
        refine aw_skip ?_
        refine normal_thn ?_
        refine aw_seq ?_
        refine aw_seq ?_
        refine aw_region ?_
        refine g_u (s_fieldAddr rfl rfl fa48_0 rfl) ?_
        refine g_u (s_load_imm rfl rfl rfl tA5 tS5 rfl rfl) ?_
        refine g_u (s_eqI rfl rfl rfl) ?_
        refine g_nil ?_
        refine normal_thn ?_
        refine aw_cond rfl (fun hb4 => ?_) (fun hb4 => ?_)
        · skip
          refine aw_seq ?_
          refine aw_region ?_
          refine g_u (s_as_imm rfl rfl) ?_
          refine g_nil ?_
          refine normal_thn ?_
          refine aw_ret ?_
          refine ret_thn ?_
          exact ⟨⟨(rfl : toAV (Al.look _ _) = some _).trans (congrArg some (by (simp only [beq_iff_eq, beq_eq_false_iff_ne, ne_eq, decide_eq_true_eq, decide_eq_false_iff_not] at *; first | (exfalso; omega) | exact congrArg sv (simp1 (by omega)).symm | (rw [simp2 (by omega) (by omega)]; rfl) | (rw [simp2' (by omega) (by omega)]; rfl) | (rw [simp3 (by omega)]) | (rw [simp4 (by omega), lst_strOf]; rfl) | (rw [simp5 (by omega)]) | (rw [simp6 (by omega)]; rfl)))), rfl⟩, trivial⟩
        · skip
          refine aw_skip ?_
          refine normal_thn ?_
          refine aw_seq ?_
          refine aw_seq ?_
          refine aw_region ?_
          refine g_u (s_fieldAddr rfl rfl fa48_0 rfl) ?_
          refine g_u (s_load_imm rfl rfl rfl tA5 tS5 rfl rfl) ?_
          refine g_u (s_eqI rfl rfl rfl) ?_
          refine g_nil ?_
          refine normal_thn ?_
          refine aw_cond rfl (fun hb5 => ?_) (fun hb5 => ?_)
          · skip
            refine aw_seq ?_
            refine aw_region ?_
            refine g_u (s_fieldAddr rfl rfl fa48_2 rfl) ?_
            refine g_u (s_load_imm rfl rfl rfl tA3 tS3 rfl rfl) ?_
            refine g_u (s_call1 (rdec_c _ ok.2.2.1) rfl rfl) ?_
            refine g_u (s_as_imm rfl rfl) ?_
            refine g_nil ?_
            refine normal_thn ?_
            refine aw_ret ?_
            refine ret_thn ?_
            exact ⟨⟨(rfl : toAV (Al.look _ _) = some _).trans (congrArg some (by (simp only [beq_iff_eq, beq_eq_false_iff_ne, ne_eq, decide_eq_true_eq, decide_eq_false_iff_not] at *; first | (exfalso; omega) | exact congrArg sv (simp1 (by omega)).symm | (rw [simp2 (by omega) (by omega)]; rfl) | (rw [simp2' (by omega) (by omega)]; rfl) | (rw [simp3 (by omega)]) | (rw [simp4 (by omega), lst_strOf]; rfl) | (rw [simp5 (by omega)]) | (rw [simp6 (by omega)]; rfl)))), rfl⟩, trivial⟩
          · skip
            refine aw_skip ?_
            refine normal_thn ?_
            refine aw_seq ?_
            refine aw_seq ?_
            refine aw_region ?_
            refine g_u (s_fieldAddr rfl rfl fa48_0 rfl) ?_
            refine g_u (s_load_imm rfl rfl rfl tA5 tS5 rfl rfl) ?_
            refine g_u (s_eqI rfl rfl rfl) ?_
            refine g_nil ?_
            refine normal_thn ?_
            refine aw_cond rfl (fun hb6 => ?_) (fun hb6 => ?_)
            · skip
              refine aw_seq ?_
              refine aw_region ?_
              refine g_u (s_fieldAddr rfl rfl fa48_3 rfl) ?_
              refine g_u (s_load_imm rfl rfl rfl tA26 tS26 rfl rfl) ?_
              refine g_u (s_call1 (rhigh_c _ ok.2.2.2.1) rfl rfl) ?_
              refine g_u (s_call1 (rhex_c _ (by first | omega | (rw [strOf_size, be_length]; omega))) rfl rfl) ?_
              refine g_u (s_catS rfl rfl rfl (by show _ ≤ (9223372036854775807 : Int); simp only [strOf_size, hexB_length, lst_strOf, be_length]; first | omega | (show 2 + _ ≤ _; omega) | (have c1 : (ByteArray.mk #[48, 120]).size = 2 := rfl; omega))) ?_
              refine g_u (s_as_imm rfl rfl) ?_
              refine g_nil ?_
              refine normal_thn ?_
              refine aw_ret ?_
              refine ret_thn ?_
              exact ⟨⟨(rfl : toAV (Al.look _ _) = some _).trans (congrArg some (by (simp only [beq_iff_eq, beq_eq_false_iff_ne, ne_eq, decide_eq_true_eq, decide_eq_false_iff_not] at *; first | (exfalso; omega) | exact congrArg sv (simp1 (by omega)).symm | (rw [simp2 (by omega) (by omega)]; rfl) | (rw [simp2' (by omega) (by omega)]; rfl) | (rw [simp3 (by omega)]) | (rw [simp4 (by omega), lst_strOf]; rfl) | (rw [simp5 (by omega)]) | (rw [simp6 (by omega)]; rfl)))), rfl⟩, trivial⟩
            · skip
              refine aw_skip ?_
              refine normal_thn ?_
              refine aw_seq ?_
              refine aw_seq ?_
              refine aw_region ?_
              refine g_u (s_fieldAddr rfl rfl fa48_0 rfl) ?_
              refine g_u (s_load_imm rfl rfl rfl tA5 tS5 rfl rfl) ?_
              refine g_u (s_eqI rfl rfl rfl) ?_
              refine g_nil ?_
              refine normal_thn ?_
              refine aw_cond rfl (fun hb7 => ?_) (fun hb7 => ?_)
              · skip
                refine aw_seq ?_
                refine aw_region ?_
                refine g_u (s_fieldAddr rfl rfl fa48_1 rfl) ?_
                refine g_u (s_load_imm rfl rfl rfl tA9 tS9 rfl rfl) ?_
                refine g_u (s_call1 (rhex_c _ (by first | omega | (rw [strOf_size, be_length]; omega))) rfl rfl) ?_
                refine g_u (s_as_imm rfl rfl) ?_
                refine g_nil ?_
                refine normal_thn ?_
                refine aw_ret ?_
                refine ret_thn ?_
                exact ⟨⟨(rfl : toAV (Al.look _ _) = some _).trans (congrArg some (by (simp only [beq_iff_eq, beq_eq_false_iff_ne, ne_eq, decide_eq_true_eq, decide_eq_false_iff_not] at *; first | (exfalso; omega) | exact congrArg sv (simp1 (by omega)).symm | (rw [simp2 (by omega) (by omega)]; rfl) | (rw [simp2' (by omega) (by omega)]; rfl) | (rw [simp3 (by omega)]) | (rw [simp4 (by omega), lst_strOf]; rfl) | (rw [simp5 (by omega)]) | (rw [simp6 (by omega)]; rfl)))), rfl⟩, trivial⟩
              · skip
                refine aw_skip ?_
                refine normal_thn ?_
                refine aw_seq ?_
                refine aw_region ?_
                refine g_u (s_as_imm rfl rfl) ?_
                refine g_nil ?_
                refine normal_thn ?_
                refine aw_ret ?_
                exact ⟨⟨(rfl : toAV (Al.look _ _) = some _).trans (congrArg some (by (simp only [beq_iff_eq, beq_eq_false_iff_ne, ne_eq, decide_eq_true_eq, decide_eq_false_iff_not] at *; first | (exfalso; omega) | exact congrArg sv (simp1 (by omega)).symm | (rw [simp2 (by omega) (by omega)]; rfl) | (rw [simp2' (by omega) (by omega)]; rfl) | (rw [simp3 (by omega)]) | (rw [simp4 (by omega), lst_strOf]; rfl) | (rw [simp5 (by omega)]) | (rw [simp6 (by omega)]; rfl)))), rfl⟩, trivial⟩
    · rw [hb2]
      refine g_skip rfl rfl rfl ?_
      refine g_skip rfl rfl rfl ?_
      refine g_skip rfl rfl rfl ?_
      refine g_u (s_pick_f rfl rfl rfl) ?_
      refine g_nil ?_
      refine normal_thn ?_
      refine aw_cond_false rfl ?_
      refine aw_skip ?_
      refine normal_thn ?_
      refine aw_seq ?_
      refine aw_seq ?_
      refine aw_region ?_
      refine g_u (s_fieldAddr rfl rfl fa48_0 rfl) ?_
      refine g_u (s_load_imm rfl rfl rfl tA5 tS5 rfl rfl) ?_
      refine g_u (s_eqI rfl rfl rfl) ?_
      refine g_nil ?_
      refine normal_thn ?_
      refine aw_cond rfl (fun hb8 => ?_) (fun hb8 => ?_)
      · skip
        refine aw_seq ?_
        refine aw_region ?_
        refine g_u (s_as_imm rfl rfl) ?_
        refine g_nil ?_
        refine normal_thn ?_
        refine aw_ret ?_
        refine ret_thn ?_
        exact ⟨⟨(rfl : toAV (Al.look _ _) = some _).trans (congrArg some (by (simp only [beq_iff_eq, beq_eq_false_iff_ne, ne_eq, decide_eq_true_eq, decide_eq_false_iff_not] at *; first | (exfalso; omega) | exact congrArg sv (simp1 (by omega)).symm | (rw [simp2 (by omega) (by omega)]; rfl) | (rw [simp2' (by omega) (by omega)]; rfl) | (rw [simp3 (by omega)]) | (rw [simp4 (by omega), lst_strOf]; rfl) | (rw [simp5 (by omega)]) | (rw [simp6 (by omega)]; rfl)))), rfl⟩, trivial⟩
      · skip
        refine aw_skip ?_
        refine normal_thn ?_
        refine aw_seq ?_
        refine aw_seq ?_
        refine aw_region ?_
        refine g_u (s_fieldAddr rfl rfl fa48_0 rfl) ?_
        refine g_u (s_load_imm rfl rfl rfl tA5 tS5 rfl rfl) ?_
        refine g_u (s_eqI rfl rfl rfl) ?_
        refine g_nil ?_
        refine normal_thn ?_
        refine aw_cond rfl (fun hb9 => ?_) (fun hb9 => ?_)
        · skip
          refine aw_seq ?_
          refine aw_region ?_
          refine g_u (s_fieldAddr rfl rfl fa48_2 rfl) ?_
          refine g_u (s_load_imm rfl rfl rfl tA3 tS3 rfl rfl) ?_
          refine g_u (s_call1 (rdec_c _ ok.2.2.1) rfl rfl) ?_
          refine g_u (s_as_imm rfl rfl) ?_
          refine g_nil ?_
          refine normal_thn ?_
          refine aw_ret ?_
          refine ret_thn ?_
          exact ⟨⟨(rfl : toAV (Al.look _ _) = some _).trans (congrArg some (by (simp only [beq_iff_eq, beq_eq_false_iff_ne, ne_eq, decide_eq_true_eq, decide_eq_false_iff_not] at *; first | (exfalso; omega) | exact congrArg sv (simp1 (by omega)).symm | (rw [simp2 (by omega) (by omega)]; rfl) | (rw [simp2' (by omega) (by omega)]; rfl) | (rw [simp3 (by omega)]) | (rw [simp4 (by omega), lst_strOf]; rfl) | (rw [simp5 (by omega)]) | (rw [simp6 (by omega)]; rfl)))), rfl⟩, trivial⟩
        · skip
          refine aw_skip ?_
          refine normal_thn ?_
          refine aw_seq ?_
          refine aw_seq ?_
          refine aw_region ?_
          refine g_u (s_fieldAddr rfl rfl fa48_0 rfl) ?_
          refine g_u (s_load_imm rfl rfl rfl tA5 tS5 rfl rfl) ?_
          refine g_u (s_eqI rfl rfl rfl) ?_
          refine g_nil ?_
          refine normal_thn ?_
          refine aw_cond rfl (fun hb10 => ?_) (fun hb10 => ?_)
          · skip
            refine aw_seq ?_
            refine aw_region ?_
            refine g_u (s_fieldAddr rfl rfl fa48_3 rfl) ?_
            refine g_u (s_load_imm rfl rfl rfl tA26 tS26 rfl rfl) ?_
            refine g_u (s_call1 (rhigh_c _ ok.2.2.2.1) rfl rfl) ?_
            refine g_u (s_call1 (rhex_c _ (by first | omega | (rw [strOf_size, be_length]; omega))) rfl rfl) ?_
            refine g_u (s_catS rfl rfl rfl (by show _ ≤ (9223372036854775807 : Int); simp only [strOf_size, hexB_length, lst_strOf, be_length]; first | omega | (show 2 + _ ≤ _; omega) | (have c1 : (ByteArray.mk #[48, 120]).size = 2 := rfl; omega))) ?_
            refine g_u (s_as_imm rfl rfl) ?_
            refine g_nil ?_
            refine normal_thn ?_
            refine aw_ret ?_
            refine ret_thn ?_
            exact ⟨⟨(rfl : toAV (Al.look _ _) = some _).trans (congrArg some (by (simp only [beq_iff_eq, beq_eq_false_iff_ne, ne_eq, decide_eq_true_eq, decide_eq_false_iff_not] at *; first | (exfalso; omega) | exact congrArg sv (simp1 (by omega)).symm | (rw [simp2 (by omega) (by omega)]; rfl) | (rw [simp2' (by omega) (by omega)]; rfl) | (rw [simp3 (by omega)]) | (rw [simp4 (by omega), lst_strOf]; rfl) | (rw [simp5 (by omega)]) | (rw [simp6 (by omega)]; rfl)))), rfl⟩, trivial⟩
          · skip
            refine aw_skip ?_
            refine normal_thn ?_
            refine aw_seq ?_
            refine aw_seq ?_
            refine aw_region ?_
            refine g_u (s_fieldAddr rfl rfl fa48_0 rfl) ?_
            refine g_u (s_load_imm rfl rfl rfl tA5 tS5 rfl rfl) ?_
            refine g_u (s_eqI rfl rfl rfl) ?_
            refine g_nil ?_
            refine normal_thn ?_
            refine aw_cond rfl (fun hb11 => ?_) (fun hb11 => ?_)
            · skip
              refine aw_seq ?_
              refine aw_region ?_
              refine g_u (s_fieldAddr rfl rfl fa48_1 rfl) ?_
              refine g_u (s_load_imm rfl rfl rfl tA9 tS9 rfl rfl) ?_
              refine g_u (s_call1 (rhex_c _ (by first | omega | (rw [strOf_size, be_length]; omega))) rfl rfl) ?_
              refine g_u (s_as_imm rfl rfl) ?_
              refine g_nil ?_
              refine normal_thn ?_
              refine aw_ret ?_
              refine ret_thn ?_
              exact ⟨⟨(rfl : toAV (Al.look _ _) = some _).trans (congrArg some (by (simp only [beq_iff_eq, beq_eq_false_iff_ne, ne_eq, decide_eq_true_eq, decide_eq_false_iff_not] at *; first | (exfalso; omega) | exact congrArg sv (simp1 (by omega)).symm | (rw [simp2 (by omega) (by omega)]; rfl) | (rw [simp2' (by omega) (by omega)]; rfl) | (rw [simp3 (by omega)]) | (rw [simp4 (by omega), lst_strOf]; rfl) | (rw [simp5 (by omega)]) | (rw [simp6 (by omega)]; rfl)))), rfl⟩, trivial⟩
            · skip
              refine aw_skip ?_
              refine normal_thn ?_
              refine aw_seq ?_
              refine aw_region ?_
              refine g_u (s_as_imm rfl rfl) ?_
              refine g_nil ?_
              refine normal_thn ?_
              refine aw_ret ?_
              exact ⟨⟨(rfl : toAV (Al.look _ _) = some _).trans (congrArg some (by (simp only [beq_iff_eq, beq_eq_false_iff_ne, ne_eq, decide_eq_true_eq, decide_eq_false_iff_not] at *; first | (exfalso; omega) | exact congrArg sv (simp1 (by omega)).symm | (rw [simp2 (by omega) (by omega)]; rfl) | (rw [simp2' (by omega) (by omega)]; rfl) | (rw [simp3 (by omega)]) | (rw [simp4 (by omega), lst_strOf]; rfl) | (rw [simp5 (by omega)]) | (rw [simp6 (by omega)]; rfl)))), rfl⟩, trivial⟩

set_option maxHeartbeats 400000 in
theorem rjson_step (v : GV) (ho : v.ok) (hw : v.wt ≤ 10000000) (ih : ∀ y ∈ v.list, PCall Tryz.prog Γ0 67 [y.av] [sv (strOf (jsonB y))]) (ihm : ∀ a ∈ v.map, PCall Tryz.prog Γ0 67 [a.val.av] [sv (strOf (jsonB a.val))]) : PCall Tryz.prog Γ0 67 [v.av] [sv (strOf (jsonB v))] := by
  have lv := len_wtVs v.list
  have la := len_wtAs v.map
  have ek := v.wt_eq
  have ok := v.ok_iff.1 ho
  have sl := simpB_length v
  have jl := json_len v
  have c1 : (ByteArray.mk #[91]).size = 1 := rfl
  have c2 : (ByteArray.mk #[93]).size = 1 := rfl
  have c3 : (ByteArray.mk #[123]).size = 1 := rfl
  have c4 : (ByteArray.mk #[125]).size = 1 := rfl
  have c5 : (ByteArray.mk #[58]).size = 1 := rfl
  refine pcall_of Tryz.func67 rfl Tryz.ntmps67 (by kernel_rfl) rfl fun w0 I0 G0 => ?_
  refine aw_seq ?_
  refine aw_region ?_
  refine g_uG (s_box_imm 1001 rfl rfl rfl rfl) rfl ?_
  refine g_u (s_as_imm rfl rfl) ?_
  refine g_nil ?_
  refine normal_thn ?_
  refine aw_seq ?_
  refine aw_seq ?_
  refine aw_region ?_
  refine g_u (s_fieldAddr rfl rfl fa48_0 rfl) ?_
  refine g_u (s_load_imm rfl rfl rfl tA5 tS5 rfl rfl) ?_
  refine g_u (s_eqI rfl rfl rfl) ?_
  refine g_nil ?_
  refine normal_thn ?_
  refine aw_cond rfl (fun hb1 => ?_) (fun hb1 => ?_)
  · skip
    refine aw_seq ?_
    refine aw_region ?_
    refine g_u (s_as_imm rfl rfl) ?_
    refine g_nil ?_
    refine normal_thn ?_
    refine aw_ret ?_
    refine ret_thn ?_
    exact ⟨⟨(rfl : toAV (Al.look _ _) = some _).trans (congrArg some (by (simp only [beq_iff_eq, beq_eq_false_iff_ne, ne_eq, decide_eq_true_eq, decide_eq_false_iff_not] at *; rw [json0 (by omega)]; rfl))), rfl⟩, trivial⟩
  · skip
    refine aw_skip ?_
    refine normal_thn ?_
    refine aw_seq ?_
    refine aw_seq ?_
    refine aw_region ?_
    refine g_u (s_fieldAddr rfl rfl fa48_0 rfl) ?_
    refine g_u (s_load_imm rfl rfl rfl tA5 tS5 rfl rfl) ?_
    refine g_u (s_eqI rfl rfl rfl) ?_
    refine g_u (s_mv_imm rfl rfl) ?_
    refine g_case (t := 12) rfl ?_
    rintro (hb2 | hb2)
    · rw [hb2]
      refine g_skip rfl rfl rfl ?_
      refine g_skip rfl rfl rfl ?_
      refine g_skip rfl rfl rfl ?_
      refine g_u (s_pick_t rfl rfl rfl) ?_
      refine g_u (s_mv_imm rfl rfl) ?_
      refine g_skip rfl rfl rfl ?_
      refine g_skip rfl rfl rfl ?_
      refine g_skip rfl rfl rfl ?_
      refine g_u (s_pick_t rfl rfl rfl) ?_
      refine g_nil ?_
      refine normal_thn ?_
      refine aw_cond_true rfl ?_
      refine aw_seq ?_
      refine aw_region ?_
      refine g_u (s_load_imm rfl rfl rfl tA48 tS48 rfl rfl) ?_
      refine g_u (s_call1 (rsimple_c _ ho hw) rfl rfl) ?_
      refine g_u (s_call1 (rquote_c _ (by first | exact hka | (rw [strOf_size]; omega))) rfl rfl) ?_
      refine g_u (s_as_imm rfl rfl) ?_
      refine g_nil ?_
      refine normal_thn ?_
      refine aw_ret ?_
      refine ret_thn ?_
      exact ⟨⟨(rfl : toAV (Al.look _ _) = some _).trans (congrArg some (by (simp only [beq_iff_eq, beq_eq_false_iff_ne, ne_eq, decide_eq_true_eq, decide_eq_false_iff_not] at *; rw [jsonS (by omega)]; rw [lst_strOf]))), rfl⟩, trivial⟩
    · rw [hb2]
      refine g_run rfl rfl (s_fieldAddr rfl rfl fa48_0 rfl) ?_
      refine g_run rfl rfl (s_load_imm rfl rfl rfl tA5 tS5 rfl rfl) ?_
      refine g_run rfl rfl (s_eqI rfl rfl rfl) ?_
      refine g_u (s_pick_f rfl rfl rfl) ?_
      refine g_u (s_mv_imm rfl rfl) ?_
      refine g_case (t := 17) rfl ?_
      rintro (hb3 | hb3)
      · rw [hb3]
        refine g_skip rfl rfl rfl ?_
        refine g_skip rfl rfl rfl ?_
        refine g_skip rfl rfl rfl ?_
        refine g_u (s_pick_t rfl rfl rfl) ?_
        refine g_nil ?_
        refine normal_thn ?_
        refine aw_cond_true rfl ?_
        refine aw_seq ?_
        refine aw_region ?_
        refine g_u (s_load_imm rfl rfl rfl tA48 tS48 rfl rfl) ?_
        refine g_u (s_call1 (rsimple_c _ ho hw) rfl rfl) ?_
        refine g_u (s_call1 (rquote_c _ (by first | exact hka | (rw [strOf_size]; omega))) rfl rfl) ?_
        refine g_u (s_as_imm rfl rfl) ?_
        refine g_nil ?_
        refine normal_thn ?_
        refine aw_ret ?_
        refine ret_thn ?_
        exact ⟨⟨(rfl : toAV (Al.look _ _) = some _).trans (congrArg some (by (simp only [beq_iff_eq, beq_eq_false_iff_ne, ne_eq, decide_eq_true_eq, decide_eq_false_iff_not] at *; rw [jsonS (by omega)]; rw [lst_strOf]))), rfl⟩, trivial⟩
      · rw [hb3]
        refine g_run rfl rfl (s_fieldAddr rfl rfl fa48_0 rfl) ?_
        refine g_run rfl rfl (s_load_imm rfl rfl rfl tA5 tS5 rfl rfl) ?_
        refine g_run rfl rfl (s_eqI rfl rfl rfl) ?_
        refine g_u (s_pick_f rfl rfl rfl) ?_
        refine g_nil ?_
        refine normal_thn ?_
        refine aw_cond rfl (fun hb4 => ?_) (fun hb4 => ?_)
        · skip
          refine aw_seq ?_
          refine aw_region ?_
          refine g_u (s_load_imm rfl rfl rfl tA48 tS48 rfl rfl) ?_
          refine g_u (s_call1 (rsimple_c _ ho hw) rfl rfl) ?_
          refine g_u (s_call1 (rquote_c _ (by first | exact hka | (rw [strOf_size]; omega))) rfl rfl) ?_
          refine g_u (s_as_imm rfl rfl) ?_
          refine g_nil ?_
          refine normal_thn ?_
          refine aw_ret ?_
          refine ret_thn ?_
          exact ⟨⟨(rfl : toAV (Al.look _ _) = some _).trans (congrArg some (by (simp only [beq_iff_eq, beq_eq_false_iff_ne, ne_eq, decide_eq_true_eq, decide_eq_false_iff_not] at *; rw [jsonS (by omega)]; rw [lst_strOf]))), rfl⟩, trivial⟩
        · skip
          refine aw_skip ?_
          refine normal_thn ?_
          refine aw_seq ?_
          refine aw_region ?_
          refine g_u (s_as_imm rfl rfl) ?_
          refine g_nil ?_
          refine normal_thn ?_
          refine aw_seq ?_
          refine aw_seq ?_
          refine aw_region ?_
          refine g_u (s_fieldAddr rfl rfl fa48_0 rfl) ?_
          refine g_u (s_load_imm rfl rfl rfl tA5 tS5 rfl rfl) ?_
          refine g_u (s_eqI rfl rfl rfl) ?_
          refine g_nil ?_
          refine normal_thn ?_
          refine aw_cond rfl (fun hb5 => ?_) (fun hb5 => ?_)
          · skip
            refine aw_seq ?_
            refine aw_seq ?_
            refine aw_region ?_
            refine g_u (s_as_imm rfl rfl) ?_
            refine g_nil ?_
            refine normal_thn ?_
            refine aw_block ?_
            refine aw_loop' (fun j : Nat × ByteArray => [(1, .ptr 1001 0), (1001, .box 48 (.imm v.av)), (3, .imm (sv j.2)), (4, .imm (iv (j.1 : Int)))]) (fun j => j.1 ≤ v.list.length ∧ lst j.2 = jsonVs true (v.list.take j.1)) (fun j => v.list.length - j.1) (⟨0, ⟨#[]⟩⟩) ?_ ⟨rfl, rfl, rfl, rfl, trivial⟩ ?_
            · exact ⟨Nat.zero_le _, rfl⟩
            · rintro ⟨i, t⟩ ⟨h1, h2⟩; dsimp only at h1 h2; have hlen : t.size ≤ 150 * wtVs (v.list.take i) := by rw [← lst_len t, h2]; exact jsonVs_len _ _
              have htk := wtVs_take v.list i
              refine aw_seq ?_
              refine aw_seq ?_
              refine aw_region ?_
              refine g_u (s_mv_imm rfl rfl) ?_
              refine g_u (s_fieldAddr rfl rfl fa48_4 rfl) ?_
              refine g_u (s_load_imm rfl rfl rfl tA46 tS46 rfl rfl) ?_
              refine g_u (s_lenL rfl rfl Tryz.underlying46) ?_
              refine g_u (s_ltI rfl rfl rfl) ?_
              refine g_nil ?_
              refine normal_thn ?_
              refine aw_cond rfl (fun hb6 => ?_) (fun hb6 => ?_)
              · skip
                have hiv : i < v.list.length := by have := of_decide_eq_true hb6; simp only [List.length_map] at this; omega
                refine aw_skip ?_
                refine normal_thn ?_
                refine aw_seq ?_
                refine aw_block ?_
                refine aw_draw mixed ?_
                refine g_u (s_mv_imm rfl rfl) ?_
                refine g_u (s_mv_imm rfl rfl) ?_
                refine g_u (s_call1 (rcomma_c _) rfl rfl) ?_
                refine g_u (s_catS rfl rfl rfl (by show _ ≤ (9223372036854775807 : Int); (try dsimp only); first | (have q1 := wtVs_nth hiv; have q2 := json_len (nthV v.list i); have q3 := comma_length (i == 0); simp only [app_size, strOf_size, c1, c2, c3, c4, c5]; omega) | (have q1 := wtAs_nth hia; have q2 := jsonA_len (nthA v.map i); have q3 := comma_length (i == 0); have q4 := (nthA v.map i).wt_eq; have q5 := quoteB_length (lst (nthA v.map i).key); have q6 := lst_len (nthA v.map i).key; have q7 := json_len (nthA v.map i).val; simp only [app_size, strOf_size, c1, c2, c3, c4, c5]; omega) | (simp only [app_size, strOf_size, c1, c2, c3, c4, c5]; omega))) ?_
                refine g_u (s_fieldAddr rfl rfl fa48_4 rfl) ?_
                refine g_u (s_load_imm rfl rfl rfl tA46 tS46 rfl rfl) ?_
                refine g_u (s_mv_imm rfl rfl) ?_
                refine g_u (s_indexAddr rfl rfl rfl Tryz.underlying46 tS48 (by omega) (ixV hiv)) ?_
                refine g_u (s_load_cp rfl rfl tA48 tS48 rfl rfl) ?_
                refine g_u (s_call1 ((by first | exact ih _ (nthV_mem hiv) | exact ihm _ (nthA_mem hia))) rfl rfl) ?_
                refine g_u (s_catS rfl rfl rfl (by show _ ≤ (9223372036854775807 : Int); (try dsimp only); first | (have q1 := wtVs_nth hiv; have q2 := json_len (nthV v.list i); have q3 := comma_length (i == 0); simp only [app_size, strOf_size, c1, c2, c3, c4, c5]; omega) | (have q1 := wtAs_nth hia; have q2 := jsonA_len (nthA v.map i); have q3 := comma_length (i == 0); have q4 := (nthA v.map i).wt_eq; have q5 := quoteB_length (lst (nthA v.map i).key); have q6 := lst_len (nthA v.map i).key; have q7 := json_len (nthA v.map i).val; simp only [app_size, strOf_size, c1, c2, c3, c4, c5]; omega) | (simp only [app_size, strOf_size, c1, c2, c3, c4, c5]; omega))) ?_
                refine g_u (s_as_imm rfl rfl) ?_
                refine g_nil ⟨by kernel_rfl, ?_⟩
                refine normal_blk ?_
                refine normal_thn ?_
                refine aw_region ?_
                refine g_u (s_mv_imm rfl rfl) ?_
                refine g_u (s_add rfl rfl rfl) ?_
                refine g_u (s_as_imm rfl rfl) ?_
                refine g_nil ?_
                refine normal_thn ?_
                refine ⟨⟨i + 1, _⟩, ⟨hiv, ?_⟩, ⟨rfl, rfl, rfl, look_int rfl (by rw [wrap64 (by omega) (by omega)]; rfl), trivial⟩, by dsimp only; omega⟩
                show lst (t ++ strOf (comma (i == 0)) ++ strOf (jsonB (nthV v.list i))) = _
                rw [jsonVs_take hiv, lst_app, lst_app, lst_strOf, lst_strOf, h2]
              · skip
                have hi : i = v.list.length := by have := of_decide_eq_false hb6; simp only [List.length_map] at this; omega
                refine aw_exit ?_
                refine exit_thn ?_
                refine exit_thn ?_
                refine exit_blk ?_
                refine normal_thn ?_
                refine aw_seq ?_
                refine aw_region ?_
                refine g_u (s_mv_imm rfl rfl) ?_
                refine g_u (s_catS rfl rfl rfl (by show _ ≤ (9223372036854775807 : Int); (try dsimp only); first | (have q1 := wtVs_nth hiv; have q2 := json_len (nthV v.list i); have q3 := comma_length (i == 0); simp only [app_size, strOf_size, c1, c2, c3, c4, c5]; omega) | (have q1 := wtAs_nth hia; have q2 := jsonA_len (nthA v.map i); have q3 := comma_length (i == 0); have q4 := (nthA v.map i).wt_eq; have q5 := quoteB_length (lst (nthA v.map i).key); have q6 := lst_len (nthA v.map i).key; have q7 := json_len (nthA v.map i).val; simp only [app_size, strOf_size, c1, c2, c3, c4, c5]; omega) | (simp only [app_size, strOf_size, c1, c2, c3, c4, c5]; omega))) ?_
                refine g_u (s_catS rfl rfl rfl (by show _ ≤ (9223372036854775807 : Int); (try dsimp only); first | (have q1 := wtVs_nth hiv; have q2 := json_len (nthV v.list i); have q3 := comma_length (i == 0); simp only [app_size, strOf_size, c1, c2, c3, c4, c5]; omega) | (have q1 := wtAs_nth hia; have q2 := jsonA_len (nthA v.map i); have q3 := comma_length (i == 0); have q4 := (nthA v.map i).wt_eq; have q5 := quoteB_length (lst (nthA v.map i).key); have q6 := lst_len (nthA v.map i).key; have q7 := json_len (nthA v.map i).val; simp only [app_size, strOf_size, c1, c2, c3, c4, c5]; omega) | (simp only [app_size, strOf_size, c1, c2, c3, c4, c5]; omega))) ?_
                refine g_u (s_as_imm rfl rfl) ?_
                refine g_nil ?_
                refine normal_thn ?_
                refine aw_ret ?_
                refine ret_thn ?_
                exact ⟨⟨(rfl : toAV (Al.look _ _) = some _).trans (congrArg some (by (simp only [beq_iff_eq, beq_eq_false_iff_ne, ne_eq, decide_eq_true_eq, decide_eq_false_iff_not] at *; rw [json6 (by omega)]; refine congrArg sv (strOf_eq ?_); show lst (⟨#[91]⟩ ++ t ++ ⟨#[93]⟩) = _; rw [lst_app, lst_app, h2, hi, List.take_of_length_le (Nat.le_refl _)]; rfl))), rfl⟩, trivial⟩
          · skip
            refine aw_skip ?_
            refine normal_thn ?_
            refine aw_seq ?_
            refine aw_seq ?_
            refine aw_region ?_
            refine g_u (s_fieldAddr rfl rfl fa48_0 rfl) ?_
            refine g_u (s_load_imm rfl rfl rfl tA5 tS5 rfl rfl) ?_
            refine g_u (s_eqI rfl rfl rfl) ?_
            refine g_nil ?_
            refine normal_thn ?_
            refine aw_cond rfl (fun hb7 => ?_) (fun hb7 => ?_)
            · skip
              refine aw_seq ?_
              refine aw_seq ?_
              refine aw_region ?_
              refine g_u (s_as_imm rfl rfl) ?_
              refine g_nil ?_
              refine normal_thn ?_
              refine aw_block ?_
              refine aw_loop' (fun j : Nat × ByteArray => [(1, .ptr 1001 0), (1001, .box 48 (.imm v.av)), (3, .imm (sv j.2)), (5, .imm (iv (j.1 : Int)))]) (fun j => j.1 ≤ v.map.length ∧ lst j.2 = jsonAs true (v.map.take j.1)) (fun j => v.map.length - j.1) (⟨0, ⟨#[]⟩⟩) ?_ ⟨rfl, rfl, rfl, rfl, trivial⟩ ?_
              · exact ⟨Nat.zero_le _, rfl⟩
              · rintro ⟨i, t⟩ ⟨h1, h2⟩; dsimp only at h1 h2; have hlen : t.size ≤ 150 * wtAs (v.map.take i) := by rw [← lst_len t, h2]; exact jsonAs_len _ _
                have htk := wtAs_take v.map i
                refine aw_seq ?_
                refine aw_seq ?_
                refine aw_region ?_
                refine g_u (s_mv_imm rfl rfl) ?_
                refine g_u (s_fieldAddr rfl rfl fa48_5 rfl) ?_
                refine g_u (s_load_imm rfl rfl rfl tA27 tS27 rfl rfl) ?_
                refine g_u (s_lenL rfl rfl Tryz.underlying27) ?_
                refine g_u (s_ltI rfl rfl rfl) ?_
                refine g_nil ?_
                refine normal_thn ?_
                refine aw_cond rfl (fun hb8 => ?_) (fun hb8 => ?_)
                · skip
                  have hia : i < v.map.length := by have := of_decide_eq_true hb8; simp only [List.length_map] at this; omega
                  have hka : (nthA v.map i).key.size ≤ 100000000000 := by have q1 := wtAs_nth hia; have q4 := (nthA v.map i).wt_eq; omega
                  refine aw_skip ?_
                  refine normal_thn ?_
                  refine aw_seq ?_
                  refine aw_block ?_
                  refine aw_draw mixed ?_
                  refine g_u (s_mv_imm rfl rfl) ?_
                  refine g_u (s_mv_imm rfl rfl) ?_
                  refine g_u (s_call1 (rcomma_c _) rfl rfl) ?_
                  refine g_u (s_catS rfl rfl rfl (by show _ ≤ (9223372036854775807 : Int); (try dsimp only); first | (have q1 := wtVs_nth hiv; have q2 := json_len (nthV v.list i); have q3 := comma_length (i == 0); simp only [app_size, strOf_size, c1, c2, c3, c4, c5]; omega) | (have q1 := wtAs_nth hia; have q2 := jsonA_len (nthA v.map i); have q3 := comma_length (i == 0); have q4 := (nthA v.map i).wt_eq; have q5 := quoteB_length (lst (nthA v.map i).key); have q6 := lst_len (nthA v.map i).key; have q7 := json_len (nthA v.map i).val; simp only [app_size, strOf_size, c1, c2, c3, c4, c5]; omega) | (simp only [app_size, strOf_size, c1, c2, c3, c4, c5]; omega))) ?_
                  refine g_u (s_fieldAddr rfl rfl fa48_5 rfl) ?_
                  refine g_u (s_load_imm rfl rfl rfl tA27 tS27 rfl rfl) ?_
                  refine g_u (s_mv_imm rfl rfl) ?_
                  refine g_u (s_indexAddr rfl rfl rfl Tryz.underlying27 tS50 (by omega) (ixA hia)) ?_
                  refine g_u (s_fieldAddr_cp rfl rfl fa50_0 rfl rfl) ?_
                  refine g_u (s_load_cp rfl rfl tA9 tS9 rfl rfl) ?_
                  refine g_u (s_call1 (rquote_c _ (by first | exact hka | (rw [strOf_size]; omega))) rfl rfl) ?_
                  refine g_u (s_catS rfl rfl rfl (by show _ ≤ (9223372036854775807 : Int); (try dsimp only); first | (have q1 := wtVs_nth hiv; have q2 := json_len (nthV v.list i); have q3 := comma_length (i == 0); simp only [app_size, strOf_size, c1, c2, c3, c4, c5]; omega) | (have q1 := wtAs_nth hia; have q2 := jsonA_len (nthA v.map i); have q3 := comma_length (i == 0); have q4 := (nthA v.map i).wt_eq; have q5 := quoteB_length (lst (nthA v.map i).key); have q6 := lst_len (nthA v.map i).key; have q7 := json_len (nthA v.map i).val; simp only [app_size, strOf_size, c1, c2, c3, c4, c5]; omega) | (simp only [app_size, strOf_size, c1, c2, c3, c4, c5]; omega))) ?_
                  refine g_u (s_catS rfl rfl rfl (by show _ ≤ (9223372036854775807 : Int); (try dsimp only); first | (have q1 := wtVs_nth hiv; have q2 := json_len (nthV v.list i); have q3 := comma_length (i == 0); simp only [app_size, strOf_size, c1, c2, c3, c4, c5]; omega) | (have q1 := wtAs_nth hia; have q2 := jsonA_len (nthA v.map i); have q3 := comma_length (i == 0); have q4 := (nthA v.map i).wt_eq; have q5 := quoteB_length (lst (nthA v.map i).key); have q6 := lst_len (nthA v.map i).key; have q7 := json_len (nthA v.map i).val; simp only [app_size, strOf_size, c1, c2, c3, c4, c5]; omega) | (simp only [app_size, strOf_size, c1, c2, c3, c4, c5]; omega))) ?_
                  refine g_u (s_fieldAddr rfl rfl fa48_5 rfl) ?_
                  refine g_u (s_load_imm rfl rfl rfl tA27 tS27 rfl rfl) ?_
                  refine g_u (s_mv_imm rfl rfl) ?_
                  refine g_u (s_indexAddr rfl rfl rfl Tryz.underlying27 tS50 (by omega) (ixA hia)) ?_
                  refine g_u (s_fieldAddr_cp rfl rfl fa50_1 rfl rfl) ?_
                  refine g_u (s_load_cp rfl rfl tA48 tS48 rfl rfl) ?_
                  refine g_u (s_call1 ((by first | exact ih _ (nthV_mem hiv) | exact ihm _ (nthA_mem hia))) rfl rfl) ?_
                  refine g_u (s_catS rfl rfl rfl (by show _ ≤ (9223372036854775807 : Int); (try dsimp only); first | (have q1 := wtVs_nth hiv; have q2 := json_len (nthV v.list i); have q3 := comma_length (i == 0); simp only [app_size, strOf_size, c1, c2, c3, c4, c5]; omega) | (have q1 := wtAs_nth hia; have q2 := jsonA_len (nthA v.map i); have q3 := comma_length (i == 0); have q4 := (nthA v.map i).wt_eq; have q5 := quoteB_length (lst (nthA v.map i).key); have q6 := lst_len (nthA v.map i).key; have q7 := json_len (nthA v.map i).val; simp only [app_size, strOf_size, c1, c2, c3, c4, c5]; omega) | (simp only [app_size, strOf_size, c1, c2, c3, c4, c5]; omega))) ?_
                  refine g_u (s_as_imm rfl rfl) ?_
                  refine g_nil ⟨by kernel_rfl, ?_⟩
                  refine normal_blk ?_
                  refine normal_thn ?_
                  refine aw_region ?_
                  refine g_u (s_mv_imm rfl rfl) ?_
                  refine g_u (s_add rfl rfl rfl) ?_
                  refine g_u (s_as_imm rfl rfl) ?_
                  refine g_nil ?_
                  refine normal_thn ?_
                  refine ⟨⟨i + 1, _⟩, ⟨hia, ?_⟩, ⟨rfl, rfl, rfl, look_int rfl (by rw [wrap64 (by omega) (by omega)]; rfl), trivial⟩, by dsimp only; omega⟩
                  show lst (t ++ strOf (comma (i == 0)) ++ strOf (quoteB (lst (nthA v.map i).key)) ++ ⟨#[58]⟩ ++ strOf (jsonB (nthA v.map i).val)) = _
                  rw [jsonAs_take hia, jsonA_eq, lst_app, lst_app, lst_app, lst_app, lst_strOf, lst_strOf, lst_strOf, h2]
                  simp only [List.append_assoc]
                  rfl
                · skip
                  have hi : i = v.map.length := by have := of_decide_eq_false hb8; simp only [List.length_map] at this; omega
                  refine aw_exit ?_
                  refine exit_thn ?_
                  refine exit_thn ?_
                  refine exit_blk ?_
                  refine normal_thn ?_
                  refine aw_seq ?_
                  refine aw_region ?_
                  refine g_u (s_mv_imm rfl rfl) ?_
                  refine g_u (s_catS rfl rfl rfl (by show _ ≤ (9223372036854775807 : Int); (try dsimp only); first | (have q1 := wtVs_nth hiv; have q2 := json_len (nthV v.list i); have q3 := comma_length (i == 0); simp only [app_size, strOf_size, c1, c2, c3, c4, c5]; omega) | (have q1 := wtAs_nth hia; have q2 := jsonA_len (nthA v.map i); have q3 := comma_length (i == 0); have q4 := (nthA v.map i).wt_eq; have q5 := quoteB_length (lst (nthA v.map i).key); have q6 := lst_len (nthA v.map i).key; have q7 := json_len (nthA v.map i).val; simp only [app_size, strOf_size, c1, c2, c3, c4, c5]; omega) | (simp only [app_size, strOf_size, c1, c2, c3, c4, c5]; omega))) ?_
                  refine g_u (s_catS rfl rfl rfl (by show _ ≤ (9223372036854775807 : Int); (try dsimp only); first | (have q1 := wtVs_nth hiv; have q2 := json_len (nthV v.list i); have q3 := comma_length (i == 0); simp only [app_size, strOf_size, c1, c2, c3, c4, c5]; omega) | (have q1 := wtAs_nth hia; have q2 := jsonA_len (nthA v.map i); have q3 := comma_length (i == 0); have q4 := (nthA v.map i).wt_eq; have q5 := quoteB_length (lst (nthA v.map i).key); have q6 := lst_len (nthA v.map i).key; have q7 := json_len (nthA v.map i).val; simp only [app_size, strOf_size, c1, c2, c3, c4, c5]; omega) | (simp only [app_size, strOf_size, c1, c2, c3, c4, c5]; omega))) ?_
                  refine g_u (s_as_imm rfl rfl) ?_
                  refine g_nil ?_
                  refine normal_thn ?_
                  refine aw_ret ?_
                  refine ret_thn ?_
                  exact ⟨⟨(rfl : toAV (Al.look _ _) = some _).trans (congrArg some (by (simp only [beq_iff_eq, beq_eq_false_iff_ne, ne_eq, decide_eq_true_eq, decide_eq_false_iff_not] at *; rw [json7 (by omega)]; refine congrArg sv (strOf_eq ?_); show lst (⟨#[123]⟩ ++ t ++ ⟨#[125]⟩) = _; rw [lst_app, lst_app, h2, hi, List.take_of_length_le (Nat.le_refl _)]; rfl))), rfl⟩, trivial⟩
            · skip
              refine aw_skip ?_
              refine normal_thn ?_
              refine aw_seq ?_
              refine aw_region ?_
              refine g_u (s_load_imm rfl rfl rfl tA48 tS48 rfl rfl) ?_
              refine g_u (s_call1 (rsimple_c _ ho hw) rfl rfl) ?_
              refine g_u (s_as_imm rfl rfl) ?_
              refine g_nil ?_
              refine normal_thn ?_
              refine aw_ret ?_
              exact ⟨⟨(rfl : toAV (Al.look _ _) = some _).trans (congrArg some (by (simp only [beq_iff_eq, beq_eq_false_iff_ne, ne_eq, decide_eq_true_eq, decide_eq_false_iff_not] at *; rw [jsonE (by omega)]))), rfl⟩, trivial⟩

theorem rjson_c (v : GV) : v.ok → v.wt ≤ 10000000 → PCall Tryz.prog Γ0 67 [v.av] [sv (strOf (jsonB v))] := by
  refine GV.ind (P := fun v => v.ok → v.wt ≤ 10000000 → PCall Tryz.prog Γ0 67 [v.av] [sv (strOf (jsonB v))]) ?_ v
  intro v h1 h2 ho hw
  have ok := v.ok_iff.1 ho
  have ek := v.wt_eq
  refine rjson_step v ho hw (fun y hy => h1 y hy (ok.2.2.2.2.1 y hy) ?_) (fun a ha => h2 a ha ((GA.ok_iff a).1 (ok.2.2.2.2.2 a ha)).2 ?_)
  · have := wtVs_mem hy; omega
  · have := wtAs_mem ha; have := a.wt_eq; omega

set_option maxHeartbeats 400000 in
theorem rtext_c (v : GV) (ho : v.ok) (hw : v.wt ≤ 10000000) : PCall Tryz.prog Γ0 53 [v.av] [sv (textM v)] := by
  refine pcall_of Tryz.func53 rfl Tryz.ntmps53 (by kernel_rfl) rfl fun w0 I0 G0 => ?_
  refine aw_seq ?_
  refine aw_region ?_
  refine g_uG (s_box_imm 1001 rfl rfl rfl rfl) rfl ?_
  refine g_u (s_as_imm rfl rfl) ?_
  refine g_nil ?_
  refine normal_thn ?_
  refine aw_seq ?_
  refine aw_seq ?_
  refine aw_region ?_
  refine g_u (s_fieldAddr rfl rfl fa48_0 rfl) ?_
  refine g_u (s_load_imm rfl rfl rfl tA5 tS5 rfl rfl) ?_
  refine g_u (s_eqI rfl rfl rfl) ?_
  refine g_u (s_mv_imm rfl rfl) ?_
  refine g_case (t := 6) rfl ?_
  rintro (hb1 | hb1)
  · rw [hb1]
    refine g_skip rfl rfl rfl ?_
    refine g_skip rfl rfl rfl ?_
    refine g_skip rfl rfl rfl ?_
    refine g_u (s_pick_t rfl rfl rfl) ?_
    refine g_nil ?_
    refine normal_thn ?_
    refine aw_cond_true rfl ?_
    refine aw_seq ?_
    refine aw_region ?_
    refine g_u (s_load_imm rfl rfl rfl tA48 tS48 rfl rfl) ?_
    refine g_u (s_call1 (rjson_c v ho hw) rfl rfl) ?_
    refine g_u (s_as_imm rfl rfl) ?_
    refine g_nil ?_
    refine normal_thn ?_
    refine aw_ret ?_
    refine ret_thn ?_
    exact ⟨⟨(rfl : toAV (Al.look _ _) = some _).trans (congrArg some (by (simp only [beq_iff_eq, beq_eq_false_iff_ne, ne_eq, decide_eq_true_eq, decide_eq_false_iff_not] at *; first | rw [text6 (by omega)] | rw [textE (by omega)]))), rfl⟩, trivial⟩
  · rw [hb1]
    refine g_run rfl rfl (s_fieldAddr rfl rfl fa48_0 rfl) ?_
    refine g_run rfl rfl (s_load_imm rfl rfl rfl tA5 tS5 rfl rfl) ?_
    refine g_run rfl rfl (s_eqI rfl rfl rfl) ?_
    refine g_u (s_pick_f rfl rfl rfl) ?_
    refine g_nil ?_
    refine normal_thn ?_
    refine aw_cond rfl (fun hb2 => ?_) (fun hb2 => ?_)
    · skip
      refine aw_seq ?_
      refine aw_region ?_
      refine g_u (s_load_imm rfl rfl rfl tA48 tS48 rfl rfl) ?_
      refine g_u (s_call1 (rjson_c v ho hw) rfl rfl) ?_
      refine g_u (s_as_imm rfl rfl) ?_
      refine g_nil ?_
      refine normal_thn ?_
      refine aw_ret ?_
      refine ret_thn ?_
      exact ⟨⟨(rfl : toAV (Al.look _ _) = some _).trans (congrArg some (by (simp only [beq_iff_eq, beq_eq_false_iff_ne, ne_eq, decide_eq_true_eq, decide_eq_false_iff_not] at *; first | rw [text6 (by omega)] | rw [textE (by omega)]))), rfl⟩, trivial⟩
    · skip
      refine aw_skip ?_
      refine normal_thn ?_
      refine aw_seq ?_
      refine aw_region ?_
      refine g_u (s_load_imm rfl rfl rfl tA48 tS48 rfl rfl) ?_
      refine g_u (s_call1 (rsimple_c _ ho hw) rfl rfl) ?_
      refine g_u (s_as_imm rfl rfl) ?_
      refine g_nil ?_
      refine normal_thn ?_
      refine aw_ret ?_
      exact ⟨⟨(rfl : toAV (Al.look _ _) = some _).trans (congrArg some (by (simp only [beq_iff_eq, beq_eq_false_iff_ne, ne_eq, decide_eq_true_eq, decide_eq_false_iff_not] at *; first | rw [text6 (by omega)] | rw [textE (by omega)]))), rfl⟩, trivial⟩


end Go.Proofs

namespace Go.Proofs
open Go Go.Al
set_option maxRecDepth 10000
def truthB (n : Int) : Bs := if n = 0 then [102, 97, 108, 115, 101] else [116, 114, 117, 101]
def thingM (v : GV) : AV :=
  if v.kind = 0 then .ifc 89 (sv (strOf [110, 117, 108, 108]))
  else if v.kind = 1 then .ifc 88 (sv v.text)
  else if v.kind = 2 then .ifc 89 (sv (strOf (truthB v.num)))
  else if v.kind = 3 then .ifc 89 (sv (strOf (decB v.num)))
  else if v.kind = 4 then .ifc 88 (sv (strOf (48 :: 120 :: hexB (be 8 v.bits.toNat))))
  else if v.kind = 5 then .ifc 88 (sv (strOf (hexB (lst v.text))))
  else if v.kind = 6 then .ifc 103 (.sl 6 (v.list.map avV))
  else if v.kind = 7 then .ifc 104 (.sl 7 (v.map.map avA))
  else .ifc 89 (sv ⟨#[]⟩)

set_option maxHeartbeats 400000 in
theorem truth_c (n : Int) : PCall Tryz.prog Γ0 79 [iv n] [sv (strOf (truthB n))] := by
  refine pcall_of Tryz.func79 rfl Tryz.ntmps79 (by kernel_rfl) rfl fun w0 I0 G0 => ?_
  refine aw_seq ?_
  refine aw_region ?_
  refine g_u (s_as_imm rfl rfl) ?_
  refine g_nil ?_
  refine normal_thn ?_
  refine aw_seq ?_
  refine aw_seq ?_
  refine aw_region ?_
  refine g_u (s_mv_imm rfl rfl) ?_
  refine g_u (s_neI rfl rfl rfl) ?_
  refine g_nil ?_
  refine normal_thn ?_
  refine aw_cond rfl (fun hb1 => ?_) (fun hb1 => ?_)
  · skip
    refine aw_seq ?_
    refine aw_region ?_
    refine g_u (s_as_imm rfl rfl) ?_
    refine g_nil ?_
    refine normal_thn ?_
    refine aw_ret ?_
    refine ret_thn ?_
    exact ⟨⟨(rfl : toAV (Al.look _ _) = some _).trans (congrArg some (by (unfold truthB; first | (rw [if_neg (by simpa using hb1)]; rfl) | (rw [if_pos (by simpa using hb1)]; rfl)))), rfl⟩, trivial⟩
  · skip
    refine aw_skip ?_
    refine normal_thn ?_
    refine aw_seq ?_
    refine aw_region ?_
    refine g_u (s_as_imm rfl rfl) ?_
    refine g_nil ?_
    refine normal_thn ?_
    refine aw_ret ?_
    exact ⟨⟨(rfl : toAV (Al.look _ _) = some _).trans (congrArg some (by (unfold truthB; first | (rw [if_neg (by simpa using hb1)]; rfl) | (rw [if_pos (by simpa using hb1)]; rfl)))), rfl⟩, trivial⟩

set_option maxHeartbeats 400000 in
theorem double_c (u : Int) (h : 0 ≤ u ∧ u < 18446744073709551616) : PCall Tryz.prog Γ0 81 [uv u] [sv (strOf (48 :: 120 :: hexB (be 8 u.toNat)))] := by
  have c1 : (ByteArray.mk #[48, 120]).size = 2 := rfl
  refine pcall_of Tryz.func81 rfl Tryz.ntmps81 (by kernel_rfl) rfl fun w0 I0 G0 => ?_
  refine aw_seq ?_
  refine aw_region ?_
  refine g_u (s_as_imm rfl rfl) ?_
  refine g_nil ?_
  refine normal_thn ?_
  refine aw_seq ?_
  refine aw_region ?_
  refine g_u (s_mv_imm rfl rfl) ?_
  refine g_u (s_call1 (nil1 (n := 1) (high_c [] u h (by simp))) rfl rfl) ?_
  refine g_u (s_cvBS' (rfl) rfl rfl Tryz.underlying99 Tryz.underlying9 Tryz.underlying5) ?_
  refine g_u (s_call1 (htext_c _ (by rw [strOf_size]; simp only [List.nil_append, be_length]; omega)) rfl rfl) ?_
  refine g_u (s_catS rfl rfl rfl (by show _ ≤ (9223372036854775807 : Int); simp only [strOf_size, hexB_length, lst_strOf, List.nil_append, be_length, c1]; omega)) ?_
  refine g_u (s_as_imm rfl rfl) ?_
  refine g_nil ?_
  refine normal_thn ?_
  refine aw_ret ?_
  exact ⟨⟨(rfl : toAV (Al.look _ _) = some _).trans (congrArg some (by (rw [lst_strOf]; rfl))), rfl⟩, trivial⟩

set_option maxHeartbeats 400000 in
theorem thing_c (v : GV) (ho : v.ok) (hw : v.wt ≤ 10000000) : PCall Tryz.prog Γ0 63 [v.av] [thingM v] := by
  have lv := len_wtVs v.list
  have la := len_wtAs v.map
  have ek := v.wt_eq
  have ok := v.ok_iff.1 ho
  have sl := simpB_length v
  have jl := json_len v
  refine pcall_of Tryz.func63 rfl Tryz.ntmps63 (by kernel_rfl) rfl fun w0 I0 G0 => ?_
  refine aw_seq ?_
  refine aw_region ?_
  refine g_uG (s_box_imm 1001 rfl rfl rfl rfl) rfl ?_
  refine g_u (s_as_imm rfl rfl) ?_
  refine g_nil ?_
  refine normal_thn ?_
  refine aw_seq ?_
  refine aw_seq ?_
  refine aw_region ?_
  refine g_u (s_fieldAddr rfl rfl fa48_0 rfl) ?_
  refine g_u (s_load_imm rfl rfl rfl tA5 tS5 rfl rfl) ?_
  refine g_nil ?_
  refine normal_thn ?_
  refine aw_block ?_
  refine aw_seq ?_
  refine aw_region ?_
  refine g_u (s_eqI rfl rfl rfl) ?_
  refine g_u (s_as_imm rfl rfl) ?_
  refine g_nil ?_
  refine normal_thn ?_
  refine aw_cond rfl (fun hb1 => ?_) (fun hb1 => ?_)
  · skip
    refine aw_seq ?_
    refine aw_region ?_
    refine g_u (s_makeIface rfl rfl nI89) ?_
    refine g_u (s_as_imm rfl rfl) ?_
    refine g_nil ?_
    refine normal_thn ?_
    refine aw_ret ?_
    refine ret_blk ?_
    refine ret_thn ?_
    exact ⟨⟨(rfl : toAV (Al.look _ _) = some _).trans (congrArg some (by (simp only [beq_iff_eq, beq_eq_false_iff_ne, ne_eq, decide_eq_true_eq, decide_eq_false_iff_not] at *; unfold thingM; (repeat (first | rw [if_pos (by omega)] | rw [if_neg (by omega)])); (first | done | rfl)))), rfl⟩, trivial⟩
  · skip
    refine aw_seq ?_
    refine aw_region ?_
    refine g_u (s_eqI rfl rfl rfl) ?_
    refine g_u (s_as_imm rfl rfl) ?_
    refine g_nil ?_
    refine normal_thn ?_
    refine aw_cond rfl (fun hb2 => ?_) (fun hb2 => ?_)
    · skip
      refine aw_seq ?_
      refine aw_region ?_
      refine g_u (s_fieldAddr rfl rfl fa48_1 rfl) ?_
      refine g_u (s_load_imm rfl rfl rfl tA9 tS9 rfl rfl) ?_
      refine g_u (s_makeIface rfl rfl nI88) ?_
      refine g_u (s_as_imm rfl rfl) ?_
      refine g_nil ?_
      refine normal_thn ?_
      refine aw_ret ?_
      refine ret_blk ?_
      refine ret_thn ?_
      exact ⟨⟨(rfl : toAV (Al.look _ _) = some _).trans (congrArg some (by (simp only [beq_iff_eq, beq_eq_false_iff_ne, ne_eq, decide_eq_true_eq, decide_eq_false_iff_not] at *; unfold thingM; (repeat (first | rw [if_pos (by omega)] | rw [if_neg (by omega)])); (first | done | rfl)))), rfl⟩, trivial⟩
    · skip
      refine aw_seq ?_
      refine aw_region ?_
      refine g_u (s_eqI rfl rfl rfl) ?_
      refine g_u (s_as_imm rfl rfl) ?_
      refine g_nil ?_
      refine normal_thn ?_
      refine aw_cond rfl (fun hb3 => ?_) (fun hb3 => ?_)
      · skip
        refine aw_seq ?_
        refine aw_region ?_
        refine g_u (s_fieldAddr rfl rfl fa48_2 rfl) ?_
        refine g_u (s_load_imm rfl rfl rfl tA3 tS3 rfl rfl) ?_
        refine g_u (s_call1 (truth_c _) rfl rfl) ?_
        refine g_u (s_makeIface rfl rfl nI89) ?_
        refine g_u (s_as_imm rfl rfl) ?_
        refine g_nil ?_
        refine normal_thn ?_
        refine aw_ret ?_
        refine ret_blk ?_
        refine ret_thn ?_
        exact ⟨⟨(rfl : toAV (Al.look _ _) = some _).trans (congrArg some (by (simp only [beq_iff_eq, beq_eq_false_iff_ne, ne_eq, decide_eq_true_eq, decide_eq_false_iff_not] at *; unfold thingM; (repeat (first | rw [if_pos (by omega)] | rw [if_neg (by omega)])); (first | done | rfl)))), rfl⟩, trivial⟩
      · skip
        refine aw_seq ?_
        refine aw_region ?_
        refine g_u (s_eqI rfl rfl rfl) ?_
        refine g_u (s_as_imm rfl rfl) ?_
        refine g_nil ?_
        refine normal_thn ?_
        refine aw_cond rfl (fun hb4 => ?_) (fun hb4 => ?_)
        · skip
          refine aw_seq ?_
          refine aw_region ?_
          refine g_u (s_fieldAddr rfl rfl fa48_2 rfl) ?_
          refine g_u (s_load_imm rfl rfl rfl tA3 tS3 rfl rfl) ?_
          refine g_u (s_call1 (nil1 (n := 1) (dput_c [] _ ok.2.2.1 (by simp))) rfl rfl) ?_
          refine g_u (s_cvBS' (rfl) rfl rfl Tryz.underlying99 Tryz.underlying89 Tryz.underlying5) ?_
          refine g_u (s_makeIface rfl rfl nI89) ?_
          refine g_u (s_as_imm rfl rfl) ?_
          refine g_nil ?_
          refine normal_thn ?_
          refine aw_ret ?_
          refine ret_blk ?_
          refine ret_thn ?_
          exact ⟨⟨(rfl : toAV (Al.look _ _) = some _).trans (congrArg some (by (simp only [beq_iff_eq, beq_eq_false_iff_ne, ne_eq, decide_eq_true_eq, decide_eq_false_iff_not] at *; unfold thingM; (repeat (first | rw [if_pos (by omega)] | rw [if_neg (by omega)])); (first | done | rfl)))), rfl⟩, trivial⟩
        · skip
          refine aw_seq ?_
          refine aw_region ?_
          refine g_u (s_eqI rfl rfl rfl) ?_
          refine g_u (s_as_imm rfl rfl) ?_
          refine g_nil ?_
          refine normal_thn ?_
          refine aw_cond rfl (fun hb5 => ?_) (fun hb5 => ?_)
          · skip
            refine aw_seq ?_
            refine aw_region ?_
            refine g_u (s_fieldAddr rfl rfl fa48_3 rfl) ?_
            refine g_u (s_load_imm rfl rfl rfl tA26 tS26 rfl rfl) ?_
            refine g_u (s_call1 (double_c _ ok.2.2.2.1) rfl rfl) ?_
            refine g_u (s_makeIface rfl rfl nI88) ?_
            refine g_u (s_as_imm rfl rfl) ?_
            refine g_nil ?_
            refine normal_thn ?_
            refine aw_ret ?_
            refine ret_blk ?_
            refine ret_thn ?_
            exact ⟨⟨(rfl : toAV (Al.look _ _) = some _).trans (congrArg some (by (simp only [beq_iff_eq, beq_eq_false_iff_ne, ne_eq, decide_eq_true_eq, decide_eq_false_iff_not] at *; unfold thingM; (repeat (first | rw [if_pos (by omega)] | rw [if_neg (by omega)])); (first | done | rfl)))), rfl⟩, trivial⟩
          · skip
            refine aw_seq ?_
            refine aw_region ?_
            refine g_u (s_eqI rfl rfl rfl) ?_
            refine g_u (s_as_imm rfl rfl) ?_
            refine g_nil ?_
            refine normal_thn ?_
            refine aw_cond rfl (fun hb6 => ?_) (fun hb6 => ?_)
            · skip
              refine aw_seq ?_
              refine aw_region ?_
              refine g_u (s_fieldAddr rfl rfl fa48_1 rfl) ?_
              refine g_u (s_load_imm rfl rfl rfl tA9 tS9 rfl rfl) ?_
              refine g_u (s_call1 (htext_c _ (by omega)) rfl rfl) ?_
              refine g_u (s_makeIface rfl rfl nI88) ?_
              refine g_u (s_as_imm rfl rfl) ?_
              refine g_nil ?_
              refine normal_thn ?_
              refine aw_ret ?_
              refine ret_blk ?_
              refine ret_thn ?_
              exact ⟨⟨(rfl : toAV (Al.look _ _) = some _).trans (congrArg some (by (simp only [beq_iff_eq, beq_eq_false_iff_ne, ne_eq, decide_eq_true_eq, decide_eq_false_iff_not] at *; unfold thingM; (repeat (first | rw [if_pos (by omega)] | rw [if_neg (by omega)])); (first | done | rfl)))), rfl⟩, trivial⟩
            · skip
              refine aw_seq ?_
              refine aw_region ?_
              refine g_u (s_eqI rfl rfl rfl) ?_
              refine g_u (s_as_imm rfl rfl) ?_
              refine g_nil ?_
              refine normal_thn ?_
              refine aw_cond rfl (fun hb7 => ?_) (fun hb7 => ?_)
              · skip
                refine aw_seq ?_
                refine aw_region ?_
                refine g_u (s_fieldAddr rfl rfl fa48_4 rfl) ?_
                refine g_u (s_load_imm rfl rfl rfl tA46 tS46 rfl rfl) ?_
                refine g_u (s_makeIface rfl rfl nI103) ?_
                refine g_u (s_as_imm rfl rfl) ?_
                refine g_nil ?_
                refine normal_thn ?_
                refine aw_ret ?_
                refine ret_blk ?_
                refine ret_thn ?_
                exact ⟨⟨(rfl : toAV (Al.look _ _) = some _).trans (congrArg some (by (simp only [beq_iff_eq, beq_eq_false_iff_ne, ne_eq, decide_eq_true_eq, decide_eq_false_iff_not] at *; unfold thingM; (repeat (first | rw [if_pos (by omega)] | rw [if_neg (by omega)])); (first | done | rfl)))), rfl⟩, trivial⟩
              · skip
                refine aw_seq ?_
                refine aw_region ?_
                refine g_u (s_eqI rfl rfl rfl) ?_
                refine g_u (s_as_imm rfl rfl) ?_
                refine g_nil ?_
                refine normal_thn ?_
                refine aw_cond rfl (fun hb8 => ?_) (fun hb8 => ?_)
                · skip
                  refine aw_seq ?_
                  refine aw_region ?_
                  refine g_u (s_fieldAddr rfl rfl fa48_5 rfl) ?_
                  refine g_u (s_load_imm rfl rfl rfl tA27 tS27 rfl rfl) ?_
                  refine g_u (s_makeIface rfl rfl nI104) ?_
                  refine g_u (s_as_imm rfl rfl) ?_
                  refine g_nil ?_
                  refine normal_thn ?_
                  refine aw_ret ?_
                  refine ret_blk ?_
                  refine ret_thn ?_
                  exact ⟨⟨(rfl : toAV (Al.look _ _) = some _).trans (congrArg some (by (simp only [beq_iff_eq, beq_eq_false_iff_ne, ne_eq, decide_eq_true_eq, decide_eq_false_iff_not] at *; unfold thingM; (repeat (first | rw [if_pos (by omega)] | rw [if_neg (by omega)])); (first | done | rfl)))), rfl⟩, trivial⟩
                · skip
                  refine aw_skip ?_
                  refine normal_blk ?_
                  refine normal_thn ?_
                  refine aw_seq ?_
                  refine aw_region ?_
                  refine g_u (s_makeIface rfl rfl nI89) ?_
                  refine g_u (s_as_imm rfl rfl) ?_
                  refine g_nil ?_
                  refine normal_thn ?_
                  refine aw_ret ?_
                  exact ⟨⟨(rfl : toAV (Al.look _ _) = some _).trans (congrArg some (by (simp only [beq_iff_eq, beq_eq_false_iff_ne, ne_eq, decide_eq_true_eq, decide_eq_false_iff_not] at *; unfold thingM; (repeat (first | rw [if_pos (by omega)] | rw [if_neg (by omega)])); (first | done | rfl)))), rfl⟩, trivial⟩

theorem thing_p {v : GV} (h : v.kind ≠ 1 ∧ v.kind ≠ 4 ∧ v.kind ≠ 5 ∧ v.kind ≠ 6 ∧ v.kind ≠ 7) (c : PCall Tryz.prog Γ0 63 [v.av] [thingM v]) : PCall Tryz.prog Γ0 63 [v.av] [.ifc 89 (sv (strOf (jsonB v)))] := by
  have e : thingM v = .ifc 89 (sv (strOf (jsonB v))) := by
    unfold thingM
    by_cases h0 : v.kind = 0
    · rw [if_pos h0, json0 h0]
    · rw [if_neg h0, if_neg h.1, jsonE (by omega)]
      by_cases h2 : v.kind = 2
      · rw [if_pos h2]
        by_cases hn : v.num = 0
        · rw [simp2 h2 hn, truthB, if_pos hn]
        · rw [simp2' h2 hn, truthB, if_neg hn]
      · rw [if_neg h2]
        by_cases h3 : v.kind = 3
        · rw [if_pos h3, simp3 h3]
        · rw [if_neg h3, if_neg h.2.1, if_neg h.2.2.1, if_neg h.2.2.2.1, if_neg h.2.2.2.2, simp6 (by omega)]; rfl
  rw [← e]; exact c
theorem thing_q {v : GV} (h : v.kind = 1 ∨ v.kind = 4 ∨ v.kind = 5) (c : PCall Tryz.prog Γ0 63 [v.av] [thingM v]) : PCall Tryz.prog Γ0 63 [v.av] [.ifc 88 (sv (strOf (simpB v)))] := by
  have e : thingM v = .ifc 88 (sv (strOf (simpB v))) := by
    unfold thingM
    rcases h with h | h | h
    · rw [if_neg (by omega), if_pos h, simp1 h]
    · rw [if_neg (by omega), if_neg (by omega), if_neg (by omega), if_neg (by omega), if_pos h, simp4 h]
    · rw [if_neg (by omega), if_neg (by omega), if_neg (by omega), if_neg (by omega), if_neg (by omega), if_pos h, simp5 h]
  rw [← e]; exact c
theorem thing_l {v : GV} (h : v.kind = 6) (c : PCall Tryz.prog Γ0 63 [v.av] [thingM v]) : PCall Tryz.prog Γ0 63 [v.av] [.ifc 103 (.sl 6 (v.list.map avV))] := by
  have e : thingM v = .ifc 103 (.sl 6 (v.list.map avV)) := by
    unfold thingM
    rw [if_neg (by omega), if_neg (by omega), if_neg (by omega), if_neg (by omega), if_neg (by omega), if_neg (by omega), if_pos h]
  rw [← e]; exact c
theorem thing_m {v : GV} (h : v.kind = 7) (c : PCall Tryz.prog Γ0 63 [v.av] [thingM v]) : PCall Tryz.prog Γ0 63 [v.av] [.ifc 104 (.sl 7 (v.map.map avA))] := by
  have e : thingM v = .ifc 104 (.sl 7 (v.map.map avA)) := by
    unfold thingM
    rw [if_neg (by omega), if_neg (by omega), if_neg (by omega), if_neg (by omega), if_neg (by omega), if_neg (by omega), if_neg (by omega), if_pos h]
  rw [← e]; exact c

set_option maxHeartbeats 400000 in
theorem lay_p (v : GV) (ho : v.ok) (hw : v.wt ≤ 10000000) (xs : List AV) (hx : W1 xs) (hl : xs.length + 150 * v.wt ≤ 5000000000) (hk : v.kind ≠ 1 ∧ v.kind ≠ 4 ∧ v.kind ≠ 5 ∧ v.kind ≠ 6 ∧ v.kind ≠ 7) : MCall Tryz.prog Γ0 83 [.slg 100001 1 xs, .imm v.av] [(100001, .tok 1 xs)] (.slg 100001 1 (xs ++ bytesL (jsonB v))) [(100001, .tok 1 (xs ++ bytesL (jsonB v)))] := by
  have lv := len_wtVs v.list
  have la := len_wtAs v.map
  have ek := v.wt_eq
  have ok := v.ok_iff.1 ho
  have sl := simpB_length v
  have jl := json_len v
  have e0 : bytesL (strOf (jsonB v)).data.toList = bytesL (jsonB v) := by rw [strOf_list]
  refine mcall_of (rs := [.slg 100001 1 (xs ++ bytesL (jsonB v))]) Tryz.func83 rfl Tryz.ntmps83 (by kernel_rfl) rfl rfl rfl rfl rfl fun w0 I0 G0 E => ?_
  refine aw_seq ?_
  refine aw_region ?_
  refine g_uG (s_box_imm 1003 rfl rfl rfl rfl) rfl ?_
  refine g_u (s_as_imm rfl rfl) ?_
  refine g_nil ?_
  refine normal_thn ?_
  refine aw_seq ?_
  refine aw_seq ?_
  refine aw_region ?_
  refine g_u (s_load_imm rfl rfl rfl tA48 tS48 rfl rfl) ?_
  refine g_u (s_call1 (thing_p hk (thing_c v ho hw)) rfl rfl) ?_
  refine g_nil ?_
  refine normal_thn ?_
  refine aw_block ?_
  refine aw_seq ?_
  refine aw_region ?_
  refine g_u (s_assert_yes rfl rfl nI89) ?_
  refine g_u (s_extract rfl rfl rfl rfl) ?_
  refine g_u (s_extract rfl rfl rfl rfl) ?_
  refine g_nil ?_
  refine normal_thn ?_
  refine aw_cond_true rfl ?_
  refine aw_seq ?_
  refine aw_region ?_
  refine g_u (s_as_imm rfl rfl) ?_
  refine g_nil ?_
  refine normal_thn ?_
  refine aw_seq ?_
  refine aw_region ?_
  refine g_u (s_mv_slg rfl rfl) ?_
  refine g_u (s_mv_imm rfl rfl) ?_
  refine g_u (s_appendS rfl rfl rfl rfl rfl Tryz.underlying99 Tryz.underlying89 tS5 zv5 rfl by5 (by rw [strOf_size]; omega) (by rw [strOf_size]; omega)) ?_
  refine g_u (s_as_slg rfl rfl) ?_
  refine g_nil ?_
  refine normal_thn ?_
  refine aw_ret ?_
  refine ret_blk ?_
  refine ret_thn ?_
  exact ⟨⟨.inr ⟨_, rfl, look_slg rfl (by rw [e0]), rfl⟩, trivial⟩, ⟨look_tok rfl (by rw [e0]), trivial⟩⟩

set_option maxHeartbeats 400000 in
theorem lay_q (v : GV) (ho : v.ok) (hw : v.wt ≤ 10000000) (xs : List AV) (hx : W1 xs) (hl : xs.length + 150 * v.wt ≤ 5000000000) (hk : v.kind = 1 ∨ v.kind = 4 ∨ v.kind = 5) : MCall Tryz.prog Γ0 83 [.slg 100001 1 xs, .imm v.av] [(100001, .tok 1 xs)] (.slg 100001 1 (xs ++ bytesL (jsonB v))) [(100001, .tok 1 (xs ++ bytesL (jsonB v)))] := by
  have lv := len_wtVs v.list
  have la := len_wtAs v.map
  have ek := v.wt_eq
  have ok := v.ok_iff.1 ho
  have sl := simpB_length v
  have jl := json_len v
  refine mcall_of (rs := [.slg 100001 1 (xs ++ bytesL (jsonB v))]) Tryz.func83 rfl Tryz.ntmps83 (by kernel_rfl) rfl rfl rfl rfl rfl fun w0 I0 G0 E => ?_
  refine aw_seq ?_
  refine aw_region ?_
  refine g_uG (s_box_imm 1003 rfl rfl rfl rfl) rfl ?_
  refine g_u (s_as_imm rfl rfl) ?_
  refine g_nil ?_
  refine normal_thn ?_
  refine aw_seq ?_
  refine aw_seq ?_
  refine aw_region ?_
  refine g_u (s_load_imm rfl rfl rfl tA48 tS48 rfl rfl) ?_
  refine g_u (s_call1 (thing_q hk (thing_c v ho hw)) rfl rfl) ?_
  refine g_nil ?_
  refine normal_thn ?_
  refine aw_block ?_
  refine aw_seq ?_
  refine aw_region ?_
  refine g_u (s_assert_no rfl rfl nI89 tZ89 (fun z h => by rw [zv89] at h; cases h; rfl) rfl) ?_
  refine g_u (s_extract rfl rfl rfl rfl) ?_
  refine g_u (s_extract rfl rfl rfl rfl) ?_
  refine g_nil ?_
  refine normal_thn ?_
  refine aw_cond_false rfl ?_
  refine aw_seq ?_
  refine aw_region ?_
  refine g_u (s_assert_yes rfl rfl nI88) ?_
  refine g_u (s_extract rfl rfl rfl rfl) ?_
  refine g_u (s_extract rfl rfl rfl rfl) ?_
  refine g_nil ?_
  refine normal_thn ?_
  refine aw_cond_true rfl ?_
  refine aw_seq ?_
  refine aw_region ?_
  refine g_u (s_as_imm rfl rfl) ?_
  refine g_nil ?_
  refine normal_thn ?_
  refine aw_seq ?_
  refine aw_region ?_
  refine g_u (s_mv_slg rfl rfl) ?_
  refine g_u (s_mv_imm rfl rfl) ?_
  refine g_uG (s_mcall [(3014, 20001)] (jput_c _ _ hx (by rw [strOf_size]; omega) (by omega)) rfl rfl ⟨.inr ⟨_, rfl, rfl⟩, .inl rfl, trivial⟩ trivial rfl rfl rfl) rfl ?_
  refine g_u (s_as_slg rfl rfl) ?_
  refine g_nil ?_
  refine normal_thn ?_
  refine aw_renTok 20001 100001 1 (xs ++ bytesL (quoteB (lst (strOf (simpB v))))) [(4, .slg 100001 1 (xs ++ bytesL (quoteB (lst (strOf (simpB v))))))] rfl rfl rfl rfl rfl rfl ⟨.inr (.inl ⟨rfl, rfl⟩), trivial⟩ (by rw [List.length_append, bytesL_len]; simp only [quoteB, List.length_cons]; omega) ?_
  refine aw_ret ?_
  refine ret_blk ?_
  refine ret_thn ?_
  exact ⟨⟨.inr ⟨_, rfl, look_slg rfl (by rw [jsonS hk, lst_strOf]), rfl⟩, trivial⟩, ⟨look_tok rfl (by rw [jsonS hk, lst_strOf]), trivial⟩⟩

theorem bytesL_cons (c : UInt8) (l : Bs) : bytesL (c :: l) = .v (byteV c) :: bytesL l := rfl
theorem bytesL_nil : bytesL [] = [] := rfl
theorem W1.app {a b : List AV} (h : W1 a) (k : W1 b) : W1 (a ++ b) := fun x hx => (List.mem_append.1 hx).elim (h x) (k x)

set_option maxHeartbeats 400000 in
theorem lay_l (v : GV) (ho : v.ok) (hw : v.wt ≤ 10000000) (xs : List AV) (hx : W1 xs) (hl : xs.length + 150 * v.wt ≤ 5000000000) (hk : v.kind = 6) (ih : ∀ y ∈ v.list, ∀ xs : List AV, W1 xs → xs.length + 150 * y.wt ≤ 5000000000 → MCall Tryz.prog Γ0 83 [.slg 100001 1 xs, .imm y.av] [(100001, .tok 1 xs)] (.slg 100001 1 (xs ++ bytesL (jsonB y))) [(100001, .tok 1 (xs ++ bytesL (jsonB y)))]) : MCall Tryz.prog Γ0 83 [.slg 100001 1 xs, .imm v.av] [(100001, .tok 1 xs)] (.slg 100001 1 (xs ++ bytesL (jsonB v))) [(100001, .tok 1 (xs ++ bytesL (jsonB v)))] := by
  have lv := len_wtVs v.list
  have la := len_wtAs v.map
  have ek := v.wt_eq
  have ok := v.ok_iff.1 ho
  have sl := simpB_length v
  have jl := json_len v
  refine mcall_of (rs := [.slg 100001 1 (xs ++ bytesL (jsonB v))]) Tryz.func83 rfl Tryz.ntmps83 (by kernel_rfl) rfl rfl rfl rfl rfl fun w0 I0 G0 E => ?_
  refine aw_seq ?_
  refine aw_region ?_
  refine g_uG (s_box_imm 1003 rfl rfl rfl rfl) rfl ?_
  refine g_u (s_as_imm rfl rfl) ?_
  refine g_nil ?_
  refine normal_thn ?_
  refine aw_seq ?_
  refine aw_seq ?_
  refine aw_region ?_
  refine g_u (s_load_imm rfl rfl rfl tA48 tS48 rfl rfl) ?_
  refine g_u (s_call1 (thing_l hk (thing_c v ho hw)) rfl rfl) ?_
  refine g_nil ?_
  refine normal_thn ?_
  refine aw_block ?_
  refine aw_seq ?_
  refine aw_region ?_
  refine g_u (s_assert_no rfl rfl nI89 tZ89 (fun z h => by rw [zv89] at h; cases h; rfl) rfl) ?_
  refine g_u (s_extract rfl rfl rfl rfl) ?_
  refine g_u (s_extract rfl rfl rfl rfl) ?_
  refine g_nil ?_
  refine normal_thn ?_
  refine aw_cond_false rfl ?_
  refine aw_seq ?_
  refine aw_region ?_
  refine g_u (s_assert_no rfl rfl nI88 tZ88 (fun z h => by rw [zv88] at h; cases h; rfl) rfl) ?_
  refine g_u (s_extract rfl rfl rfl rfl) ?_
  refine g_u (s_extract rfl rfl rfl rfl) ?_
  refine g_nil ?_
  refine normal_thn ?_
  refine aw_cond_false rfl ?_
  refine aw_seq ?_
  refine aw_region ?_
  refine g_u (s_assert_yes rfl rfl nI103) ?_
  refine g_u (s_extract rfl rfl rfl rfl) ?_
  refine g_u (s_extract rfl rfl rfl rfl) ?_
  refine g_nil ?_
  refine normal_thn ?_
  refine aw_cond_true rfl ?_
  refine aw_seq ?_
  refine aw_region ?_
  refine g_u (s_as_imm rfl rfl) ?_
  refine g_nil ?_
  refine normal_thn ?_
  refine aw_seq ?_
  refine aw_region ?_
  refine g_u (s_mv_slg rfl rfl) ?_
  refine g_u (s_buildSlice (X0 := z5) rfl Tryz.underlying99 tS5 tZ5 rfl rfl rfl rfl rfl rfl rfl rfl) ?_
  refine g_u (s_append rfl rfl rfl rfl rfl Tryz.underlying99 Tryz.underlying99 tS5 zv5 rfl (by decide) by5 (by (try dsimp only); simp only [List.length_append, List.length_cons, List.length_nil]; omega) (by (try dsimp only); simp only [List.length_append, List.length_cons, List.length_nil]; omega)) ?_
  refine g_u (s_as_slg rfl rfl) ?_
  refine g_nil ?_
  refine normal_thn ?_
  refine aw_seq ?_
  refine aw_seq ?_
  refine aw_region ?_
  refine g_u (s_mv_imm rfl rfl) ?_
  refine g_u (s_lenL rfl rfl Tryz.underlying103) ?_
  refine g_u (s_mv_imm rfl rfl) ?_
  refine g_nil ?_
  refine normal_thn ?_
  refine aw_block ?_
  refine aw_loop' (fun j : Nat × List AV => [(0, .slg 100001 1 j.2), (100001, .tok 1 j.2), (33, .imm (.sl 6 (v.list.map avV))), (34, .imm (iv (v.list.length : Int))), (35, .imm (iv (j.1 : Int)))]) (fun j => j.1 ≤ v.list.length ∧ j.2 = xs ++ bytesL (91 :: jsonVs true (v.list.take j.1))) (fun j => v.list.length - j.1) (⟨0, xs ++ bytesL [91]⟩) ?_ ⟨rfl, rfl, rfl, look_int rfl (by rw [List.length_map]), rfl, trivial⟩ ?_
  · exact ⟨Nat.zero_le _, rfl⟩
  · rintro ⟨i, ys⟩ ⟨h1, h2⟩; dsimp only at h1 h2; have hlen : ys.length ≤ xs.length + 1 + 150 * wtVs (v.list.take i) := by have := jsonVs_len (v.list.take i) true; rw [h2, List.length_append, bytesL_len, List.length_cons]; omega
    have hwy : W1 ys := by rw [h2]; exact hx.app (W1.bytes _)
    have htk := wtVs_take v.list i
    refine aw_seq ?_
    refine aw_region ?_
    refine g_u (s_ltI rfl rfl rfl) ?_
    refine g_nil ?_
    refine normal_thn ?_
    refine aw_seq ?_
    refine aw_cond rfl (fun hb1 => ?_) (fun hb1 => ?_)
    · skip
      have hiv : i < v.list.length := by have := of_decide_eq_true hb1; simp only [List.length_map] at this; omega
      refine aw_skip ?_
      refine normal_thn ?_
      refine aw_seq ?_
      refine aw_block ?_
      refine aw_seq ?_
      refine aw_region ?_
      refine g_u (s_mv_imm rfl rfl) ?_
      refine g_u (s_indexAddr rfl rfl rfl Tryz.underlying103 tS48 (by omega) (ixV hiv)) ?_
      refine g_u (s_load_cp rfl rfl tA48 tS48 rfl rfl) ?_
      refine g_uG (s_alloc' 1009 rfl rfl rfl tZ48) rfl ?_
      refine g_u (s_as_imm rfl rfl) ?_
      refine g_u (s_store_imm rfl rfl rfl tS48 rfl rfl) ?_
      refine g_nil ?_
      refine normal_thn ?_
      refine aw_seq ?_
      refine aw_seq ?_
      refine aw_region ?_
      refine g_u (s_mv_imm rfl rfl) ?_
      refine g_u (s_gtI rfl rfl rfl) ?_
      refine g_nil ?_
      refine normal_thn ?_
      refine aw_cond rfl (fun hb2 => ?_) (fun hb2 => ?_)
      · skip
        have hc : comma (i == 0) = [44] := by have hp : i ≠ 0 := (by have := of_decide_eq_true hb2; omega); rw [show (i == 0) = false from by simpa using hp]; rfl
        refine aw_region ?_
        refine g_u (s_mv_slg rfl rfl) ?_
        refine g_u (s_buildSlice (X0 := z5) rfl Tryz.underlying99 tS5 tZ5 rfl rfl rfl rfl rfl rfl rfl rfl) ?_
        refine g_u (s_append rfl rfl rfl rfl rfl Tryz.underlying99 Tryz.underlying99 tS5 zv5 rfl (by decide) by5 (by (try dsimp only); simp only [List.length_append, List.length_cons, List.length_nil]; omega) (by (try dsimp only); simp only [List.length_append, List.length_cons, List.length_nil]; omega)) ?_
        refine g_u (s_as_slg rfl rfl) ?_
        refine g_nil ?_
        refine normal_thn ?_
        refine aw_region ?_
        refine g_u (s_mv_slg rfl rfl) ?_
        refine g_u (s_load_agg rfl rfl rfl tA48 tS48 rfl rfl) ?_
        refine g_uG (s_mcall [(100001, 100001)] (ih _ (nthV_mem hiv) _ (by first | exact hwy | exact hwy.app (W1.bytes [44])) (by have q1 := wtVs_nth hiv; (try simp only [List.length_append, List.length_cons, List.length_nil]); omega)) rfl rfl ⟨.inl rfl, .inl rfl, trivial⟩ ⟨rfl, trivial⟩ rfl rfl rfl) rfl ?_
        refine g_u (s_as_slg rfl rfl) ?_
        refine g_nil ?_
        refine normal_blk ?_
        refine normal_thn ?_
        refine aw_region ?_
        refine g_u (s_add rfl rfl rfl) ?_
        refine g_u (s_mv_imm rfl rfl) ?_
        refine g_nil ?_
        refine normal_thn ?_
        refine ⟨⟨i + 1, _⟩, ⟨hiv, ?_⟩, ⟨rfl, rfl, rfl, rfl, look_int rfl (by rw [wrap64 (by omega) (by omega)]; rfl), trivial⟩, by dsimp only; omega⟩
        dsimp only
        rw [jsonVs_take hiv, hc]
        subst h2
        simp only [List.append_assoc, List.cons_append, List.nil_append, ← bytesL_app, bytesL_cons, bytesL_nil, strOf_list, lst_strOf]
        try rfl
      · skip
        have hc : comma (i == 0) = [] := by have hp : i = 0 := (by have := of_decide_eq_false hb2; omega); rw [hp]; rfl
        refine aw_skip ?_
        refine normal_thn ?_
        refine aw_region ?_
        refine g_u (s_mv_slg rfl rfl) ?_
        refine g_u (s_load_agg rfl rfl rfl tA48 tS48 rfl rfl) ?_
        refine g_uG (s_mcall [(100001, 100001)] (ih _ (nthV_mem hiv) _ (by first | exact hwy | exact hwy.app (W1.bytes [44])) (by have q1 := wtVs_nth hiv; (try simp only [List.length_append, List.length_cons, List.length_nil]); omega)) rfl rfl ⟨.inl rfl, .inl rfl, trivial⟩ ⟨rfl, trivial⟩ rfl rfl rfl) rfl ?_
        refine g_u (s_as_slg rfl rfl) ?_
        refine g_nil ?_
        refine normal_blk ?_
        refine normal_thn ?_
        refine aw_region ?_
        refine g_u (s_add rfl rfl rfl) ?_
        refine g_u (s_mv_imm rfl rfl) ?_
        refine g_nil ?_
        refine normal_thn ?_
        refine ⟨⟨i + 1, _⟩, ⟨hiv, ?_⟩, ⟨rfl, rfl, rfl, rfl, look_int rfl (by rw [wrap64 (by omega) (by omega)]; rfl), trivial⟩, by dsimp only; omega⟩
        dsimp only
        rw [jsonVs_take hiv, hc]
        subst h2
        simp only [List.append_assoc, List.cons_append, List.nil_append, ← bytesL_app, bytesL_cons, bytesL_nil, strOf_list, lst_strOf]
        try rfl
    · skip
      have hi : i = v.list.length := by have := of_decide_eq_false hb1; simp only [List.length_map] at this; omega
      refine aw_exit ?_
      refine exit_thn ?_
      refine exit_thn ?_
      refine exit_blk ?_
      refine normal_thn ?_
      refine aw_seq ?_
      refine aw_region ?_
      refine g_u (s_mv_slg rfl rfl) ?_
      refine g_u (s_buildSlice (X0 := z5) rfl Tryz.underlying99 tS5 tZ5 rfl rfl rfl rfl rfl rfl rfl rfl) ?_
      refine g_u (s_append rfl rfl rfl rfl rfl Tryz.underlying99 Tryz.underlying99 tS5 zv5 rfl (by decide) by5 (by (try dsimp only); simp only [List.length_append, List.length_cons, List.length_nil]; omega) (by (try dsimp only); simp only [List.length_append, List.length_cons, List.length_nil]; omega)) ?_
      refine g_u (s_as_slg rfl rfl) ?_
      refine g_nil ?_
      refine normal_thn ?_
      refine aw_ret ?_
      refine ret_blk ?_
      refine ret_thn ?_
      exact ⟨⟨.inr ⟨_, rfl, look_slg rfl (by rw [json6 hk, h2, hi, List.take_of_length_le (Nat.le_refl _), List.append_assoc]; exact congrArg (xs ++ ·) (bytesL_app _ [93])), rfl⟩, trivial⟩, ⟨look_tok rfl (by rw [json6 hk, h2, hi, List.take_of_length_le (Nat.le_refl _), List.append_assoc]; exact congrArg (xs ++ ·) (bytesL_app _ [93])), trivial⟩⟩

set_option maxHeartbeats 400000 in
theorem lay_m (v : GV) (ho : v.ok) (hw : v.wt ≤ 10000000) (xs : List AV) (hx : W1 xs) (hl : xs.length + 150 * v.wt ≤ 5000000000) (hk : v.kind = 7) (ih : ∀ a ∈ v.map, ∀ xs : List AV, W1 xs → xs.length + 150 * a.val.wt ≤ 5000000000 → MCall Tryz.prog Γ0 83 [.slg 100001 1 xs, .imm a.val.av] [(100001, .tok 1 xs)] (.slg 100001 1 (xs ++ bytesL (jsonB a.val))) [(100001, .tok 1 (xs ++ bytesL (jsonB a.val)))]) : MCall Tryz.prog Γ0 83 [.slg 100001 1 xs, .imm v.av] [(100001, .tok 1 xs)] (.slg 100001 1 (xs ++ bytesL (jsonB v))) [(100001, .tok 1 (xs ++ bytesL (jsonB v)))] := by
  have lv := len_wtVs v.list
  have la := len_wtAs v.map
  have ek := v.wt_eq
  have ok := v.ok_iff.1 ho
  have sl := simpB_length v
  have jl := json_len v
  refine mcall_of (rs := [.slg 100001 1 (xs ++ bytesL (jsonB v))]) Tryz.func83 rfl Tryz.ntmps83 (by kernel_rfl) rfl rfl rfl rfl rfl fun w0 I0 G0 E => ?_
  refine aw_seq ?_
  refine aw_region ?_
  refine g_uG (s_box_imm 1003 rfl rfl rfl rfl) rfl ?_
  refine g_u (s_as_imm rfl rfl) ?_
  refine g_nil ?_
  refine normal_thn ?_
  refine aw_seq ?_
  refine aw_seq ?_
  refine aw_region ?_
  refine g_u (s_load_imm rfl rfl rfl tA48 tS48 rfl rfl) ?_
  refine g_u (s_call1 (thing_m hk (thing_c v ho hw)) rfl rfl) ?_
  refine g_nil ?_
  refine normal_thn ?_
  refine aw_block ?_
  refine aw_seq ?_
  refine aw_region ?_
  refine g_u (s_assert_no rfl rfl nI89 tZ89 (fun z h => by rw [zv89] at h; cases h; rfl) rfl) ?_
  refine g_u (s_extract rfl rfl rfl rfl) ?_
  refine g_u (s_extract rfl rfl rfl rfl) ?_
  refine g_nil ?_
  refine normal_thn ?_
  refine aw_cond_false rfl ?_
  refine aw_seq ?_
  refine aw_region ?_
  refine g_u (s_assert_no rfl rfl nI88 tZ88 (fun z h => by rw [zv88] at h; cases h; rfl) rfl) ?_
  refine g_u (s_extract rfl rfl rfl rfl) ?_
  refine g_u (s_extract rfl rfl rfl rfl) ?_
  refine g_nil ?_
  refine normal_thn ?_
  refine aw_cond_false rfl ?_
  refine aw_seq ?_
  refine aw_region ?_
  refine g_u (s_assert_no rfl rfl nI103 tZ103 (fun z h => by rw [zv103] at h; cases h; rfl) rfl) ?_
  refine g_u (s_extract rfl rfl rfl rfl) ?_
  refine g_u (s_extract rfl rfl rfl rfl) ?_
  refine g_nil ?_
  refine normal_thn ?_
  refine aw_cond_false rfl ?_
  refine aw_seq ?_
  refine aw_region ?_
  refine g_u (s_assert_yes rfl rfl nI104) ?_
  refine g_u (s_extract rfl rfl rfl rfl) ?_
  refine g_u (s_extract rfl rfl rfl rfl) ?_
  refine g_nil ?_
  refine normal_thn ?_
  refine aw_cond_true rfl ?_
  refine aw_seq ?_
  refine aw_region ?_
  refine g_u (s_as_imm rfl rfl) ?_
  refine g_nil ?_
  refine normal_thn ?_
  refine aw_seq ?_
  refine aw_region ?_
  refine g_u (s_mv_slg rfl rfl) ?_
  refine g_u (s_buildSlice (X0 := z5) rfl Tryz.underlying99 tS5 tZ5 rfl rfl rfl rfl rfl rfl rfl rfl) ?_
  refine g_u (s_append rfl rfl rfl rfl rfl Tryz.underlying99 Tryz.underlying99 tS5 zv5 rfl (by decide) by5 (by (try dsimp only); (try (have q1 := wtAs_nth hia; have q2 := (nthA v.map i).wt_eq; have q3 := quoteB_length (lst (nthA v.map i).key); have q4 := lst_len (nthA v.map i).key)); (try simp only [List.length_append, List.length_cons, List.length_nil, bytesL_len]); omega) (by (try dsimp only); (try (have q1 := wtAs_nth hia; have q2 := (nthA v.map i).wt_eq; have q3 := quoteB_length (lst (nthA v.map i).key); have q4 := lst_len (nthA v.map i).key)); (try simp only [List.length_append, List.length_cons, List.length_nil, bytesL_len]); omega)) ?_
  refine g_u (s_as_slg rfl rfl) ?_
  refine g_nil ?_
  refine normal_thn ?_
  refine aw_seq ?_
  refine aw_seq ?_
  refine aw_region ?_
  refine g_u (s_mv_imm rfl rfl) ?_
  refine g_u (s_lenL rfl rfl Tryz.underlying104) ?_
  refine g_u (s_mv_imm rfl rfl) ?_
  refine g_nil ?_
  refine normal_thn ?_
  refine aw_block ?_
  refine aw_loop' (fun j : Nat × List AV => [(0, .slg 100001 1 j.2), (100001, .tok 1 j.2), (58, .imm (.sl 7 (v.map.map avA))), (59, .imm (iv (v.map.length : Int))), (60, .imm (iv (j.1 : Int)))]) (fun j => j.1 ≤ v.map.length ∧ j.2 = xs ++ bytesL (123 :: jsonAs true (v.map.take j.1))) (fun j => v.map.length - j.1) (⟨0, xs ++ bytesL [123]⟩) ?_ ⟨rfl, rfl, rfl, look_int rfl (by rw [List.length_map]), rfl, trivial⟩ ?_
  · exact ⟨Nat.zero_le _, rfl⟩
  · rintro ⟨i, ys⟩ ⟨h1, h2⟩; dsimp only at h1 h2; have hlen : ys.length ≤ xs.length + 1 + 150 * wtAs (v.map.take i) := by have := jsonAs_len (v.map.take i) true; rw [h2, List.length_append, bytesL_len, List.length_cons]; omega
    have hwy : W1 ys := by rw [h2]; exact hx.app (W1.bytes _)
    have htk := wtAs_take v.map i
    refine aw_seq ?_
    refine aw_region ?_
    refine g_u (s_ltI rfl rfl rfl) ?_
    refine g_nil ?_
    refine normal_thn ?_
    refine aw_seq ?_
    refine aw_cond rfl (fun hb1 => ?_) (fun hb1 => ?_)
    · skip
      have hia : i < v.map.length := by have := of_decide_eq_true hb1; simp only [List.length_map] at this; omega
      have hka : (nthA v.map i).key.size ≤ 10000000000 := by have q1 := wtAs_nth hia; have q4 := (nthA v.map i).wt_eq; omega
      refine aw_skip ?_
      refine normal_thn ?_
      refine aw_seq ?_
      refine aw_block ?_
      refine aw_seq ?_
      refine aw_region ?_
      refine g_u (s_mv_imm rfl rfl) ?_
      refine g_u (s_indexAddr rfl rfl rfl Tryz.underlying104 tS50 (by omega) (ixA hia)) ?_
      refine g_u (s_load_cp rfl rfl tA50 tS50 rfl rfl) ?_
      refine g_uG (s_alloc' 1012 rfl rfl rfl tZ50) rfl ?_
      refine g_u (s_as_imm rfl rfl) ?_
      refine g_u (s_store_imm rfl rfl rfl tS50 rfl rfl) ?_
      refine g_nil ?_
      refine normal_thn ?_
      refine aw_seq ?_
      refine aw_seq ?_
      refine aw_region ?_
      refine g_u (s_mv_imm rfl rfl) ?_
      refine g_u (s_gtI rfl rfl rfl) ?_
      refine g_nil ?_
      refine normal_thn ?_
      refine aw_cond rfl (fun hb2 => ?_) (fun hb2 => ?_)
      · skip
        have hc : comma (i == 0) = [44] := by have hp : i ≠ 0 := (by have := of_decide_eq_true hb2; omega); rw [show (i == 0) = false from by simpa using hp]; rfl
        refine aw_region ?_
        refine g_u (s_mv_slg rfl rfl) ?_
        refine g_u (s_buildSlice (X0 := z5) rfl Tryz.underlying99 tS5 tZ5 rfl rfl rfl rfl rfl rfl rfl rfl) ?_
        refine g_u (s_append rfl rfl rfl rfl rfl Tryz.underlying99 Tryz.underlying99 tS5 zv5 rfl (by decide) by5 (by (try dsimp only); (try (have q1 := wtAs_nth hia; have q2 := (nthA v.map i).wt_eq; have q3 := quoteB_length (lst (nthA v.map i).key); have q4 := lst_len (nthA v.map i).key)); (try simp only [List.length_append, List.length_cons, List.length_nil, bytesL_len]); omega) (by (try dsimp only); (try (have q1 := wtAs_nth hia; have q2 := (nthA v.map i).wt_eq; have q3 := quoteB_length (lst (nthA v.map i).key); have q4 := lst_len (nthA v.map i).key)); (try simp only [List.length_append, List.length_cons, List.length_nil, bytesL_len]); omega)) ?_
        refine g_u (s_as_slg rfl rfl) ?_
        refine g_nil ?_
        refine normal_thn ?_
        refine aw_draw mixed ?_
        refine g_u (s_mv_slg rfl rfl) ?_
        refine g_u (s_fieldAddr rfl rfl fa50_0 rfl) ?_
        refine g_u (s_load_imm rfl rfl rfl tA9 tS9 rfl rfl) ?_
        refine g_uG (s_mcall [(3014, 20001)] (jput_c _ _ (by first | exact hwy | exact hwy.app (W1.bytes [44])) hka (by have q1 := wtAs_nth hia; have q2 := (nthA v.map i).wt_eq; have q3 := quoteB_length (lst (nthA v.map i).key); have q4 := lst_len (nthA v.map i).key; (try simp only [List.length_append, List.length_cons, List.length_nil, bytesL_len]); omega)) rfl rfl ⟨.inr ⟨_, rfl, rfl⟩, .inl rfl, trivial⟩ trivial rfl rfl rfl) rfl ?_
        refine g_u (s_buildSlice (X0 := z5) rfl Tryz.underlying99 tS5 tZ5 rfl rfl rfl rfl rfl rfl rfl rfl) ?_
        refine g_u (s_append rfl rfl rfl rfl rfl Tryz.underlying99 Tryz.underlying99 tS5 zv5 rfl (by decide) by5 (by (try dsimp only); (try (have q1 := wtAs_nth hia; have q2 := (nthA v.map i).wt_eq; have q3 := quoteB_length (lst (nthA v.map i).key); have q4 := lst_len (nthA v.map i).key)); (try simp only [List.length_append, List.length_cons, List.length_nil, bytesL_len]); omega) (by (try dsimp only); (try (have q1 := wtAs_nth hia; have q2 := (nthA v.map i).wt_eq; have q3 := quoteB_length (lst (nthA v.map i).key); have q4 := lst_len (nthA v.map i).key)); (try simp only [List.length_append, List.length_cons, List.length_nil, bytesL_len]); omega)) ?_
        refine g_u (s_fieldAddr rfl rfl fa50_1 rfl) ?_
        refine g_u (s_load_imm rfl rfl rfl tA48 tS48 rfl rfl) ?_
        refine g_uG (s_mcall [(100001, 20001)] (ih _ (nthA_mem hia) _ (by first | exact ((hwy.app (W1.bytes _)).app (W1.bytes [58])) | exact (((hwy.app (W1.bytes [44])).app (W1.bytes _)).app (W1.bytes [58]))) (by show _ + 150 * (nthA v.map i).val.wt ≤ 5000000000; have q1 := wtAs_nth hia; have q2 := (nthA v.map i).wt_eq; have q3 := quoteB_length (lst (nthA v.map i).key); have q4 := lst_len (nthA v.map i).key; (try simp only [List.length_append, List.length_cons, List.length_nil, bytesL_len]); omega)) rfl rfl ⟨.inl rfl, .inl rfl, trivial⟩ ⟨rfl, trivial⟩ rfl rfl rfl) rfl ?_
        refine g_u (s_as_slg rfl rfl) ?_
        refine g_nil ⟨by kernel_rfl, ?_⟩
        refine normal_blk ?_
        refine normal_thn ?_
        refine aw_renTok 20001 100001 1 _ [(0, .slg 100001 1 _), (58, .imm (.sl 7 (v.map.map avA))), (59, .imm (iv (v.map.length : Int))), (60, .imm (iv (i : Int)))] rfl rfl rfl rfl rfl rfl ⟨.inr (.inl ⟨rfl, rfl⟩), .inl ⟨rfl, rfl⟩, .inl ⟨rfl, rfl⟩, .inl ⟨rfl, rfl⟩, trivial⟩ (by simp only [List.length_append, List.length_cons, List.length_nil, bytesL_len]; omega) ?_
        refine aw_region ?_
        refine g_u (s_add rfl rfl rfl) ?_
        refine g_u (s_mv_imm rfl rfl) ?_
        refine g_nil ?_
        refine normal_thn ?_
        refine ⟨⟨i + 1, _⟩, ⟨hia, ?_⟩, ⟨rfl, rfl, rfl, rfl, look_int rfl (by rw [wrap64 (by omega) (by omega)]; rfl), trivial⟩, by dsimp only; omega⟩
        dsimp only
        rw [jsonAs_take hia, hc, jsonA_eq]
        subst h2
        simp only [List.append_assoc, List.cons_append, List.nil_append, ← bytesL_app, bytesL_cons, bytesL_nil, strOf_list, lst_strOf]
        try rfl
      · skip
        have hc : comma (i == 0) = [] := by have hp : i = 0 := (by have := of_decide_eq_false hb2; omega); rw [hp]; rfl
        refine aw_skip ?_
        refine normal_thn ?_
        refine aw_draw mixed ?_
        refine g_u (s_mv_slg rfl rfl) ?_
        refine g_u (s_fieldAddr rfl rfl fa50_0 rfl) ?_
        refine g_u (s_load_imm rfl rfl rfl tA9 tS9 rfl rfl) ?_
        refine g_uG (s_mcall [(3014, 20002)] (jput_c _ _ (by first | exact hwy | exact hwy.app (W1.bytes [44])) hka (by have q1 := wtAs_nth hia; have q2 := (nthA v.map i).wt_eq; have q3 := quoteB_length (lst (nthA v.map i).key); have q4 := lst_len (nthA v.map i).key; (try simp only [List.length_append, List.length_cons, List.length_nil, bytesL_len]); omega)) rfl rfl ⟨.inr ⟨_, rfl, rfl⟩, .inl rfl, trivial⟩ trivial rfl rfl rfl) rfl ?_
        refine g_u (s_buildSlice (X0 := z5) rfl Tryz.underlying99 tS5 tZ5 rfl rfl rfl rfl rfl rfl rfl rfl) ?_
        refine g_u (s_append rfl rfl rfl rfl rfl Tryz.underlying99 Tryz.underlying99 tS5 zv5 rfl (by decide) by5 (by (try dsimp only); (try (have q1 := wtAs_nth hia; have q2 := (nthA v.map i).wt_eq; have q3 := quoteB_length (lst (nthA v.map i).key); have q4 := lst_len (nthA v.map i).key)); (try simp only [List.length_append, List.length_cons, List.length_nil, bytesL_len]); omega) (by (try dsimp only); (try (have q1 := wtAs_nth hia; have q2 := (nthA v.map i).wt_eq; have q3 := quoteB_length (lst (nthA v.map i).key); have q4 := lst_len (nthA v.map i).key)); (try simp only [List.length_append, List.length_cons, List.length_nil, bytesL_len]); omega)) ?_
        refine g_u (s_fieldAddr rfl rfl fa50_1 rfl) ?_
        refine g_u (s_load_imm rfl rfl rfl tA48 tS48 rfl rfl) ?_
        refine g_uG (s_mcall [(100001, 20002)] (ih _ (nthA_mem hia) _ (by first | exact ((hwy.app (W1.bytes _)).app (W1.bytes [58])) | exact (((hwy.app (W1.bytes [44])).app (W1.bytes _)).app (W1.bytes [58]))) (by show _ + 150 * (nthA v.map i).val.wt ≤ 5000000000; have q1 := wtAs_nth hia; have q2 := (nthA v.map i).wt_eq; have q3 := quoteB_length (lst (nthA v.map i).key); have q4 := lst_len (nthA v.map i).key; (try simp only [List.length_append, List.length_cons, List.length_nil, bytesL_len]); omega)) rfl rfl ⟨.inl rfl, .inl rfl, trivial⟩ ⟨rfl, trivial⟩ rfl rfl rfl) rfl ?_
        refine g_u (s_as_slg rfl rfl) ?_
        refine g_nil ⟨by kernel_rfl, ?_⟩
        refine normal_blk ?_
        refine normal_thn ?_
        refine aw_renTok 20002 100001 1 _ [(0, .slg 100001 1 _), (58, .imm (.sl 7 (v.map.map avA))), (59, .imm (iv (v.map.length : Int))), (60, .imm (iv (i : Int)))] rfl rfl rfl rfl rfl rfl ⟨.inr (.inl ⟨rfl, rfl⟩), .inl ⟨rfl, rfl⟩, .inl ⟨rfl, rfl⟩, .inl ⟨rfl, rfl⟩, trivial⟩ (by simp only [List.length_append, List.length_cons, List.length_nil, bytesL_len]; omega) ?_
        refine aw_region ?_
        refine g_u (s_add rfl rfl rfl) ?_
        refine g_u (s_mv_imm rfl rfl) ?_
        refine g_nil ?_
        refine normal_thn ?_
        refine ⟨⟨i + 1, _⟩, ⟨hia, ?_⟩, ⟨rfl, rfl, rfl, rfl, look_int rfl (by rw [wrap64 (by omega) (by omega)]; rfl), trivial⟩, by dsimp only; omega⟩
        dsimp only
        rw [jsonAs_take hia, hc, jsonA_eq]
        subst h2
        simp only [List.append_assoc, List.cons_append, List.nil_append, ← bytesL_app, bytesL_cons, bytesL_nil, strOf_list, lst_strOf]
        try rfl
    · skip
      have hi : i = v.map.length := by have := of_decide_eq_false hb1; simp only [List.length_map] at this; omega
      refine aw_exit ?_
      refine exit_thn ?_
      refine exit_thn ?_
      refine exit_blk ?_
      refine normal_thn ?_
      refine aw_seq ?_
      refine aw_region ?_
      refine g_u (s_mv_slg rfl rfl) ?_
      refine g_u (s_buildSlice (X0 := z5) rfl Tryz.underlying99 tS5 tZ5 rfl rfl rfl rfl rfl rfl rfl rfl) ?_
      refine g_u (s_append rfl rfl rfl rfl rfl Tryz.underlying99 Tryz.underlying99 tS5 zv5 rfl (by decide) by5 (by (try dsimp only); (try (have q1 := wtAs_nth hia; have q2 := (nthA v.map i).wt_eq; have q3 := quoteB_length (lst (nthA v.map i).key); have q4 := lst_len (nthA v.map i).key)); (try simp only [List.length_append, List.length_cons, List.length_nil, bytesL_len]); omega) (by (try dsimp only); (try (have q1 := wtAs_nth hia; have q2 := (nthA v.map i).wt_eq; have q3 := quoteB_length (lst (nthA v.map i).key); have q4 := lst_len (nthA v.map i).key)); (try simp only [List.length_append, List.length_cons, List.length_nil, bytesL_len]); omega)) ?_
      refine g_u (s_as_slg rfl rfl) ?_
      refine g_nil ?_
      refine normal_thn ?_
      refine aw_ret ?_
      refine ret_blk ?_
      refine ret_thn ?_
      exact ⟨⟨.inr ⟨_, rfl, look_slg rfl (by rw [json7 hk, h2, hi, List.take_of_length_le (Nat.le_refl _), List.append_assoc]; exact congrArg (xs ++ ·) (bytesL_app _ [125])), rfl⟩, trivial⟩, ⟨look_tok rfl (by rw [json7 hk, h2, hi, List.take_of_length_le (Nat.le_refl _), List.append_assoc]; exact congrArg (xs ++ ·) (bytesL_app _ [125])), trivial⟩⟩

theorem lay_c (v : GV) : v.ok → v.wt ≤ 10000000 → ∀ xs : List AV, W1 xs → xs.length + 150 * v.wt ≤ 5000000000 → MCall Tryz.prog Γ0 83 [.slg 100001 1 xs, .imm v.av] [(100001, .tok 1 xs)] (.slg 100001 1 (xs ++ bytesL (jsonB v))) [(100001, .tok 1 (xs ++ bytesL (jsonB v)))] := by
  refine GV.ind (P := fun v => v.ok → v.wt ≤ 10000000 → ∀ xs : List AV, W1 xs → xs.length + 150 * v.wt ≤ 5000000000 → MCall Tryz.prog Γ0 83 [.slg 100001 1 xs, .imm v.av] [(100001, .tok 1 xs)] (.slg 100001 1 (xs ++ bytesL (jsonB v))) [(100001, .tok 1 (xs ++ bytesL (jsonB v)))]) ?_ v
  intro v h1 h2 ho hw xs hx hl
  have ok := v.ok_iff.1 ho
  have ek := v.wt_eq
  by_cases h6 : v.kind = 6
  · exact lay_l v ho hw xs hx hl h6 fun y hy ys hy1 hy2 => h1 y hy (ok.2.2.2.2.1 y hy) (by have := wtVs_mem hy; omega) ys hy1 hy2
  by_cases h7 : v.kind = 7
  · exact lay_m v ho hw xs hx hl h7 fun a ha ys hy1 hy2 => h2 a ha ((GA.ok_iff a).1 (ok.2.2.2.2.2 a ha)).2 (by have := wtAs_mem ha; have := a.wt_eq; omega) ys hy1 hy2
  by_cases hq : v.kind = 1 ∨ v.kind = 4 ∨ v.kind = 5
  · exact lay_q v ho hw xs hx hl hq
  · exact lay_p v ho hw xs hx hl (by omega)

set_option maxHeartbeats 400000 in
theorem json_c (v : GV) (ho : v.ok) (hw : v.wt ≤ 10000000) : PCall Tryz.prog Γ0 64 [v.av] [sv (strOf (jsonB v))] := by
  have lv := len_wtVs v.list
  have la := len_wtAs v.map
  have ek := v.wt_eq
  have ok := v.ok_iff.1 ho
  have sl := simpB_length v
  have jl := json_len v
  refine pcall_of Tryz.func64 rfl Tryz.ntmps64 (by kernel_rfl) rfl fun w0 I0 G0 => ?_
  refine aw_seq ?_
  refine aw_region ?_
  refine g_uG (s_box_imm 1001 rfl rfl rfl rfl) rfl ?_
  refine g_u (s_as_imm rfl rfl) ?_
  refine g_nil ?_
  refine normal_thn ?_
  refine aw_seq ?_
  refine aw_region ?_
  refine g_u (s_load_imm rfl rfl rfl tA48 tS48 rfl rfl) ?_
  refine g_u (s_call1 (pcall_nil (n := 1) (xs := [v.av]) (lay_c v ho hw [] (fun x hx => by cases hx) (by simp only [List.length_nil]; omega))) rfl rfl) ?_
  refine g_u (s_cvBS' (rfl) rfl rfl Tryz.underlying99 Tryz.underlying9 Tryz.underlying5) ?_
  refine g_u (s_as_imm rfl rfl) ?_
  refine g_nil ?_
  refine normal_thn ?_
  refine aw_ret ?_
  exact ⟨⟨(rfl : toAV (Al.look _ _) = some _).trans (congrArg some (by rfl)), rfl⟩, trivial⟩

set_option maxHeartbeats 400000 in
theorem text_q (v : GV) (ho : v.ok) (hw : v.wt ≤ 10000000) (hk : v.kind = 1 ∨ v.kind = 4 ∨ v.kind = 5) : PCall Tryz.prog Γ0 46 [v.av] [sv (textM v)] := by
  have lv := len_wtVs v.list
  have la := len_wtAs v.map
  have ek := v.wt_eq
  have ok := v.ok_iff.1 ho
  have sl := simpB_length v
  have jl := json_len v
  refine pcall_of Tryz.func46 rfl Tryz.ntmps46 (by kernel_rfl) rfl fun w0 I0 G0 => ?_
  refine aw_seq ?_
  refine aw_region ?_
  refine g_uG (s_box_imm 1001 rfl rfl rfl rfl) rfl ?_
  refine g_u (s_as_imm rfl rfl) ?_
  refine g_nil ?_
  refine normal_thn ?_
  refine aw_seq ?_
  refine aw_seq ?_
  refine aw_region ?_
  refine g_u (s_load_imm rfl rfl rfl tA48 tS48 rfl rfl) ?_
  refine g_u (s_call1 (thing_q hk (thing_c v ho hw)) rfl rfl) ?_
  refine g_nil ?_
  refine normal_thn ?_
  refine aw_block ?_
  refine aw_seq ?_
  refine aw_region ?_
  refine g_u (s_assert_yes rfl rfl nI88) ?_
  refine g_u (s_extract rfl rfl rfl rfl) ?_
  refine g_u (s_extract rfl rfl rfl rfl) ?_
  refine g_nil ?_
  refine normal_thn ?_
  refine aw_cond_true rfl ?_
  refine aw_seq ?_
  refine aw_region ?_
  refine g_u (s_as_imm rfl rfl) ?_
  refine g_nil ?_
  refine normal_thn ?_
  refine aw_seq ?_
  refine aw_region ?_
  refine g_u (s_mv_imm rfl rfl) ?_
  refine g_u (s_as_imm rfl rfl) ?_
  refine g_nil ?_
  refine normal_thn ?_
  refine aw_ret ?_
  refine ret_blk ?_
  refine ret_thn ?_
  exact ⟨⟨(rfl : toAV (Al.look _ _) = some _).trans (congrArg some (by (rw [textE (by omega)]))), rfl⟩, trivial⟩

set_option maxHeartbeats 400000 in
theorem text_p (v : GV) (ho : v.ok) (hw : v.wt ≤ 10000000) (hk : v.kind ≠ 1 ∧ v.kind ≠ 4 ∧ v.kind ≠ 5 ∧ v.kind ≠ 6 ∧ v.kind ≠ 7) : PCall Tryz.prog Γ0 46 [v.av] [sv (textM v)] := by
  have lv := len_wtVs v.list
  have la := len_wtAs v.map
  have ek := v.wt_eq
  have ok := v.ok_iff.1 ho
  have sl := simpB_length v
  have jl := json_len v
  refine pcall_of Tryz.func46 rfl Tryz.ntmps46 (by kernel_rfl) rfl fun w0 I0 G0 => ?_
  refine aw_seq ?_
  refine aw_region ?_
  refine g_uG (s_box_imm 1001 rfl rfl rfl rfl) rfl ?_
  refine g_u (s_as_imm rfl rfl) ?_
  refine g_nil ?_
  refine normal_thn ?_
  refine aw_seq ?_
  refine aw_seq ?_
  refine aw_region ?_
  refine g_u (s_load_imm rfl rfl rfl tA48 tS48 rfl rfl) ?_
  refine g_u (s_call1 (thing_p hk (thing_c v ho hw)) rfl rfl) ?_
  refine g_nil ?_
  refine normal_thn ?_
  refine aw_block ?_
  refine aw_seq ?_
  refine aw_region ?_
  refine g_u (s_assert_no rfl rfl nI88 tZ88 (fun z h => by rw [zv88] at h; cases h; rfl) rfl) ?_
  refine g_u (s_extract rfl rfl rfl rfl) ?_
  refine g_u (s_extract rfl rfl rfl rfl) ?_
  refine g_nil ?_
  refine normal_thn ?_
  refine aw_cond_false rfl ?_
  refine aw_seq ?_
  refine aw_region ?_
  refine g_u (s_assert_yes rfl rfl nI89) ?_
  refine g_u (s_extract rfl rfl rfl rfl) ?_
  refine g_u (s_extract rfl rfl rfl rfl) ?_
  refine g_nil ?_
  refine normal_thn ?_
  refine aw_cond_true rfl ?_
  refine aw_seq ?_
  refine aw_region ?_
  refine g_u (s_as_imm rfl rfl) ?_
  refine g_nil ?_
  refine normal_thn ?_
  refine aw_seq ?_
  refine aw_seq ?_
  refine aw_region ?_
  refine g_u (s_fieldAddr rfl rfl fa48_0 rfl) ?_
  refine g_u (s_load_imm rfl rfl rfl tA5 tS5 rfl rfl) ?_
  refine g_u (s_eqI rfl rfl rfl) ?_
  refine g_nil ?_
  refine normal_thn ?_
  refine aw_cond rfl (fun hb1 => ?_) (fun hb1 => ?_)
  · skip
    refine aw_seq ?_
    refine aw_region ?_
    refine g_u (s_as_imm rfl rfl) ?_
    refine g_nil ?_
    refine normal_thn ?_
    refine aw_ret ?_
    refine ret_thn ?_
    refine ret_blk ?_
    refine ret_thn ?_
    exact ⟨⟨(rfl : toAV (Al.look _ _) = some _).trans (congrArg some (by (simp only [beq_iff_eq, beq_eq_false_iff_ne, ne_eq, decide_eq_true_eq, decide_eq_false_iff_not] at *; rw [textE (by omega), simp6 (by omega)]; rfl))), rfl⟩, trivial⟩
  · skip
    refine aw_skip ?_
    refine normal_thn ?_
    refine aw_seq ?_
    refine aw_region ?_
    refine g_u (s_mv_imm rfl rfl) ?_
    refine g_u (s_as_imm rfl rfl) ?_
    refine g_nil ?_
    refine normal_thn ?_
    refine aw_ret ?_
    refine ret_blk ?_
    refine ret_thn ?_
    exact ⟨⟨(rfl : toAV (Al.look _ _) = some _).trans (congrArg some (by (simp only [beq_iff_eq, beq_eq_false_iff_ne, ne_eq, decide_eq_true_eq, decide_eq_false_iff_not] at *; rw [textE (by omega), jsonE (by omega)]))), rfl⟩, trivial⟩

set_option maxHeartbeats 400000 in
theorem text_l (v : GV) (ho : v.ok) (hw : v.wt ≤ 10000000) (hk : v.kind = 6) : PCall Tryz.prog Γ0 46 [v.av] [sv (textM v)] := by
  have lv := len_wtVs v.list
  have la := len_wtAs v.map
  have ek := v.wt_eq
  have ok := v.ok_iff.1 ho
  have sl := simpB_length v
  have jl := json_len v
  refine pcall_of Tryz.func46 rfl Tryz.ntmps46 (by kernel_rfl) rfl fun w0 I0 G0 => ?_
  refine aw_seq ?_
  refine aw_region ?_
  refine g_uG (s_box_imm 1001 rfl rfl rfl rfl) rfl ?_
  refine g_u (s_as_imm rfl rfl) ?_
  refine g_nil ?_
  refine normal_thn ?_
  refine aw_seq ?_
  refine aw_seq ?_
  refine aw_region ?_
  refine g_u (s_load_imm rfl rfl rfl tA48 tS48 rfl rfl) ?_
  refine g_u (s_call1 (thing_l hk (thing_c v ho hw)) rfl rfl) ?_
  refine g_nil ?_
  refine normal_thn ?_
  refine aw_block ?_
  refine aw_seq ?_
  refine aw_region ?_
  refine g_u (s_assert_no rfl rfl nI88 tZ88 (fun z h => by rw [zv88] at h; cases h; rfl) rfl) ?_
  refine g_u (s_extract rfl rfl rfl rfl) ?_
  refine g_u (s_extract rfl rfl rfl rfl) ?_
  refine g_nil ?_
  refine normal_thn ?_
  refine aw_cond_false rfl ?_
  refine aw_seq ?_
  refine aw_region ?_
  refine g_u (s_assert_no rfl rfl nI89 tZ89 (fun z h => by rw [zv89] at h; cases h; rfl) rfl) ?_
  refine g_u (s_extract rfl rfl rfl rfl) ?_
  refine g_u (s_extract rfl rfl rfl rfl) ?_
  refine g_nil ?_
  refine normal_thn ?_
  refine aw_cond_false rfl ?_
  refine aw_skip ?_
  refine normal_blk ?_
  refine normal_thn ?_
  refine aw_seq ?_
  refine aw_region ?_
  refine g_u (s_load_imm rfl rfl rfl tA48 tS48 rfl rfl) ?_
  refine g_u (s_call1 (json_c v ho hw) rfl rfl) ?_
  refine g_u (s_as_imm rfl rfl) ?_
  refine g_nil ?_
  refine normal_thn ?_
  refine aw_ret ?_
  exact ⟨⟨(rfl : toAV (Al.look _ _) = some _).trans (congrArg some (by (rw [text6 (by omega)]))), rfl⟩, trivial⟩

set_option maxHeartbeats 400000 in
theorem text_m (v : GV) (ho : v.ok) (hw : v.wt ≤ 10000000) (hk : v.kind = 7) : PCall Tryz.prog Γ0 46 [v.av] [sv (textM v)] := by
  have lv := len_wtVs v.list
  have la := len_wtAs v.map
  have ek := v.wt_eq
  have ok := v.ok_iff.1 ho
  have sl := simpB_length v
  have jl := json_len v
  refine pcall_of Tryz.func46 rfl Tryz.ntmps46 (by kernel_rfl) rfl fun w0 I0 G0 => ?_
  refine aw_seq ?_
  refine aw_region ?_
  refine g_uG (s_box_imm 1001 rfl rfl rfl rfl) rfl ?_
  refine g_u (s_as_imm rfl rfl) ?_
  refine g_nil ?_
  refine normal_thn ?_
  refine aw_seq ?_
  refine aw_seq ?_
  refine aw_region ?_
  refine g_u (s_load_imm rfl rfl rfl tA48 tS48 rfl rfl) ?_
  refine g_u (s_call1 (thing_m hk (thing_c v ho hw)) rfl rfl) ?_
  refine g_nil ?_
  refine normal_thn ?_
  refine aw_block ?_
  refine aw_seq ?_
  refine aw_region ?_
  refine g_u (s_assert_no rfl rfl nI88 tZ88 (fun z h => by rw [zv88] at h; cases h; rfl) rfl) ?_
  refine g_u (s_extract rfl rfl rfl rfl) ?_
  refine g_u (s_extract rfl rfl rfl rfl) ?_
  refine g_nil ?_
  refine normal_thn ?_
  refine aw_cond_false rfl ?_
  refine aw_seq ?_
  refine aw_region ?_
  refine g_u (s_assert_no rfl rfl nI89 tZ89 (fun z h => by rw [zv89] at h; cases h; rfl) rfl) ?_
  refine g_u (s_extract rfl rfl rfl rfl) ?_
  refine g_u (s_extract rfl rfl rfl rfl) ?_
  refine g_nil ?_
  refine normal_thn ?_
  refine aw_cond_false rfl ?_
  refine aw_skip ?_
  refine normal_blk ?_
  refine normal_thn ?_
  refine aw_seq ?_
  refine aw_region ?_
  refine g_u (s_load_imm rfl rfl rfl tA48 tS48 rfl rfl) ?_
  refine g_u (s_call1 (json_c v ho hw) rfl rfl) ?_
  refine g_u (s_as_imm rfl rfl) ?_
  refine g_nil ?_
  refine normal_thn ?_
  refine aw_ret ?_
  exact ⟨⟨(rfl : toAV (Al.look _ _) = some _).trans (congrArg some (by (rw [text6 (by omega)]))), rfl⟩, trivial⟩

theorem text_c (v : GV) (ho : v.ok) (hw : v.wt ≤ 10000000) : PCall Tryz.prog Γ0 46 [v.av] [sv (textM v)] := by
  by_cases h6 : v.kind = 6
  · exact text_l v ho hw h6
  by_cases h7 : v.kind = 7
  · exact text_m v ho hw h7
  by_cases hq : v.kind = 1 ∨ v.kind = 4 ∨ v.kind = 5
  · exact text_q v ho hw hq
  · exact text_p v ho hw (by omega)

end Go.Proofs

namespace Go.Proofs
open Go Go.Al
set_option maxRecDepth 10000
set_option maxHeartbeats 400000 in
theorem leftV_st (v : GV) (n : Int) (hn : -1 ≤ n ∧ n ≤ 1000000000) (ih : ∀ y ∈ v.list, ∀ n : Int, -1 ≤ n ∧ n ≤ 1000000000 → PCall Tryz.prog Γ0 37 [y.av, iv n] [iv (leftV y n)]) (ihm : ∀ n : Int, -1 ≤ n ∧ n ≤ 1000000000 → PCall Tryz.prog Γ0 10 [.sl 7 (v.map.map avA), iv n] [iv (leftAs v.map n)]) : PCall Tryz.prog Γ0 37 [v.av, iv n] [iv (leftV v n)] := by
  have ek := v.wt_eq
  refine pcall_of Tryz.func37 rfl Tryz.ntmps37 (by kernel_rfl) rfl fun w0 I0 G0 => ?_
  refine aw_seq ?_
  refine aw_region ?_
  refine g_uG (s_box_imm 1002 rfl rfl rfl rfl) rfl ?_
  refine g_u (s_as_imm rfl rfl) ?_
  refine g_nil ?_
  refine normal_thn ?_
  refine aw_seq ?_
  refine aw_seq ?_
  refine aw_region ?_
  refine g_u (s_mv_imm rfl rfl) ?_
  refine g_u (s_ltI rfl rfl rfl) ?_
  refine g_u (s_mv_imm rfl rfl) ?_
  refine g_case (t := 8) rfl ?_
  rintro (hb1 | hb1)
  · rw [hb1]
    have hn0 : n < 0 := of_decide_eq_true hb1
    refine g_skip rfl rfl rfl ?_
    refine g_skip rfl rfl rfl ?_
    refine g_skip rfl rfl rfl ?_
    refine g_skip rfl rfl rfl ?_
    refine g_skip rfl rfl rfl ?_
    refine g_u (s_pick_t rfl rfl rfl) ?_
    refine g_nil ?_
    refine normal_thn ?_
    refine aw_cond_true rfl ?_
    refine aw_seq ?_
    refine aw_region ?_
    refine g_u (s_as_imm rfl rfl) ?_
    refine g_nil ?_
    refine normal_thn ?_
    refine aw_ret ?_
    refine ret_thn ?_
    exact ⟨⟨(rfl : toAV (Al.look _ _) = some _).trans (congrArg some (by (exact congrArg iv (by rw [leftV_F, if_pos hn0])))), rfl⟩, trivial⟩
  · rw [hb1]
    have hn0 : ¬ n < 0 := of_decide_eq_false hb1
    refine g_run rfl rfl (s_fieldAddr rfl rfl fa48_1 rfl) ?_
    refine g_run rfl rfl (s_load_imm rfl rfl rfl tA9 tS9 rfl rfl) ?_
    refine g_run rfl rfl (s_lenS rfl rfl Tryz.underlying9) ?_
    refine g_run rfl rfl (s_mv_imm rfl rfl) ?_
    refine g_run rfl rfl (s_gtI rfl rfl rfl) ?_
    refine g_u (s_pick_f rfl rfl rfl) ?_
    refine g_nil ?_
    refine normal_thn ?_
    refine aw_cond rfl (fun hb2 => ?_) (fun hb2 => ?_)
    · skip
      have ht0 : (v.text.size : Int) > n := of_decide_eq_true hb2
      refine aw_seq ?_
      refine aw_region ?_
      refine g_u (s_as_imm rfl rfl) ?_
      refine g_nil ?_
      refine normal_thn ?_
      refine aw_ret ?_
      refine ret_thn ?_
      exact ⟨⟨(rfl : toAV (Al.look _ _) = some _).trans (congrArg some (by (exact congrArg iv (by rw [leftV_F, if_neg hn0]; unfold leftF; rw [if_neg (by omega)])))), rfl⟩, trivial⟩
    · skip
      have ht0 : ¬ (v.text.size : Int) > n := of_decide_eq_false hb2
      have hL : -1 ≤ n - 1 - v.text.size := by omega
      refine aw_skip ?_
      refine normal_thn ?_
      refine aw_seq ?_
      refine aw_region ?_
      refine g_u (s_mv_imm rfl rfl) ?_
      refine g_u (s_sub rfl rfl rfl) ?_
      refine g_u (s_fieldAddr rfl rfl fa48_1 rfl) ?_
      refine g_u (s_load_imm rfl rfl rfl tA9 tS9 rfl rfl) ?_
      refine g_u (s_lenS rfl rfl Tryz.underlying9) ?_
      refine g_u (s_sub rfl rfl rfl) ?_
      refine g_u (s_as_imm rfl rfl) ?_
      refine g_nil ?_
      refine normal_thn ?_
      refine aw_seq ?_
      refine aw_seq ?_
      refine aw_region ?_
      refine g_u (s_as_imm rfl rfl) ?_
      refine g_nil ?_
      refine normal_thn ?_
      refine aw_block ?_
      refine aw_loop' (fun i : Nat => [(2, .ptr 1002 0), (1002, .box 48 (.imm v.av)), (1, .imm (iv (leftF (n - 1 - v.text.size) (wtVs (v.list.take i))))), (5, .imm (iv (i : Int)))]) (fun i => i ≤ v.list.length) (fun i => v.list.length - i) (0) ?_ ⟨rfl, rfl, look_int rfl (by rw [show wtVs (v.list.take 0) = 0 from rfl, leftF_zero hL, wrap64 (n := n - 1) (by omega) (by omega), wrap64 (by omega) (by omega)]), rfl, trivial⟩ ?_
      · exact Nat.zero_le _
      · rintro i h1; have h1 : i ≤ v.list.length := h1; have bd := leftF_bd hL (wtVs (v.list.take i))
        refine aw_seq ?_
        refine aw_seq ?_
        refine aw_region ?_
        refine g_u (s_mv_imm rfl rfl) ?_
        refine g_u (s_fieldAddr rfl rfl fa48_4 rfl) ?_
        refine g_u (s_load_imm rfl rfl rfl tA46 tS46 rfl rfl) ?_
        refine g_u (s_lenL rfl rfl Tryz.underlying46) ?_
        refine g_u (s_ltI rfl rfl rfl) ?_
        refine g_u (s_mv_imm rfl rfl) ?_
        refine g_case (t := 26) rfl ?_
        rintro (hb3 | hb3)
        · rw [hb3]
          have hiv : i < v.list.length := by have := of_decide_eq_true hb3; (try simp only [List.length_map] at this); omega
          refine g_run rfl rfl (s_mv_imm rfl rfl) ?_
          refine g_run rfl rfl (s_geI rfl rfl rfl) ?_
          refine g_u (s_pick_t rfl rfl rfl) ?_
          refine g_nil ?_
          refine normal_thn ?_
          refine aw_cond rfl (fun hb4 => ?_) (fun hb4 => ?_)
          · skip
            have hs : 0 ≤ leftF (n - 1 - v.text.size) (wtVs (v.list.take i)) := of_decide_eq_true hb4
            have hi9 := leftV_len hs h1
            refine aw_skip ?_
            refine normal_thn ?_
            refine aw_seq ?_
            refine aw_block ?_
            refine aw_region ?_
            refine g_u (s_fieldAddr rfl rfl fa48_4 rfl) ?_
            refine g_u (s_load_imm rfl rfl rfl tA46 tS46 rfl rfl) ?_
            refine g_u (s_mv_imm rfl rfl) ?_
            refine g_u (s_indexAddr rfl rfl rfl Tryz.underlying46 tS48 (by omega) (ixV hiv)) ?_
            refine g_u (s_load_cp rfl rfl tA48 tS48 rfl rfl) ?_
            refine g_u (s_mv_imm rfl rfl) ?_
            refine g_u (s_call1 (ih _ (nthV_mem hiv) _ ⟨bd.1, by have := bd.2; omega⟩) rfl rfl) ?_
            refine g_u (s_as_imm rfl rfl) ?_
            refine g_nil ?_
            refine normal_blk ?_
            refine normal_thn ?_
            refine aw_region ?_
            refine g_u (s_mv_imm rfl rfl) ?_
            refine g_u (s_add rfl rfl rfl) ?_
            refine g_u (s_as_imm rfl rfl) ?_
            refine g_nil ?_
            refine normal_thn ?_
            refine ⟨i + 1, hiv, ⟨rfl, rfl, look_int rfl (leftV_step hiv hs), look_int rfl (by rw [wrap64 (by omega) (by omega)]; rfl), trivial⟩, by (try dsimp only); omega⟩
          · skip
            have hs : ¬ 0 ≤ leftF (n - 1 - v.text.size) (wtVs (v.list.take i)) := of_decide_eq_false hb4
            refine aw_exit ?_
            refine exit_thn ?_
            refine exit_thn ?_
            refine exit_blk ?_
            refine normal_thn ?_
            refine aw_seq ?_
            refine aw_region ?_
            refine g_u (s_fieldAddr rfl rfl fa48_5 rfl) ?_
            refine g_u (s_load_imm rfl rfl rfl tA27 tS27 rfl rfl) ?_
            refine g_u (s_mv_imm rfl rfl) ?_
            refine g_u (s_call1 (ihm _ ⟨bd.1, by have := bd.2; omega⟩) rfl rfl) ?_
            refine g_u (s_as_imm rfl rfl) ?_
            refine g_nil ?_
            refine normal_thn ?_
            refine aw_ret ?_
            exact ⟨⟨(rfl : toAV (Al.look _ _) = some _).trans (congrArg some (by (exact congrArg iv (leftV_fin hn0 ht0 (by first | exact .inl hivn | exact .inr (by omega)))))), rfl⟩, trivial⟩
        · rw [hb3]
          have hivn : i = v.list.length := by have := of_decide_eq_false hb3; (try simp only [List.length_map] at this); omega
          refine g_skip rfl rfl rfl ?_
          refine g_skip rfl rfl rfl ?_
          refine g_u (s_pick_f rfl rfl rfl) ?_
          refine g_nil ?_
          refine normal_thn ?_
          refine aw_cond_false rfl ?_
          refine aw_exit ?_
          refine exit_thn ?_
          refine exit_thn ?_
          refine exit_blk ?_
          refine normal_thn ?_
          refine aw_seq ?_
          refine aw_region ?_
          refine g_u (s_fieldAddr rfl rfl fa48_5 rfl) ?_
          refine g_u (s_load_imm rfl rfl rfl tA27 tS27 rfl rfl) ?_
          refine g_u (s_mv_imm rfl rfl) ?_
          refine g_u (s_call1 (ihm _ ⟨bd.1, by have := bd.2; omega⟩) rfl rfl) ?_
          refine g_u (s_as_imm rfl rfl) ?_
          refine g_nil ?_
          refine normal_thn ?_
          refine aw_ret ?_
          exact ⟨⟨(rfl : toAV (Al.look _ _) = some _).trans (congrArg some (by (exact congrArg iv (leftV_fin hn0 ht0 (by first | exact .inl hivn | exact .inr (by omega)))))), rfl⟩, trivial⟩

set_option maxHeartbeats 400000 in
theorem leftAs_st (l : List GA) (n : Int) (hn : -1000000000000 ≤ n ∧ n ≤ 1000000000) (ih : ∀ a ∈ l, ∀ n : Int, -1 ≤ n ∧ n ≤ 1000000000 → PCall Tryz.prog Γ0 37 [a.val.av, iv n] [iv (leftV a.val n)]) : PCall Tryz.prog Γ0 10 [.sl 7 (l.map avA), iv n] [iv (leftAs l n)] := by
  refine pcall_of Tryz.func10 rfl Tryz.ntmps10 (by kernel_rfl) rfl fun w0 I0 G0 => ?_
  refine aw_seq ?_
  refine aw_region ?_
  refine g_u (s_as_imm rfl rfl) ?_
  refine g_nil ?_
  refine normal_thn ?_
  refine aw_seq ?_
  refine aw_seq ?_
  refine aw_region ?_
  refine g_u (s_as_imm rfl rfl) ?_
  refine g_nil ?_
  refine normal_thn ?_
  refine aw_block ?_
  refine aw_loop' (fun i : Nat => [(0, .imm (.sl 7 (l.map avA))), (1, .imm (iv (leftAs (l.take i) n))), (5, .imm (iv (i : Int)))]) (fun i => i ≤ l.length) (fun i => l.length - i) (0) ?_ ⟨rfl, look_int rfl (leftAs_zero l).symm, rfl, trivial⟩ ?_
  · exact Nat.zero_le _
  · rintro i h1; have h1 : i ≤ l.length := h1; have bd := leftAs_bd' (l.take i) n
    refine aw_seq ?_
    refine aw_seq ?_
    refine aw_region ?_
    refine g_u (s_mv_imm rfl rfl) ?_
    refine g_u (s_mv_imm rfl rfl) ?_
    refine g_u (s_lenL rfl rfl Tryz.underlying27) ?_
    refine g_u (s_ltI rfl rfl rfl) ?_
    refine g_u (s_mv_imm rfl rfl) ?_
    refine g_case (t := 10) rfl ?_
    rintro (hb1 | hb1)
    · rw [hb1]
      have hia : i < l.length := by have := of_decide_eq_true hb1; (try simp only [List.length_map] at this); omega
      refine g_run rfl rfl (s_mv_imm rfl rfl) ?_
      refine g_run rfl rfl (s_geI rfl rfl rfl) ?_
      refine g_u (s_pick_t rfl rfl rfl) ?_
      refine g_nil ?_
      refine normal_thn ?_
      refine aw_cond rfl (fun hb2 => ?_) (fun hb2 => ?_)
      · skip
        have hs : 0 ≤ leftAs (l.take i) n := of_decide_eq_true hb2
        have hi9 := leftAs_len hs h1
        refine aw_skip ?_
        refine normal_thn ?_
        refine aw_seq ?_
        refine aw_block ?_
        refine aw_seq ?_
        refine aw_seq ?_
        refine aw_region ?_
        refine g_u (s_mv_imm rfl rfl) ?_
        refine g_u (s_mv_imm rfl rfl) ?_
        refine g_u (s_indexAddr rfl rfl rfl Tryz.underlying27 tS50 (by omega) (ixA hia)) ?_
        refine g_u (s_fieldAddr_cp rfl rfl fa50_0 rfl rfl) ?_
        refine g_u (s_load_cp rfl rfl tA9 tS9 rfl rfl) ?_
        refine g_u (s_lenS rfl rfl Tryz.underlying9) ?_
        refine g_u (s_mv_imm rfl rfl) ?_
        refine g_u (s_gtI rfl rfl rfl) ?_
        refine g_nil ?_
        refine normal_thn ?_
        refine aw_cond rfl (fun hb3 => ?_) (fun hb3 => ?_)
        · skip
          have hk : ((nthA l i).key.size : Int) > leftAs (l.take i) n := of_decide_eq_true hb3
          refine aw_seq ?_
          refine aw_region ?_
          refine g_u (s_as_imm rfl rfl) ?_
          refine g_nil ?_
          refine normal_thn ?_
          refine aw_ret ?_
          refine ret_thn ?_
          refine ret_blk ?_
          refine ret_thn ?_
          refine ret_thn ?_
          refine ret_blk ?_
          refine ret_thn ?_
          exact ⟨⟨(rfl : toAV (Al.look _ _) = some _).trans (congrArg some (by (exact congrArg iv (leftAs_out hia hs hk)))), rfl⟩, trivial⟩
        · skip
          have hk : ¬ ((nthA l i).key.size : Int) > leftAs (l.take i) n := of_decide_eq_false hb3
          have ew : IntKind.i64.wrap (leftAs (l.take i) n - (nthA l i).key.size) = leftAs (l.take i) n - (nthA l i).key.size := wrap64 (by omega) (by omega)
          refine aw_skip ?_
          refine normal_thn ?_
          refine aw_draw mixed ?_
          refine g_u (s_mv_imm rfl rfl) ?_
          refine g_u (s_mv_imm rfl rfl) ?_
          refine g_u (s_indexAddr rfl rfl rfl Tryz.underlying27 tS50 (by omega) (ixA hia)) ?_
          refine g_u (s_fieldAddr_cp rfl rfl fa50_1 rfl rfl) ?_
          refine g_u (s_load_cp rfl rfl tA48 tS48 rfl rfl) ?_
          refine g_u (s_mv_imm rfl rfl) ?_
          refine g_u (s_mv_imm rfl rfl) ?_
          refine g_u (s_mv_imm rfl rfl) ?_
          refine g_u (s_indexAddr rfl rfl rfl Tryz.underlying27 tS50 (by omega) (ixA hia)) ?_
          refine g_u (s_fieldAddr_cp rfl rfl fa50_0 rfl rfl) ?_
          refine g_u (s_load_cp rfl rfl tA9 tS9 rfl rfl) ?_
          refine g_u (s_lenS rfl rfl Tryz.underlying9) ?_
          refine g_u (s_sub rfl rfl rfl) ?_
          refine g_u (s_call1 ((show PCall Tryz.prog Γ0 37 [(nthA l i).val.av, iv (IntKind.i64.wrap (leftAs (l.take i) n - (nthA l i).key.size))] [iv (leftV (nthA l i).val (leftAs (l.take i) n - (nthA l i).key.size))] from by rw [ew]; exact ih _ (nthA_mem hia) _ ⟨by omega, by omega⟩)) rfl rfl) ?_
          refine g_u (s_as_imm rfl rfl) ?_
          refine g_nil ⟨by kernel_rfl, ?_⟩
          refine normal_blk ?_
          refine normal_thn ?_
          refine aw_region ?_
          refine g_u (s_mv_imm rfl rfl) ?_
          refine g_u (s_add rfl rfl rfl) ?_
          refine g_u (s_as_imm rfl rfl) ?_
          refine g_nil ?_
          refine normal_thn ?_
          refine ⟨i + 1, hia, ⟨rfl, look_int rfl (leftAs_step hia hs hk), look_int rfl (by rw [wrap64 (by omega) (by omega)]; rfl), trivial⟩, by (try dsimp only); omega⟩
      · skip
        have hs : ¬ 0 ≤ leftAs (l.take i) n := of_decide_eq_false hb2
        refine aw_exit ?_
        refine exit_thn ?_
        refine exit_thn ?_
        refine exit_blk ?_
        refine normal_thn ?_
        refine aw_seq ?_
        refine aw_region ?_
        refine g_u (s_mv_imm rfl rfl) ?_
        refine g_u (s_as_imm rfl rfl) ?_
        refine g_nil ?_
        refine normal_thn ?_
        refine aw_ret ?_
        exact ⟨⟨(rfl : toAV (Al.look _ _) = some _).trans (congrArg some (by (exact congrArg iv (leftAs_fin (by first | exact .inl hian | exact .inr (by omega)))))), rfl⟩, trivial⟩
    · rw [hb1]
      have hian : i = l.length := by have := of_decide_eq_false hb1; (try simp only [List.length_map] at this); omega
      refine g_skip rfl rfl rfl ?_
      refine g_skip rfl rfl rfl ?_
      refine g_u (s_pick_f rfl rfl rfl) ?_
      refine g_nil ?_
      refine normal_thn ?_
      refine aw_cond_false rfl ?_
      refine aw_exit ?_
      refine exit_thn ?_
      refine exit_thn ?_
      refine exit_blk ?_
      refine normal_thn ?_
      refine aw_seq ?_
      refine aw_region ?_
      refine g_u (s_mv_imm rfl rfl) ?_
      refine g_u (s_as_imm rfl rfl) ?_
      refine g_nil ?_
      refine normal_thn ?_
      refine aw_ret ?_
      exact ⟨⟨(rfl : toAV (Al.look _ _) = some _).trans (congrArg some (by (exact congrArg iv (leftAs_fin (by first | exact .inl hian | exact .inr (by omega)))))), rfl⟩, trivial⟩

theorem leftV_c (v : GV) : ∀ n : Int, -1 ≤ n ∧ n ≤ 1000000000 → PCall Tryz.prog Γ0 37 [v.av, iv n] [iv (leftV v n)] := by
  refine GV.ind (P := fun v => ∀ n : Int, -1 ≤ n ∧ n ≤ 1000000000 → PCall Tryz.prog Γ0 37 [v.av, iv n] [iv (leftV v n)]) ?_ v
  intro v h1 h2 n hn
  exact leftV_st v n hn h1 fun n hn => leftAs_st v.map n (by omega) h2
theorem leftAs_c (l : List GA) (n : Int) (hn : -1000000000000 ≤ n ∧ n ≤ 1000000000) : PCall Tryz.prog Γ0 10 [.sl 7 (l.map avA), iv n] [iv (leftAs l n)] := leftAs_st l n hn fun a _ => leftV_c a.val

end Go.Proofs

namespace Go.Proofs
open Go Go.Al
set_option maxRecDepth 10000
theorem z33_w : AV.width z33 = 42 := by kernel_rfl
theorem z44_w : AV.width z44 = 26 := by kernel_rfl








end Go.Proofs

namespace Go.Proofs
open Go Go.Al
set_option maxRecDepth 10000







end Go.Proofs

namespace Go.Proofs
open Go Go.Al
set_option maxRecDepth 10000





end Go.Proofs

namespace Go.Proofs
open Go Go.Al
set_option maxRecDepth 10000






end Go.Proofs

namespace Go.Proofs
open Go Go.Al
set_option maxRecDepth 10000
end Go.Proofs

namespace Go.Proofs
open Go Go.Al
set_option maxRecDepth 10000
end Go.Proofs

namespace Go.Proofs
open Go Go.Al
set_option maxRecDepth 10000




end Go.Proofs

namespace Go.Proofs
open Go Go.Al
set_option maxRecDepth 10000

end Go.Proofs

namespace Go.Proofs
open Go Go.Al
set_option maxRecDepth 10000


end Go.Proofs

namespace Go.Proofs
open Go Go.Al
set_option maxRecDepth 10000
set_option maxHeartbeats 4000000 in
theorem leftS_c (s : GSpan) (n : Int) (hn : -1000000000000 ≤ n ∧ n ≤ 1000000000) : PCall Tryz.prog Γ0 4 [s.av, iv n] [iv (leftS s n)] := by
  refine pcall_of Tryz.func4 rfl Tryz.ntmps4 (by kernel_rfl) rfl fun w0 I0 G0 => ?_
  refine aw_seq ?_
  refine aw_region ?_
  refine g_uG (s_box_imm 1002 rfl rfl rfl rfl) rfl ?_
  refine g_u (s_as_imm rfl rfl) ?_
  refine g_nil ?_
  refine normal_thn ?_
  refine aw_seq ?_
  refine aw_seq ?_
  refine aw_region ?_
  refine g_u (s_mv_imm rfl rfl) ?_
  refine g_u (s_ltI rfl rfl rfl) ?_
  refine g_u (s_mv_imm rfl rfl) ?_
  refine g_case (t := 9) rfl ?_
  rintro (hb1 | hb1)
  · rw [hb1]
    have z1 : n < 0 := of_decide_eq_true hb1
    refine g_skip rfl rfl rfl ?_
    refine g_skip rfl rfl rfl ?_
    refine g_skip rfl rfl rfl ?_
    refine g_skip rfl rfl rfl ?_
    refine g_skip rfl rfl rfl ?_
    refine g_u (s_pick_t rfl rfl rfl) ?_
    refine g_u (s_mv_imm rfl rfl) ?_
    refine g_skip rfl rfl rfl ?_
    refine g_skip rfl rfl rfl ?_
    refine g_skip rfl rfl rfl ?_
    refine g_skip rfl rfl rfl ?_
    refine g_skip rfl rfl rfl ?_
    refine g_u (s_pick_t rfl rfl rfl) ?_
    refine g_u (s_mv_imm rfl rfl) ?_
    refine g_skip rfl rfl rfl ?_
    refine g_skip rfl rfl rfl ?_
    refine g_skip rfl rfl rfl ?_
    refine g_skip rfl rfl rfl ?_
    refine g_skip rfl rfl rfl ?_
    refine g_skip rfl rfl rfl ?_
    refine g_u (s_pick_t rfl rfl rfl) ?_
    refine g_nil ?_
    refine normal_thn ?_
    refine aw_cond_true rfl ?_
    refine aw_seq ?_
    refine aw_region ?_
    refine g_u (s_as_imm rfl rfl) ?_
    refine g_nil ?_
    refine normal_thn ?_
    refine aw_ret ?_
    refine ret_thn ?_
    exact ⟨⟨(rfl : toAV (Al.look _ _) = some _).trans (congrArg some (by (exact congrArg iv (by unfold leftS; first | (rw [if_pos (by omega)]; done) | (rw [if_neg (by omega), g4, gfin]; done) | (rw [if_neg (by omega), g4, leftL_out hi2 (by omega) hk2]; done) | (rw [if_neg (by omega), h4, leftE_out hi (by omega) hk]; exact (leftL_neg _ (by omega)).symm))))), rfl⟩, trivial⟩
  · rw [hb1]
    have z1 : ¬ n < 0 := of_decide_eq_false hb1
    refine g_run rfl rfl (s_fieldAddr rfl rfl fa33_3 rfl) ?_
    refine g_run rfl rfl (s_load_imm rfl rfl rfl tA9 tS9 rfl rfl) ?_
    refine g_run rfl rfl (s_lenS rfl rfl Tryz.underlying9) ?_
    refine g_run rfl rfl (s_mv_imm rfl rfl) ?_
    refine g_run rfl rfl (s_gtI rfl rfl rfl) ?_
    refine g_u (s_pick_f rfl rfl rfl) ?_
    refine g_u (s_mv_imm rfl rfl) ?_
    refine g_case (t := 16) rfl ?_
    rintro (hb2 | hb2)
    · rw [hb2]
      have z2 : (s.state.size : Int) > n := of_decide_eq_true hb2
      refine g_skip rfl rfl rfl ?_
      refine g_skip rfl rfl rfl ?_
      refine g_skip rfl rfl rfl ?_
      refine g_skip rfl rfl rfl ?_
      refine g_skip rfl rfl rfl ?_
      refine g_u (s_pick_t rfl rfl rfl) ?_
      refine g_u (s_mv_imm rfl rfl) ?_
      refine g_skip rfl rfl rfl ?_
      refine g_skip rfl rfl rfl ?_
      refine g_skip rfl rfl rfl ?_
      refine g_skip rfl rfl rfl ?_
      refine g_skip rfl rfl rfl ?_
      refine g_skip rfl rfl rfl ?_
      refine g_u (s_pick_t rfl rfl rfl) ?_
      refine g_nil ?_
      refine normal_thn ?_
      refine aw_cond_true rfl ?_
      refine aw_seq ?_
      refine aw_region ?_
      refine g_u (s_as_imm rfl rfl) ?_
      refine g_nil ?_
      refine normal_thn ?_
      refine aw_ret ?_
      refine ret_thn ?_
      exact ⟨⟨(rfl : toAV (Al.look _ _) = some _).trans (congrArg some (by (exact congrArg iv (by unfold leftS; first | (rw [if_pos (by omega)]; done) | (rw [if_neg (by omega), g4, gfin]; done) | (rw [if_neg (by omega), g4, leftL_out hi2 (by omega) hk2]; done) | (rw [if_neg (by omega), h4, leftE_out hi (by omega) hk]; exact (leftL_neg _ (by omega)).symm))))), rfl⟩, trivial⟩
    · rw [hb2]
      have z2 : ¬ (s.state.size : Int) > n := of_decide_eq_false hb2
      refine g_run rfl rfl (s_fieldAddr rfl rfl fa33_4 rfl) ?_
      refine g_run rfl rfl (s_load_imm rfl rfl rfl tA9 tS9 rfl rfl) ?_
      refine g_run rfl rfl (s_lenS rfl rfl Tryz.underlying9) ?_
      refine g_run rfl rfl (s_mv_imm rfl rfl) ?_
      refine g_run rfl rfl (s_gtI rfl rfl rfl) ?_
      refine g_u (s_pick_f rfl rfl rfl) ?_
      refine g_u (s_mv_imm rfl rfl) ?_
      refine g_case (t := 23) rfl ?_
      rintro (hb3 | hb3)
      · rw [hb3]
        have z3 : (s.name.size : Int) > n := of_decide_eq_true hb3
        refine g_skip rfl rfl rfl ?_
        refine g_skip rfl rfl rfl ?_
        refine g_skip rfl rfl rfl ?_
        refine g_skip rfl rfl rfl ?_
        refine g_skip rfl rfl rfl ?_
        refine g_skip rfl rfl rfl ?_
        refine g_u (s_pick_t rfl rfl rfl) ?_
        refine g_nil ?_
        refine normal_thn ?_
        refine aw_cond_true rfl ?_
        refine aw_seq ?_
        refine aw_region ?_
        refine g_u (s_as_imm rfl rfl) ?_
        refine g_nil ?_
        refine normal_thn ?_
        refine aw_ret ?_
        refine ret_thn ?_
        exact ⟨⟨(rfl : toAV (Al.look _ _) = some _).trans (congrArg some (by (exact congrArg iv (by unfold leftS; first | (rw [if_pos (by omega)]; done) | (rw [if_neg (by omega), g4, gfin]; done) | (rw [if_neg (by omega), g4, leftL_out hi2 (by omega) hk2]; done) | (rw [if_neg (by omega), h4, leftE_out hi (by omega) hk]; exact (leftL_neg _ (by omega)).symm))))), rfl⟩, trivial⟩
      · rw [hb3]
        have z3 : ¬ (s.name.size : Int) > n := of_decide_eq_false hb3
        refine g_run rfl rfl (s_fieldAddr rfl rfl fa33_11 rfl) ?_
        refine g_run rfl rfl (s_fieldAddr rfl rfl fa31_1 rfl) ?_
        refine g_run rfl rfl (s_load_imm rfl rfl rfl tA9 tS9 rfl rfl) ?_
        refine g_run rfl rfl (s_lenS rfl rfl Tryz.underlying9) ?_
        refine g_run rfl rfl (s_mv_imm rfl rfl) ?_
        refine g_run rfl rfl (s_gtI rfl rfl rfl) ?_
        refine g_u (s_pick_f rfl rfl rfl) ?_
        refine g_nil ?_
        refine normal_thn ?_
        refine aw_cond rfl (fun hb4 => ?_) (fun hb4 => ?_)
        · skip
          have z4 : (s.note.size : Int) > n := of_decide_eq_true hb4
          refine aw_seq ?_
          refine aw_region ?_
          refine g_u (s_as_imm rfl rfl) ?_
          refine g_nil ?_
          refine normal_thn ?_
          refine aw_ret ?_
          refine ret_thn ?_
          exact ⟨⟨(rfl : toAV (Al.look _ _) = some _).trans (congrArg some (by (exact congrArg iv (by unfold leftS; first | (rw [if_pos (by omega)]; done) | (rw [if_neg (by omega), g4, gfin]; done) | (rw [if_neg (by omega), g4, leftL_out hi2 (by omega) hk2]; done) | (rw [if_neg (by omega), h4, leftE_out hi (by omega) hk]; exact (leftL_neg _ (by omega)).symm))))), rfl⟩, trivial⟩
        · skip
          have z4 : ¬ (s.note.size : Int) > n := of_decide_eq_false hb4
          have bm := leftAs_bd' s.attrs (n - 1 - s.state.size - s.name.size - s.note.size)
          have ew : leftAs s.attrs (IntKind.i64.wrap (IntKind.i64.wrap (IntKind.i64.wrap (IntKind.i64.wrap (n - 1) - s.state.size) - s.name.size) - s.note.size)) = leftAs s.attrs (n - 1 - s.state.size - s.name.size - s.note.size) := by rw [wrap64 (n := n - 1) (by omega) (by omega), wrap64 (n := n - 1 - s.state.size) (by omega) (by omega), wrap64 (n := n - 1 - s.state.size - s.name.size) (by omega) (by omega), wrap64 (by omega) (by omega)]
          refine aw_skip ?_
          refine normal_thn ?_
          refine aw_seq ?_
          refine aw_region ?_
          refine g_u (s_fieldAddr rfl rfl fa33_8 rfl) ?_
          refine g_u (s_load_imm rfl rfl rfl tA27 tS27 rfl rfl) ?_
          refine g_u (s_mv_imm rfl rfl) ?_
          refine g_u (s_sub rfl rfl rfl) ?_
          refine g_u (s_fieldAddr rfl rfl fa33_3 rfl) ?_
          refine g_u (s_load_imm rfl rfl rfl tA9 tS9 rfl rfl) ?_
          refine g_u (s_lenS rfl rfl Tryz.underlying9) ?_
          refine g_u (s_sub rfl rfl rfl) ?_
          refine g_u (s_fieldAddr rfl rfl fa33_4 rfl) ?_
          refine g_u (s_load_imm rfl rfl rfl tA9 tS9 rfl rfl) ?_
          refine g_u (s_lenS rfl rfl Tryz.underlying9) ?_
          refine g_u (s_sub rfl rfl rfl) ?_
          refine g_u (s_fieldAddr rfl rfl fa33_11 rfl) ?_
          refine g_u (s_fieldAddr rfl rfl fa31_1 rfl) ?_
          refine g_u (s_load_imm rfl rfl rfl tA9 tS9 rfl rfl) ?_
          refine g_u (s_lenS rfl rfl Tryz.underlying9) ?_
          refine g_u (s_sub rfl rfl rfl) ?_
          refine g_u (s_call1 (leftAs_c _ _ ⟨by ((try simp only [decide_eq_true_eq, decide_eq_false_iff_not, bne_iff_ne, ne_eq, beq_iff_eq, bne_eq_false_iff_eq, beq_eq_false_iff_ne, Bool.not_eq_true', Bool.not_eq_false', gt_iff_lt, ge_iff_le] at *); (repeat simp (disch := omega) only [wrap64, wrap32] at *)); omega, by ((try simp only [decide_eq_true_eq, decide_eq_false_iff_not, bne_iff_ne, ne_eq, beq_iff_eq, bne_eq_false_iff_eq, beq_eq_false_iff_ne, Bool.not_eq_true', Bool.not_eq_false', gt_iff_lt, ge_iff_le] at *); (repeat simp (disch := omega) only [wrap64, wrap32] at *)); omega⟩) rfl rfl) ?_
          refine g_u (s_as_imm rfl rfl) ?_
          refine g_nil ?_
          refine normal_thn ?_
          refine aw_seq ?_
          refine aw_seq ?_
          refine aw_region ?_
          refine g_u (s_as_imm rfl rfl) ?_
          refine g_nil ?_
          refine normal_thn ?_
          refine aw_block ?_
          refine aw_loop' (fun j : Nat × Int => [(2, .ptr 1002 0), (1002, .box 33 (.imm s.av)), (1, .imm (iv j.2)), (5, .imm (iv (j.1 : Int)))]) (fun j => j.1 ≤ s.events.length ∧ (-1000000000000 ≤ j.2 ∧ j.2 ≤ 1000000000) ∧ ((j.1 : Int) ≤ leftAs s.attrs (n - 1 - s.state.size - s.name.size - s.note.size) - j.2) ∧ leftE s.events (leftAs s.attrs (n - 1 - s.state.size - s.name.size - s.note.size)) = leftE (s.events.drop j.1) j.2) (fun j => s.events.length - j.1) (⟨0, leftAs s.attrs (n - 1 - s.state.size - s.name.size - s.note.size)⟩) ?_ ⟨rfl, rfl, look_int rfl (by rw [ew]), rfl, trivial⟩ ?_
          · exact ⟨Nat.zero_le _, ⟨by have := bm.2.1; omega, by omega⟩, by simp, rfl⟩
          · rintro ⟨i, m⟩ ⟨h1, h2, h3, h4⟩; dsimp only at h1 h2 h3 h4
            refine aw_seq ?_
            refine aw_seq ?_
            refine aw_region ?_
            refine g_u (s_mv_imm rfl rfl) ?_
            refine g_u (s_fieldAddr rfl rfl fa33_9 rfl) ?_
            refine g_u (s_load_imm rfl rfl rfl tA28 tS28 rfl rfl) ?_
            refine g_u (s_lenL rfl rfl Tryz.underlying28) ?_
            refine g_u (s_ltI rfl rfl rfl) ?_
            refine g_u (s_mv_imm rfl rfl) ?_
            refine g_case (t := 54) rfl ?_
            rintro (hb5 | hb5)
            · rw [hb5]
              have hi : i < s.events.length := by have := of_decide_eq_true hb5; (try simp only [List.length_map] at this); omega
              refine g_run rfl rfl (s_mv_imm rfl rfl) ?_
              refine g_run rfl rfl (s_geI rfl rfl rfl) ?_
              refine g_u (s_pick_t rfl rfl rfl) ?_
              refine g_nil ?_
              refine normal_thn ?_
              refine aw_cond rfl (fun hb6 => ?_) (fun hb6 => ?_)
              · skip
                have hs : ¬ m < 0 := by have := of_decide_eq_true hb6; omega
                refine aw_skip ?_
                refine normal_thn ?_
                refine aw_seq ?_
                refine aw_block ?_
                refine aw_seq ?_
                refine aw_seq ?_
                refine aw_region ?_
                refine g_u (s_fieldAddr rfl rfl fa33_9 rfl) ?_
                refine g_u (s_load_imm rfl rfl rfl tA28 tS28 rfl rfl) ?_
                refine g_u (s_mv_imm rfl rfl) ?_
                refine g_u (s_indexAddr rfl rfl rfl Tryz.underlying28 tS42 (by omega) (ixE hi)) ?_
                refine g_u (s_fieldAddr_cp rfl rfl fa42_1 rfl rfl) ?_
                refine g_u (s_load_cp rfl rfl tA9 tS9 rfl rfl) ?_
                refine g_u (s_lenS rfl rfl Tryz.underlying9) ?_
                refine g_u (s_mv_imm rfl rfl) ?_
                refine g_u (s_gtI rfl rfl rfl) ?_
                refine g_nil ?_
                refine normal_thn ?_
                refine aw_cond rfl (fun hb7 => ?_) (fun hb7 => ?_)
                · skip
                  have hk : ((nthE s.events i).name.size : Int) > m := of_decide_eq_true hb7
                  refine aw_seq ?_
                  refine aw_region ?_
                  refine g_u (s_as_imm rfl rfl) ?_
                  refine g_nil ?_
                  refine normal_thn ?_
                  refine aw_ret ?_
                  refine ret_thn ?_
                  refine ret_blk ?_
                  refine ret_thn ?_
                  refine ret_thn ?_
                  refine ret_blk ?_
                  refine ret_thn ?_
                  exact ⟨⟨(rfl : toAV (Al.look _ _) = some _).trans (congrArg some (by (exact congrArg iv (by unfold leftS; first | (rw [if_pos (by omega)]; done) | (rw [if_neg (by omega), g4, gfin]; done) | (rw [if_neg (by omega), g4, leftL_out hi2 (by omega) hk2]; done) | (rw [if_neg (by omega), h4, leftE_out hi (by omega) hk]; exact (leftL_neg _ (by omega)).symm))))), rfl⟩, trivial⟩
                · skip
                  have hk : ¬ ((nthE s.events i).name.size : Int) > m := of_decide_eq_false hb7
                  refine aw_skip ?_
                  refine normal_thn ?_
                  refine aw_draw mixed ?_
                  refine g_u (s_fieldAddr rfl rfl fa33_9 rfl) ?_
                  refine g_u (s_load_imm rfl rfl rfl tA28 tS28 rfl rfl) ?_
                  refine g_u (s_mv_imm rfl rfl) ?_
                  refine g_u (s_indexAddr rfl rfl rfl Tryz.underlying28 tS42 (by omega) (ixE hi)) ?_
                  refine g_u (s_fieldAddr_cp rfl rfl fa42_2 rfl rfl) ?_
                  refine g_u (s_load_cp rfl rfl tA27 tS27 rfl rfl) ?_
                  refine g_u (s_mv_imm rfl rfl) ?_
                  refine g_u (s_sub rfl rfl rfl) ?_
                  refine g_u (s_fieldAddr rfl rfl fa33_9 rfl) ?_
                  refine g_u (s_load_imm rfl rfl rfl tA28 tS28 rfl rfl) ?_
                  refine g_u (s_mv_imm rfl rfl) ?_
                  refine g_u (s_indexAddr rfl rfl rfl Tryz.underlying28 tS42 (by omega) (ixE hi)) ?_
                  refine g_u (s_fieldAddr_cp rfl rfl fa42_1 rfl rfl) ?_
                  refine g_u (s_load_cp rfl rfl tA9 tS9 rfl rfl) ?_
                  refine g_u (s_lenS rfl rfl Tryz.underlying9) ?_
                  refine g_u (s_sub rfl rfl rfl) ?_
                  refine g_u (s_call1 (leftAs_c _ _ ⟨by ((try simp only [decide_eq_true_eq, decide_eq_false_iff_not, bne_iff_ne, ne_eq, beq_iff_eq, bne_eq_false_iff_eq, beq_eq_false_iff_ne, Bool.not_eq_true', Bool.not_eq_false', gt_iff_lt, ge_iff_le] at *); (repeat simp (disch := omega) only [wrap64, wrap32] at *)); omega, by ((try simp only [decide_eq_true_eq, decide_eq_false_iff_not, bne_iff_ne, ne_eq, beq_iff_eq, bne_eq_false_iff_eq, beq_eq_false_iff_ne, Bool.not_eq_true', Bool.not_eq_false', gt_iff_lt, ge_iff_le] at *); (repeat simp (disch := omega) only [wrap64, wrap32] at *)); omega⟩) rfl rfl) ?_
                  refine g_u (s_as_imm rfl rfl) ?_
                  refine g_nil ⟨by kernel_rfl, ?_⟩
                  refine normal_blk ?_
                  refine normal_thn ?_
                  refine aw_region ?_
                  refine g_u (s_mv_imm rfl rfl) ?_
                  refine g_u (s_add rfl rfl rfl) ?_
                  refine g_u (s_as_imm rfl rfl) ?_
                  refine g_nil ?_
                  refine normal_thn ?_
                  have ed := leftE_drop (m := m) hi (by omega) hk
                  have bl := leftAs_bd' (nthE s.events i).attrs (m - 1 - (nthE s.events i).name.size)
                  refine ⟨⟨i + 1, leftAs (nthE s.events i).attrs (m - 1 - (nthE s.events i).name.size)⟩, ⟨hi, ⟨by dsimp only; omega, by dsimp only; omega⟩, by dsimp only; omega, by dsimp only; rw [h4, ed]⟩, ⟨rfl, rfl, look_int rfl (by dsimp only; rw [wrap64 (n := m - 1) (by omega) (by omega), wrap64 (by omega) (by omega)]), look_int rfl (by rw [wrap64 (by omega) (by omega)]; rfl), trivial⟩, by dsimp only; omega⟩
              · skip
                have hs : m < 0 := by have := of_decide_eq_false hb6; omega
                have hm : leftE s.events (leftAs s.attrs (n - 1 - s.state.size - s.name.size - s.note.size)) = m := by rw [h4]; exact leftE_neg _ hs
                refine aw_exit ?_
                refine exit_thn ?_
                refine exit_thn ?_
                refine exit_blk ?_
                refine normal_thn ?_
                refine aw_seq ?_
                refine aw_seq ?_
                refine aw_region ?_
                refine g_u (s_as_imm rfl rfl) ?_
                refine g_nil ?_
                refine normal_thn ?_
                refine aw_block ?_
                refine aw_loop' (fun j : Nat × Int => [(2, .ptr 1002 0), (1002, .box 33 (.imm s.av)), (1, .imm (iv j.2)), (6, .imm (iv (j.1 : Int)))]) (fun j => j.1 ≤ s.links.length ∧ (-1000000000000 ≤ j.2 ∧ j.2 ≤ 1000000000) ∧ ((j.1 : Int) ≤ leftE s.events (leftAs s.attrs (n - 1 - s.state.size - s.name.size - s.note.size)) - j.2) ∧ leftL s.links (leftE s.events (leftAs s.attrs (n - 1 - s.state.size - s.name.size - s.note.size))) = leftL (s.links.drop j.1) j.2) (fun j => s.links.length - j.1) (⟨0, m⟩) ?_ ⟨rfl, rfl, rfl, rfl, trivial⟩ ?_
                · exact ⟨Nat.zero_le _, h2, by rw [hm]; simp, by rw [hm]; rfl⟩
                · rintro ⟨i2, m2⟩ ⟨g1, g2, g3, g4⟩; dsimp only at g1 g2 g3 g4
                  refine aw_seq ?_
                  refine aw_seq ?_
                  refine aw_region ?_
                  refine g_u (s_mv_imm rfl rfl) ?_
                  refine g_u (s_fieldAddr rfl rfl fa33_10 rfl) ?_
                  refine g_u (s_load_imm rfl rfl rfl tA29 tS29 rfl rfl) ?_
                  refine g_u (s_lenL rfl rfl Tryz.underlying29) ?_
                  refine g_u (s_ltI rfl rfl rfl) ?_
                  refine g_u (s_mv_imm rfl rfl) ?_
                  refine g_case (t := 91) rfl ?_
                  rintro (hb8 | hb8)
                  · rw [hb8]
                    have hi2 : i2 < s.links.length := by have := of_decide_eq_true hb8; (try simp only [List.length_map] at this); omega
                    refine g_run rfl rfl (s_mv_imm rfl rfl) ?_
                    refine g_run rfl rfl (s_geI rfl rfl rfl) ?_
                    refine g_u (s_pick_t rfl rfl rfl) ?_
                    refine g_nil ?_
                    refine normal_thn ?_
                    refine aw_cond rfl (fun hb9 => ?_) (fun hb9 => ?_)
                    · skip
                      have hs2 : ¬ m2 < 0 := by have := of_decide_eq_true hb9; omega
                      refine aw_skip ?_
                      refine normal_thn ?_
                      refine aw_seq ?_
                      refine aw_block ?_
                      refine aw_seq ?_
                      refine aw_seq ?_
                      refine aw_region ?_
                      refine g_u (s_fieldAddr rfl rfl fa33_10 rfl) ?_
                      refine g_u (s_load_imm rfl rfl rfl tA29 tS29 rfl rfl) ?_
                      refine g_u (s_mv_imm rfl rfl) ?_
                      refine g_u (s_indexAddr rfl rfl rfl Tryz.underlying29 tS44 (by omega) (ixL hi2)) ?_
                      refine g_u (s_fieldAddr_cp rfl rfl fa44_2 rfl rfl) ?_
                      refine g_u (s_load_cp rfl rfl tA9 tS9 rfl rfl) ?_
                      refine g_u (s_lenS rfl rfl Tryz.underlying9) ?_
                      refine g_u (s_mv_imm rfl rfl) ?_
                      refine g_u (s_gtI rfl rfl rfl) ?_
                      refine g_nil ?_
                      refine normal_thn ?_
                      refine aw_cond rfl (fun hb10 => ?_) (fun hb10 => ?_)
                      · skip
                        have hk2 : ((nthL s.links i2).state.size : Int) > m2 := of_decide_eq_true hb10
                        refine aw_seq ?_
                        refine aw_region ?_
                        refine g_u (s_as_imm rfl rfl) ?_
                        refine g_nil ?_
                        refine normal_thn ?_
                        refine aw_ret ?_
                        refine ret_thn ?_
                        refine ret_blk ?_
                        refine ret_thn ?_
                        refine ret_thn ?_
                        refine ret_blk ?_
                        refine ret_thn ?_
                        exact ⟨⟨(rfl : toAV (Al.look _ _) = some _).trans (congrArg some (by (exact congrArg iv (by unfold leftS; first | (rw [if_pos (by omega)]; done) | (rw [if_neg (by omega), g4, gfin]; done) | (rw [if_neg (by omega), g4, leftL_out hi2 (by omega) hk2]; done) | (rw [if_neg (by omega), h4, leftE_out hi (by omega) hk]; exact (leftL_neg _ (by omega)).symm))))), rfl⟩, trivial⟩
                      · skip
                        have hk2 : ¬ ((nthL s.links i2).state.size : Int) > m2 := of_decide_eq_false hb10
                        refine aw_skip ?_
                        refine normal_thn ?_
                        refine aw_draw mixed ?_
                        refine g_u (s_fieldAddr rfl rfl fa33_10 rfl) ?_
                        refine g_u (s_load_imm rfl rfl rfl tA29 tS29 rfl rfl) ?_
                        refine g_u (s_mv_imm rfl rfl) ?_
                        refine g_u (s_indexAddr rfl rfl rfl Tryz.underlying29 tS44 (by omega) (ixL hi2)) ?_
                        refine g_u (s_fieldAddr_cp rfl rfl fa44_3 rfl rfl) ?_
                        refine g_u (s_load_cp rfl rfl tA27 tS27 rfl rfl) ?_
                        refine g_u (s_mv_imm rfl rfl) ?_
                        refine g_u (s_sub rfl rfl rfl) ?_
                        refine g_u (s_fieldAddr rfl rfl fa33_10 rfl) ?_
                        refine g_u (s_load_imm rfl rfl rfl tA29 tS29 rfl rfl) ?_
                        refine g_u (s_mv_imm rfl rfl) ?_
                        refine g_u (s_indexAddr rfl rfl rfl Tryz.underlying29 tS44 (by omega) (ixL hi2)) ?_
                        refine g_u (s_fieldAddr_cp rfl rfl fa44_2 rfl rfl) ?_
                        refine g_u (s_load_cp rfl rfl tA9 tS9 rfl rfl) ?_
                        refine g_u (s_lenS rfl rfl Tryz.underlying9) ?_
                        refine g_u (s_sub rfl rfl rfl) ?_
                        refine g_u (s_call1 (leftAs_c _ _ ⟨by ((try simp only [decide_eq_true_eq, decide_eq_false_iff_not, bne_iff_ne, ne_eq, beq_iff_eq, bne_eq_false_iff_eq, beq_eq_false_iff_ne, Bool.not_eq_true', Bool.not_eq_false', gt_iff_lt, ge_iff_le] at *); (repeat simp (disch := omega) only [wrap64, wrap32] at *)); omega, by ((try simp only [decide_eq_true_eq, decide_eq_false_iff_not, bne_iff_ne, ne_eq, beq_iff_eq, bne_eq_false_iff_eq, beq_eq_false_iff_ne, Bool.not_eq_true', Bool.not_eq_false', gt_iff_lt, ge_iff_le] at *); (repeat simp (disch := omega) only [wrap64, wrap32] at *)); omega⟩) rfl rfl) ?_
                        refine g_u (s_as_imm rfl rfl) ?_
                        refine g_nil ⟨by kernel_rfl, ?_⟩
                        refine normal_blk ?_
                        refine normal_thn ?_
                        refine aw_region ?_
                        refine g_u (s_mv_imm rfl rfl) ?_
                        refine g_u (s_add rfl rfl rfl) ?_
                        refine g_u (s_as_imm rfl rfl) ?_
                        refine g_nil ?_
                        refine normal_thn ?_
                        have ed := leftL_drop (m := m2) hi2 (by omega) hk2
                        have bl := leftAs_bd' (nthL s.links i2).attrs (m2 - 1 - (nthL s.links i2).state.size)
                        refine ⟨⟨i2 + 1, leftAs (nthL s.links i2).attrs (m2 - 1 - (nthL s.links i2).state.size)⟩, ⟨hi2, ⟨by dsimp only; omega, by dsimp only; omega⟩, by dsimp only; omega, by dsimp only; rw [g4, ed]⟩, ⟨rfl, rfl, look_int rfl (by dsimp only; rw [wrap64 (n := m2 - 1) (by omega) (by omega), wrap64 (by omega) (by omega)]), look_int rfl (by rw [wrap64 (by omega) (by omega)]; rfl), trivial⟩, by dsimp only; omega⟩
                    · skip
                      have hs2 : m2 < 0 := by have := of_decide_eq_false hb9; omega
                      have gfin : leftL (s.links.drop i2) m2 = m2 := leftL_neg _ hs2
                      refine aw_exit ?_
                      refine exit_thn ?_
                      refine exit_thn ?_
                      refine exit_blk ?_
                      refine normal_thn ?_
                      refine aw_seq ?_
                      refine aw_region ?_
                      refine g_u (s_mv_imm rfl rfl) ?_
                      refine g_u (s_as_imm rfl rfl) ?_
                      refine g_nil ?_
                      refine normal_thn ?_
                      refine aw_ret ?_
                      exact ⟨⟨(rfl : toAV (Al.look _ _) = some _).trans (congrArg some (by (exact congrArg iv (by unfold leftS; first | (rw [if_pos (by omega)]; done) | (rw [if_neg (by omega), g4, gfin]; done) | (rw [if_neg (by omega), g4, leftL_out hi2 (by omega) hk2]; done) | (rw [if_neg (by omega), h4, leftE_out hi (by omega) hk]; exact (leftL_neg _ (by omega)).symm))))), rfl⟩, trivial⟩
                  · rw [hb8]
                    have hin2 : i2 = s.links.length := by have := of_decide_eq_false hb8; (try simp only [List.length_map] at this); omega
                    have gfin : leftL (s.links.drop i2) m2 = m2 := by rw [hin2, List.drop_length]; rfl
                    refine g_skip rfl rfl rfl ?_
                    refine g_skip rfl rfl rfl ?_
                    refine g_u (s_pick_f rfl rfl rfl) ?_
                    refine g_nil ?_
                    refine normal_thn ?_
                    refine aw_cond_false rfl ?_
                    refine aw_exit ?_
                    refine exit_thn ?_
                    refine exit_thn ?_
                    refine exit_blk ?_
                    refine normal_thn ?_
                    refine aw_seq ?_
                    refine aw_region ?_
                    refine g_u (s_mv_imm rfl rfl) ?_
                    refine g_u (s_as_imm rfl rfl) ?_
                    refine g_nil ?_
                    refine normal_thn ?_
                    refine aw_ret ?_
                    exact ⟨⟨(rfl : toAV (Al.look _ _) = some _).trans (congrArg some (by (exact congrArg iv (by unfold leftS; first | (rw [if_pos (by omega)]; done) | (rw [if_neg (by omega), g4, gfin]; done) | (rw [if_neg (by omega), g4, leftL_out hi2 (by omega) hk2]; done) | (rw [if_neg (by omega), h4, leftE_out hi (by omega) hk]; exact (leftL_neg _ (by omega)).symm))))), rfl⟩, trivial⟩
            · rw [hb5]
              have hin : i = s.events.length := by have := of_decide_eq_false hb5; (try simp only [List.length_map] at this); omega
              have hm : leftE s.events (leftAs s.attrs (n - 1 - s.state.size - s.name.size - s.note.size)) = m := by rw [h4, hin, List.drop_length]; rfl
              refine g_skip rfl rfl rfl ?_
              refine g_skip rfl rfl rfl ?_
              refine g_u (s_pick_f rfl rfl rfl) ?_
              refine g_nil ?_
              refine normal_thn ?_
              refine aw_cond_false rfl ?_
              refine aw_exit ?_
              refine exit_thn ?_
              refine exit_thn ?_
              refine exit_blk ?_
              refine normal_thn ?_
              refine aw_seq ?_
              refine aw_seq ?_
              refine aw_region ?_
              refine g_u (s_as_imm rfl rfl) ?_
              refine g_nil ?_
              refine normal_thn ?_
              refine aw_block ?_
              refine aw_loop' (fun j : Nat × Int => [(2, .ptr 1002 0), (1002, .box 33 (.imm s.av)), (1, .imm (iv j.2)), (6, .imm (iv (j.1 : Int)))]) (fun j => j.1 ≤ s.links.length ∧ (-1000000000000 ≤ j.2 ∧ j.2 ≤ 1000000000) ∧ ((j.1 : Int) ≤ leftE s.events (leftAs s.attrs (n - 1 - s.state.size - s.name.size - s.note.size)) - j.2) ∧ leftL s.links (leftE s.events (leftAs s.attrs (n - 1 - s.state.size - s.name.size - s.note.size))) = leftL (s.links.drop j.1) j.2) (fun j => s.links.length - j.1) (⟨0, m⟩) ?_ ⟨rfl, rfl, rfl, rfl, trivial⟩ ?_
              · exact ⟨Nat.zero_le _, h2, by rw [hm]; simp, by rw [hm]; rfl⟩
              · rintro ⟨i2, m2⟩ ⟨g1, g2, g3, g4⟩; dsimp only at g1 g2 g3 g4
                refine aw_seq ?_
                refine aw_seq ?_
                refine aw_region ?_
                refine g_u (s_mv_imm rfl rfl) ?_
                refine g_u (s_fieldAddr rfl rfl fa33_10 rfl) ?_
                refine g_u (s_load_imm rfl rfl rfl tA29 tS29 rfl rfl) ?_
                refine g_u (s_lenL rfl rfl Tryz.underlying29) ?_
                refine g_u (s_ltI rfl rfl rfl) ?_
                refine g_u (s_mv_imm rfl rfl) ?_
                refine g_case (t := 91) rfl ?_
                rintro (hb11 | hb11)
                · rw [hb11]
                  have hi2 : i2 < s.links.length := by have := of_decide_eq_true hb11; (try simp only [List.length_map] at this); omega
                  refine g_run rfl rfl (s_mv_imm rfl rfl) ?_
                  refine g_run rfl rfl (s_geI rfl rfl rfl) ?_
                  refine g_u (s_pick_t rfl rfl rfl) ?_
                  refine g_nil ?_
                  refine normal_thn ?_
                  refine aw_cond rfl (fun hb12 => ?_) (fun hb12 => ?_)
                  · skip
                    have hs2 : ¬ m2 < 0 := by have := of_decide_eq_true hb12; omega
                    refine aw_skip ?_
                    refine normal_thn ?_
                    refine aw_seq ?_
                    refine aw_block ?_
                    refine aw_seq ?_
                    refine aw_seq ?_
                    refine aw_region ?_
                    refine g_u (s_fieldAddr rfl rfl fa33_10 rfl) ?_
                    refine g_u (s_load_imm rfl rfl rfl tA29 tS29 rfl rfl) ?_
                    refine g_u (s_mv_imm rfl rfl) ?_
                    refine g_u (s_indexAddr rfl rfl rfl Tryz.underlying29 tS44 (by omega) (ixL hi2)) ?_
                    refine g_u (s_fieldAddr_cp rfl rfl fa44_2 rfl rfl) ?_
                    refine g_u (s_load_cp rfl rfl tA9 tS9 rfl rfl) ?_
                    refine g_u (s_lenS rfl rfl Tryz.underlying9) ?_
                    refine g_u (s_mv_imm rfl rfl) ?_
                    refine g_u (s_gtI rfl rfl rfl) ?_
                    refine g_nil ?_
                    refine normal_thn ?_
                    refine aw_cond rfl (fun hb13 => ?_) (fun hb13 => ?_)
                    · skip
                      have hk2 : ((nthL s.links i2).state.size : Int) > m2 := of_decide_eq_true hb13
                      refine aw_seq ?_
                      refine aw_region ?_
                      refine g_u (s_as_imm rfl rfl) ?_
                      refine g_nil ?_
                      refine normal_thn ?_
                      refine aw_ret ?_
                      refine ret_thn ?_
                      refine ret_blk ?_
                      refine ret_thn ?_
                      refine ret_thn ?_
                      refine ret_blk ?_
                      refine ret_thn ?_
                      exact ⟨⟨(rfl : toAV (Al.look _ _) = some _).trans (congrArg some (by (exact congrArg iv (by unfold leftS; first | (rw [if_pos (by omega)]; done) | (rw [if_neg (by omega), g4, gfin]; done) | (rw [if_neg (by omega), g4, leftL_out hi2 (by omega) hk2]; done) | (rw [if_neg (by omega), h4, leftE_out hi (by omega) hk]; exact (leftL_neg _ (by omega)).symm))))), rfl⟩, trivial⟩
                    · skip
                      have hk2 : ¬ ((nthL s.links i2).state.size : Int) > m2 := of_decide_eq_false hb13
                      refine aw_skip ?_
                      refine normal_thn ?_
                      refine aw_draw mixed ?_
                      refine g_u (s_fieldAddr rfl rfl fa33_10 rfl) ?_
                      refine g_u (s_load_imm rfl rfl rfl tA29 tS29 rfl rfl) ?_
                      refine g_u (s_mv_imm rfl rfl) ?_
                      refine g_u (s_indexAddr rfl rfl rfl Tryz.underlying29 tS44 (by omega) (ixL hi2)) ?_
                      refine g_u (s_fieldAddr_cp rfl rfl fa44_3 rfl rfl) ?_
                      refine g_u (s_load_cp rfl rfl tA27 tS27 rfl rfl) ?_
                      refine g_u (s_mv_imm rfl rfl) ?_
                      refine g_u (s_sub rfl rfl rfl) ?_
                      refine g_u (s_fieldAddr rfl rfl fa33_10 rfl) ?_
                      refine g_u (s_load_imm rfl rfl rfl tA29 tS29 rfl rfl) ?_
                      refine g_u (s_mv_imm rfl rfl) ?_
                      refine g_u (s_indexAddr rfl rfl rfl Tryz.underlying29 tS44 (by omega) (ixL hi2)) ?_
                      refine g_u (s_fieldAddr_cp rfl rfl fa44_2 rfl rfl) ?_
                      refine g_u (s_load_cp rfl rfl tA9 tS9 rfl rfl) ?_
                      refine g_u (s_lenS rfl rfl Tryz.underlying9) ?_
                      refine g_u (s_sub rfl rfl rfl) ?_
                      refine g_u (s_call1 (leftAs_c _ _ ⟨by ((try simp only [decide_eq_true_eq, decide_eq_false_iff_not, bne_iff_ne, ne_eq, beq_iff_eq, bne_eq_false_iff_eq, beq_eq_false_iff_ne, Bool.not_eq_true', Bool.not_eq_false', gt_iff_lt, ge_iff_le] at *); (repeat simp (disch := omega) only [wrap64, wrap32] at *)); omega, by ((try simp only [decide_eq_true_eq, decide_eq_false_iff_not, bne_iff_ne, ne_eq, beq_iff_eq, bne_eq_false_iff_eq, beq_eq_false_iff_ne, Bool.not_eq_true', Bool.not_eq_false', gt_iff_lt, ge_iff_le] at *); (repeat simp (disch := omega) only [wrap64, wrap32] at *)); omega⟩) rfl rfl) ?_
                      refine g_u (s_as_imm rfl rfl) ?_
                      refine g_nil ⟨by kernel_rfl, ?_⟩
                      refine normal_blk ?_
                      refine normal_thn ?_
                      refine aw_region ?_
                      refine g_u (s_mv_imm rfl rfl) ?_
                      refine g_u (s_add rfl rfl rfl) ?_
                      refine g_u (s_as_imm rfl rfl) ?_
                      refine g_nil ?_
                      refine normal_thn ?_
                      have ed := leftL_drop (m := m2) hi2 (by omega) hk2
                      have bl := leftAs_bd' (nthL s.links i2).attrs (m2 - 1 - (nthL s.links i2).state.size)
                      refine ⟨⟨i2 + 1, leftAs (nthL s.links i2).attrs (m2 - 1 - (nthL s.links i2).state.size)⟩, ⟨hi2, ⟨by dsimp only; omega, by dsimp only; omega⟩, by dsimp only; omega, by dsimp only; rw [g4, ed]⟩, ⟨rfl, rfl, look_int rfl (by dsimp only; rw [wrap64 (n := m2 - 1) (by omega) (by omega), wrap64 (by omega) (by omega)]), look_int rfl (by rw [wrap64 (by omega) (by omega)]; rfl), trivial⟩, by dsimp only; omega⟩
                  · skip
                    have hs2 : m2 < 0 := by have := of_decide_eq_false hb12; omega
                    have gfin : leftL (s.links.drop i2) m2 = m2 := leftL_neg _ hs2
                    refine aw_exit ?_
                    refine exit_thn ?_
                    refine exit_thn ?_
                    refine exit_blk ?_
                    refine normal_thn ?_
                    refine aw_seq ?_
                    refine aw_region ?_
                    refine g_u (s_mv_imm rfl rfl) ?_
                    refine g_u (s_as_imm rfl rfl) ?_
                    refine g_nil ?_
                    refine normal_thn ?_
                    refine aw_ret ?_
                    exact ⟨⟨(rfl : toAV (Al.look _ _) = some _).trans (congrArg some (by (exact congrArg iv (by unfold leftS; first | (rw [if_pos (by omega)]; done) | (rw [if_neg (by omega), g4, gfin]; done) | (rw [if_neg (by omega), g4, leftL_out hi2 (by omega) hk2]; done) | (rw [if_neg (by omega), h4, leftE_out hi (by omega) hk]; exact (leftL_neg _ (by omega)).symm))))), rfl⟩, trivial⟩
                · rw [hb11]
                  have hin2 : i2 = s.links.length := by have := of_decide_eq_false hb11; (try simp only [List.length_map] at this); omega
                  have gfin : leftL (s.links.drop i2) m2 = m2 := by rw [hin2, List.drop_length]; rfl
                  refine g_skip rfl rfl rfl ?_
                  refine g_skip rfl rfl rfl ?_
                  refine g_u (s_pick_f rfl rfl rfl) ?_
                  refine g_nil ?_
                  refine normal_thn ?_
                  refine aw_cond_false rfl ?_
                  refine aw_exit ?_
                  refine exit_thn ?_
                  refine exit_thn ?_
                  refine exit_blk ?_
                  refine normal_thn ?_
                  refine aw_seq ?_
                  refine aw_region ?_
                  refine g_u (s_mv_imm rfl rfl) ?_
                  refine g_u (s_as_imm rfl rfl) ?_
                  refine g_nil ?_
                  refine normal_thn ?_
                  refine aw_ret ?_
                  exact ⟨⟨(rfl : toAV (Al.look _ _) = some _).trans (congrArg some (by (exact congrArg iv (by unfold leftS; first | (rw [if_pos (by omega)]; done) | (rw [if_neg (by omega), g4, gfin]; done) | (rw [if_neg (by omega), g4, leftL_out hi2 (by omega) hk2]; done) | (rw [if_neg (by omega), h4, leftE_out hi (by omega) hk]; exact (leftL_neg _ (by omega)).symm))))), rfl⟩, trivial⟩

end Go.Proofs

namespace Go.Proofs
open Go Go.Al

theorem leftS_le {s : GSpan} {n : Int} (h : ¬ leftS s n < 0) : (s.wt : Int) ≤ n := by have := leftS_wt (s := s) (n := n) (by omega); omega
end Go.Proofs

namespace Go.Proofs
open Go Go.Al
set_option maxRecDepth 10000

end Go.Proofs

