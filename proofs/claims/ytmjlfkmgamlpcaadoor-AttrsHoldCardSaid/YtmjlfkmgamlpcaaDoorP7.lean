/- Texts that the proofs of this claim share, part 7: the abstract logic, plain Lean on values and batches, and walks. No condition but those typed in each lemma. -/
import Derived.Test.YtmjlfkmgamlpcaaDoorP6
set_option linter.unusedSimpArgs false
set_option linter.unusedVariables false
namespace Go.Proofs
open Go Go.Al
set_option maxRecDepth 10000
set_option maxHeartbeats 1000000 in
theorem rsameAs_st (a b : List GA) (hl : a.length ≤ 1000000000) (ih : ∀ x ∈ a, ∀ y : GV, PCall Tryd.prog Γ0 43 [x.val.av, y.av] [bv (sameV x.val y)]) : PCall Tryd.prog Γ0 34 [.sl 7 (a.map avA), .sl 7 (b.map avA)] [bv (sameAs a b)] := by
  refine pcall_of Tryd.func34 rfl Tryd.ntmps34 (by kernel_rfl) rfl fun w0 I0 G0 => ?_
  refine aw_seq ?_
  refine aw_region ?_
  refine g_u (s_as_imm rfl rfl) ?_
  refine g_nil ?_
  refine normal_thn ?_
  refine aw_seq ?_
  refine aw_seq ?_
  refine aw_region ?_
  refine g_u (s_mv_imm rfl rfl) ?_
  refine g_u (s_lenL rfl rfl Tryd.underlying30) ?_
  refine g_u (s_mv_imm rfl rfl) ?_
  refine g_u (s_lenL rfl rfl Tryd.underlying30) ?_
  refine g_u (s_neI rfl rfl rfl) ?_
  refine g_nil ?_
  refine normal_thn ?_
  refine aw_cond rfl (fun hb1 => ?_) (fun hb1 => ?_)
  · skip
    have q : ¬ a.length = b.length := by have e := bne_iff_ne.1 hb1; simp only [List.length_map] at e; omega
    refine aw_seq ?_
    refine aw_region ?_
    refine g_u (s_as_imm rfl rfl) ?_
    refine g_nil ?_
    refine normal_thn ?_
    refine aw_ret ?_
    refine ret_thn ?_
    exact ⟨⟨(rfl : toAV (Al.look _ _) = some _).trans (congrArg some (by (exact congrArg bv (by first | exact (sameAs_ne (fun e => q (by rw [e]))).symm | exact ((sameAs_iff _ _).2 (ext_nth a0 el (fun j hj => h2 j (by omega)))).symm)))), rfl⟩, trivial⟩
  · skip
    have el : a.length = b.length := by have e := bne_eq_false_iff_eq.1 hb1; simp only [List.length_map] at e; omega
    refine aw_skip ?_
    refine normal_thn ?_
    refine aw_seq ?_
    refine aw_seq ?_
    refine aw_region ?_
    refine g_u (s_as_imm rfl rfl) ?_
    refine g_nil ?_
    refine normal_thn ?_
    refine aw_block ?_
    refine aw_loop' (fun i : Nat => [(0, .imm (.sl 7 (a.map avA))), (1, .imm (.sl 7 (b.map avA))), (5, .imm (iv (i : Int)))]) (fun i => i ≤ a.length ∧ ∀ j, j < i → nth a j a0 = nth b j a0) (fun i => a.length - i) (0) ?_ ⟨rfl, rfl, rfl, trivial⟩ ?_
    · exact ⟨Nat.zero_le _, fun j h => absurd h (Nat.not_lt_zero _)⟩
    · rintro i ⟨h1, h2⟩; (try dsimp only at h1 h2)
      refine aw_seq ?_
      refine aw_seq ?_
      refine aw_region ?_
      refine g_u (s_mv_imm rfl rfl) ?_
      refine g_u (s_mv_imm rfl rfl) ?_
      refine g_u (s_lenL rfl rfl Tryd.underlying30) ?_
      refine g_u (s_ltI rfl rfl rfl) ?_
      refine g_nil ?_
      refine normal_thn ?_
      refine aw_cond rfl (fun hb2 => ?_) (fun hb2 => ?_)
      · skip
        have hi : i < a.length := by have := of_decide_eq_true hb2; (try simp only [List.length_map] at this); omega
        have hib : i < b.length := by omega
        refine aw_skip ?_
        refine normal_thn ?_
        refine aw_seq ?_
        refine aw_block ?_
        refine aw_seq ?_
        refine aw_draw mixed ?_
        refine g_u (s_mv_imm rfl rfl) ?_
        refine g_u (s_mv_imm rfl rfl) ?_
        refine g_u (s_indexAddr rfl rfl rfl Tryd.underlying30 tS76 (by omega) (ixA hi)) ?_
        refine g_u (s_fieldAddr_cp rfl rfl fa76_0 rfl rfl) ?_
        refine g_u (s_load_cp rfl rfl tA9 tS9 rfl rfl) ?_
        refine g_u (s_mv_imm rfl rfl) ?_
        refine g_u (s_mv_imm rfl rfl) ?_
        refine g_u (s_indexAddr rfl rfl rfl Tryd.underlying30 tS76 (by omega) (ixA hib)) ?_
        refine g_u (s_fieldAddr_cp rfl rfl fa76_0 rfl rfl) ?_
        refine g_u (s_load_cp rfl rfl tA9 tS9 rfl rfl) ?_
        refine g_u (s_neS rfl rfl rfl) ?_
        refine g_u (s_mv_imm rfl rfl) ?_
        refine g_case (t := 28) rfl ?_
        rintro (hb3 | hb3)
        · rw [hb3]
          have q : ¬ (nthA a i).key = (nthA b i).key := by have e := hb3; rw [str_beq] at e; simpa using e
          refine g_skip rfl rfl rfl ?_
          refine g_skip rfl rfl rfl ?_
          refine g_skip rfl rfl rfl ?_
          refine g_skip rfl rfl rfl ?_
          refine g_skip rfl rfl rfl ?_
          refine g_skip rfl rfl rfl ?_
          refine g_skip rfl rfl rfl ?_
          refine g_skip rfl rfl rfl ?_
          refine g_skip rfl rfl rfl ?_
          refine g_skip rfl rfl rfl ?_
          refine g_skip rfl rfl rfl ?_
          refine g_skip rfl rfl rfl ?_
          refine g_u (s_pick_t rfl rfl rfl) ?_
          refine g_nil ⟨by kernel_rfl, ?_⟩
          refine normal_thn ?_
          refine aw_cond_true rfl ?_
          refine aw_seq ?_
          refine aw_region ?_
          refine g_u (s_as_imm rfl rfl) ?_
          refine g_nil ?_
          refine normal_thn ?_
          refine aw_ret ?_
          refine ret_blk ?_
          refine ret_thn ?_
          refine ret_thn ?_
          refine ret_blk ?_
          refine ret_thn ?_
          exact ⟨⟨(rfl : toAV (Al.look _ _) = some _).trans (congrArg some (by (exact congrArg bv (by first | exact (sameAs_ne (fun e => q (by rw [e]))).symm | exact ((sameAs_iff _ _).2 (ext_nth a0 el (fun j hj => h2 j (by omega)))).symm)))), rfl⟩, trivial⟩
        · rw [hb3]
          have ek : (nthA a i).key = (nthA b i).key := by have e := hb3; rw [str_beq] at e; simpa using e
          refine g_run rfl rfl (s_mv_imm rfl rfl) ?_
          refine g_run rfl rfl (s_mv_imm rfl rfl) ?_
          refine g_run rfl rfl (s_indexAddr rfl rfl rfl Tryd.underlying30 tS76 (by omega) (ixA hi)) ?_
          refine g_run rfl rfl (s_fieldAddr_cp rfl rfl fa76_1 rfl rfl) ?_
          refine g_run rfl rfl (s_load_cp rfl rfl tA67 tS67 rfl rfl) ?_
          refine g_run rfl rfl (s_mv_imm rfl rfl) ?_
          refine g_run rfl rfl (s_mv_imm rfl rfl) ?_
          refine g_run rfl rfl (s_indexAddr rfl rfl rfl Tryd.underlying30 tS76 (by omega) (ixA hib)) ?_
          refine g_run rfl rfl (s_fieldAddr_cp rfl rfl fa76_1 rfl rfl) ?_
          refine g_run rfl rfl (s_load_cp rfl rfl tA67 tS67 rfl rfl) ?_
          refine g_run rfl rfl (s_call1 (ih _ (nthA_mem hi) _) rfl rfl) ?_
          refine g_run rfl rfl (s_not rfl rfl) ?_
          refine g_u (s_pick_f rfl rfl rfl) ?_
          refine g_nil ⟨by kernel_rfl, ?_⟩
          refine normal_thn ?_
          refine aw_cond rfl (fun hb4 => ?_) (fun hb4 => ?_)
          · skip
            have q : ¬ (nthA a i).val = (nthA b i).val := fun h => by have e := hb4; rw [h, sameV_refl] at e; cases e
            refine aw_seq ?_
            refine aw_region ?_
            refine g_u (s_as_imm rfl rfl) ?_
            refine g_nil ?_
            refine normal_thn ?_
            refine aw_ret ?_
            refine ret_blk ?_
            refine ret_thn ?_
            refine ret_thn ?_
            refine ret_blk ?_
            refine ret_thn ?_
            exact ⟨⟨(rfl : toAV (Al.look _ _) = some _).trans (congrArg some (by (exact congrArg bv (by first | exact (sameAs_ne (fun e => q (by rw [e]))).symm | exact ((sameAs_iff _ _).2 (ext_nth a0 el (fun j hj => h2 j (by omega)))).symm)))), rfl⟩, trivial⟩
          · skip
            have ev : (nthA a i).val = (nthA b i).val := (sameV_iff _ _).1 (by have e := hb4; simpa using e)
            refine aw_skip ?_
            refine normal_blk ?_
            refine normal_thn ?_
            refine aw_region ?_
            refine g_u (s_mv_imm rfl rfl) ?_
            refine g_u (s_add rfl rfl rfl) ?_
            refine g_u (s_as_imm rfl rfl) ?_
            refine g_nil ?_
            refine normal_thn ?_
            refine ⟨i + 1, ⟨hi, fun j hj => by rcases Nat.lt_or_ge j i with h | h; exact h2 j h; rw [show j = i by omega]; exact GA.ext' ek ev⟩, ⟨rfl, rfl, look_int rfl (by rw [wrap64 (by omega) (by omega)]; rfl), trivial⟩, by (try dsimp only); omega⟩
      · skip
        have hin : i = a.length := by have := of_decide_eq_false hb2; (try simp only [List.length_map] at this); omega
        refine aw_exit ?_
        refine exit_thn ?_
        refine exit_thn ?_
        refine exit_blk ?_
        refine normal_thn ?_
        refine aw_seq ?_
        refine aw_region ?_
        refine g_u (s_as_imm rfl rfl) ?_
        refine g_nil ?_
        refine normal_thn ?_
        refine aw_ret ?_
        exact ⟨⟨(rfl : toAV (Al.look _ _) = some _).trans (congrArg some (by (exact congrArg bv (by first | exact (sameAs_ne (fun e => q (by rw [e]))).symm | exact ((sameAs_iff _ _).2 (ext_nth a0 el (fun j hj => h2 j (by omega)))).symm)))), rfl⟩, trivial⟩

set_option maxHeartbeats 2000000 in
theorem rsameV_st (a b : GV) (hw : a.wt ≤ 1000000000) (ih : ∀ x ∈ a.list, ∀ y : GV, PCall Tryd.prog Γ0 43 [x.av, y.av] [bv (sameV x y)]) (ihm : PCall Tryd.prog Γ0 34 [.sl 7 (a.map.map avA), .sl 7 (b.map.map avA)] [bv (sameAs a.map b.map)]) : PCall Tryd.prog Γ0 43 [a.av, b.av] [bv (sameV a b)] := by
  have ek := a.wt_eq
  have lv := len_wtVs a.list
  refine pcall_of Tryd.func43 rfl Tryd.ntmps43 (by kernel_rfl) rfl fun w0 I0 G0 => ?_
  refine aw_seq ?_
  refine aw_region ?_
  refine g_uG (s_box_imm 1002 rfl rfl rfl rfl) rfl ?_
  refine g_uG (s_box_imm 1003 rfl rfl rfl rfl) rfl ?_
  refine g_u (s_as_imm rfl rfl) ?_
  refine g_nil ?_
  refine normal_thn ?_
  refine aw_seq ?_
  refine aw_seq ?_
  refine aw_region ?_
  refine g_u (s_fieldAddr rfl rfl fa67_0 rfl) ?_
  refine g_u (s_load_imm rfl rfl rfl tA5 tS5 rfl rfl) ?_
  refine g_u (s_fieldAddr rfl rfl fa67_0 rfl) ?_
  refine g_u (s_load_imm rfl rfl rfl tA5 tS5 rfl rfl) ?_
  refine g_u (s_neI rfl rfl rfl) ?_
  refine g_u (s_mv_imm rfl rfl) ?_
  refine g_case (t := 11) rfl ?_
  rintro (hb1 | hb1)
  · rw [hb1]
    have q : ¬ a.kind = b.kind := bne_iff_ne.1 hb1
    refine g_skip rfl rfl rfl ?_
    refine g_skip rfl rfl rfl ?_
    refine g_skip rfl rfl rfl ?_
    refine g_skip rfl rfl rfl ?_
    refine g_skip rfl rfl rfl ?_
    refine g_u (s_pick_t rfl rfl rfl) ?_
    refine g_u (s_mv_imm rfl rfl) ?_
    refine g_skip rfl rfl rfl ?_
    refine g_skip rfl rfl rfl ?_
    refine g_skip rfl rfl rfl ?_
    refine g_skip rfl rfl rfl ?_
    refine g_skip rfl rfl rfl ?_
    refine g_u (s_pick_t rfl rfl rfl) ?_
    refine g_u (s_mv_imm rfl rfl) ?_
    refine g_skip rfl rfl rfl ?_
    refine g_skip rfl rfl rfl ?_
    refine g_skip rfl rfl rfl ?_
    refine g_skip rfl rfl rfl ?_
    refine g_skip rfl rfl rfl ?_
    refine g_u (s_pick_t rfl rfl rfl) ?_
    refine g_u (s_mv_imm rfl rfl) ?_
    refine g_skip rfl rfl rfl ?_
    refine g_skip rfl rfl rfl ?_
    refine g_skip rfl rfl rfl ?_
    refine g_skip rfl rfl rfl ?_
    refine g_skip rfl rfl rfl ?_
    refine g_skip rfl rfl rfl ?_
    refine g_skip rfl rfl rfl ?_
    refine g_u (s_pick_t rfl rfl rfl) ?_
    refine g_nil ?_
    refine normal_thn ?_
    refine aw_cond_true rfl ?_
    refine aw_seq ?_
    refine aw_region ?_
    refine g_u (s_as_imm rfl rfl) ?_
    refine g_nil ?_
    refine normal_thn ?_
    refine aw_ret ?_
    refine ret_thn ?_
    exact ⟨⟨(rfl : toAV (Al.look _ _) = some _).trans (congrArg some (by (exact congrArg bv (by first | exact (sameV_ne (fun e => q (by rw [e]))).symm | exact sameV_map e1 e2 e3 e4 (ext_nth v0 e5 (fun j hj => h2 j (by omega))))))), rfl⟩, trivial⟩
  · rw [hb1]
    have e1 : a.kind = b.kind := bne_eq_false_iff_eq.1 hb1
    refine g_run rfl rfl (s_fieldAddr rfl rfl fa67_1 rfl) ?_
    refine g_run rfl rfl (s_load_imm rfl rfl rfl tA9 tS9 rfl rfl) ?_
    refine g_run rfl rfl (s_fieldAddr rfl rfl fa67_1 rfl) ?_
    refine g_run rfl rfl (s_load_imm rfl rfl rfl tA9 tS9 rfl rfl) ?_
    refine g_run rfl rfl (s_neS rfl rfl rfl) ?_
    refine g_u (s_pick_f rfl rfl rfl) ?_
    refine g_u (s_mv_imm rfl rfl) ?_
    refine g_case (t := 18) rfl ?_
    rintro (hb2 | hb2)
    · rw [hb2]
      have q : ¬ a.text = b.text := by have e := hb2; rw [str_beq] at e; simpa using e
      refine g_skip rfl rfl rfl ?_
      refine g_skip rfl rfl rfl ?_
      refine g_skip rfl rfl rfl ?_
      refine g_skip rfl rfl rfl ?_
      refine g_skip rfl rfl rfl ?_
      refine g_u (s_pick_t rfl rfl rfl) ?_
      refine g_u (s_mv_imm rfl rfl) ?_
      refine g_skip rfl rfl rfl ?_
      refine g_skip rfl rfl rfl ?_
      refine g_skip rfl rfl rfl ?_
      refine g_skip rfl rfl rfl ?_
      refine g_skip rfl rfl rfl ?_
      refine g_u (s_pick_t rfl rfl rfl) ?_
      refine g_u (s_mv_imm rfl rfl) ?_
      refine g_skip rfl rfl rfl ?_
      refine g_skip rfl rfl rfl ?_
      refine g_skip rfl rfl rfl ?_
      refine g_skip rfl rfl rfl ?_
      refine g_skip rfl rfl rfl ?_
      refine g_skip rfl rfl rfl ?_
      refine g_skip rfl rfl rfl ?_
      refine g_u (s_pick_t rfl rfl rfl) ?_
      refine g_nil ?_
      refine normal_thn ?_
      refine aw_cond_true rfl ?_
      refine aw_seq ?_
      refine aw_region ?_
      refine g_u (s_as_imm rfl rfl) ?_
      refine g_nil ?_
      refine normal_thn ?_
      refine aw_ret ?_
      refine ret_thn ?_
      exact ⟨⟨(rfl : toAV (Al.look _ _) = some _).trans (congrArg some (by (exact congrArg bv (by first | exact (sameV_ne (fun e => q (by rw [e]))).symm | exact sameV_map e1 e2 e3 e4 (ext_nth v0 e5 (fun j hj => h2 j (by omega))))))), rfl⟩, trivial⟩
    · rw [hb2]
      have e2 : a.text = b.text := by have e := hb2; rw [str_beq] at e; simpa using e
      refine g_run rfl rfl (s_fieldAddr rfl rfl fa67_2 rfl) ?_
      refine g_run rfl rfl (s_load_imm rfl rfl rfl tA3 tS3 rfl rfl) ?_
      refine g_run rfl rfl (s_fieldAddr rfl rfl fa67_2 rfl) ?_
      refine g_run rfl rfl (s_load_imm rfl rfl rfl tA3 tS3 rfl rfl) ?_
      refine g_run rfl rfl (s_neI rfl rfl rfl) ?_
      refine g_u (s_pick_f rfl rfl rfl) ?_
      refine g_u (s_mv_imm rfl rfl) ?_
      refine g_case (t := 25) rfl ?_
      rintro (hb3 | hb3)
      · rw [hb3]
        have q : ¬ a.num = b.num := bne_iff_ne.1 hb3
        refine g_skip rfl rfl rfl ?_
        refine g_skip rfl rfl rfl ?_
        refine g_skip rfl rfl rfl ?_
        refine g_skip rfl rfl rfl ?_
        refine g_skip rfl rfl rfl ?_
        refine g_u (s_pick_t rfl rfl rfl) ?_
        refine g_u (s_mv_imm rfl rfl) ?_
        refine g_skip rfl rfl rfl ?_
        refine g_skip rfl rfl rfl ?_
        refine g_skip rfl rfl rfl ?_
        refine g_skip rfl rfl rfl ?_
        refine g_skip rfl rfl rfl ?_
        refine g_skip rfl rfl rfl ?_
        refine g_skip rfl rfl rfl ?_
        refine g_u (s_pick_t rfl rfl rfl) ?_
        refine g_nil ?_
        refine normal_thn ?_
        refine aw_cond_true rfl ?_
        refine aw_seq ?_
        refine aw_region ?_
        refine g_u (s_as_imm rfl rfl) ?_
        refine g_nil ?_
        refine normal_thn ?_
        refine aw_ret ?_
        refine ret_thn ?_
        exact ⟨⟨(rfl : toAV (Al.look _ _) = some _).trans (congrArg some (by (exact congrArg bv (by first | exact (sameV_ne (fun e => q (by rw [e]))).symm | exact sameV_map e1 e2 e3 e4 (ext_nth v0 e5 (fun j hj => h2 j (by omega))))))), rfl⟩, trivial⟩
      · rw [hb3]
        have e3 : a.num = b.num := bne_eq_false_iff_eq.1 hb3
        refine g_run rfl rfl (s_fieldAddr rfl rfl fa67_3 rfl) ?_
        refine g_run rfl rfl (s_load_imm rfl rfl rfl tA29 tS29 rfl rfl) ?_
        refine g_run rfl rfl (s_fieldAddr rfl rfl fa67_3 rfl) ?_
        refine g_run rfl rfl (s_load_imm rfl rfl rfl tA29 tS29 rfl rfl) ?_
        refine g_run rfl rfl (s_neI rfl rfl rfl) ?_
        refine g_u (s_pick_f rfl rfl rfl) ?_
        refine g_u (s_mv_imm rfl rfl) ?_
        refine g_case (t := 32) rfl ?_
        rintro (hb4 | hb4)
        · rw [hb4]
          have q : ¬ a.bits = b.bits := bne_iff_ne.1 hb4
          refine g_skip rfl rfl rfl ?_
          refine g_skip rfl rfl rfl ?_
          refine g_skip rfl rfl rfl ?_
          refine g_skip rfl rfl rfl ?_
          refine g_skip rfl rfl rfl ?_
          refine g_skip rfl rfl rfl ?_
          refine g_skip rfl rfl rfl ?_
          refine g_u (s_pick_t rfl rfl rfl) ?_
          refine g_nil ?_
          refine normal_thn ?_
          refine aw_cond_true rfl ?_
          refine aw_seq ?_
          refine aw_region ?_
          refine g_u (s_as_imm rfl rfl) ?_
          refine g_nil ?_
          refine normal_thn ?_
          refine aw_ret ?_
          refine ret_thn ?_
          exact ⟨⟨(rfl : toAV (Al.look _ _) = some _).trans (congrArg some (by (exact congrArg bv (by first | exact (sameV_ne (fun e => q (by rw [e]))).symm | exact sameV_map e1 e2 e3 e4 (ext_nth v0 e5 (fun j hj => h2 j (by omega))))))), rfl⟩, trivial⟩
        · rw [hb4]
          have e4 : a.bits = b.bits := bne_eq_false_iff_eq.1 hb4
          refine g_run rfl rfl (s_fieldAddr rfl rfl fa67_4 rfl) ?_
          refine g_run rfl rfl (s_load_imm rfl rfl rfl tA65 tS65 rfl rfl) ?_
          refine g_run rfl rfl (s_lenL rfl rfl Tryd.underlying65) ?_
          refine g_run rfl rfl (s_fieldAddr rfl rfl fa67_4 rfl) ?_
          refine g_run rfl rfl (s_load_imm rfl rfl rfl tA65 tS65 rfl rfl) ?_
          refine g_run rfl rfl (s_lenL rfl rfl Tryd.underlying65) ?_
          refine g_run rfl rfl (s_neI rfl rfl rfl) ?_
          refine g_u (s_pick_f rfl rfl rfl) ?_
          refine g_nil ?_
          refine normal_thn ?_
          refine aw_cond rfl (fun hb5 => ?_) (fun hb5 => ?_)
          · skip
            have q : ¬ a.list.length = b.list.length := by have e := bne_iff_ne.1 hb5; simp only [List.length_map] at e; omega
            refine aw_seq ?_
            refine aw_region ?_
            refine g_u (s_as_imm rfl rfl) ?_
            refine g_nil ?_
            refine normal_thn ?_
            refine aw_ret ?_
            refine ret_thn ?_
            exact ⟨⟨(rfl : toAV (Al.look _ _) = some _).trans (congrArg some (by (exact congrArg bv (by first | exact (sameV_ne (fun e => q (by rw [e]))).symm | exact sameV_map e1 e2 e3 e4 (ext_nth v0 e5 (fun j hj => h2 j (by omega))))))), rfl⟩, trivial⟩
          · skip
            have e5 : a.list.length = b.list.length := by have e := bne_eq_false_iff_eq.1 hb5; simp only [List.length_map] at e; omega
            refine aw_skip ?_
            refine normal_thn ?_
            refine aw_seq ?_
            refine aw_seq ?_
            refine aw_region ?_
            refine g_u (s_as_imm rfl rfl) ?_
            refine g_nil ?_
            refine normal_thn ?_
            refine aw_block ?_
            refine aw_loop' (fun i : Nat => [(2, .ptr 1002 0), (1002, .box 67 (.imm a.av)), (3, .ptr 1003 0), (1003, .box 67 (.imm b.av)), (5, .imm (iv (i : Int)))]) (fun i => i ≤ a.list.length ∧ ∀ j, j < i → nth a.list j v0 = nth b.list j v0) (fun i => a.list.length - i) (0) ?_ ⟨rfl, rfl, rfl, rfl, rfl, trivial⟩ ?_
            · exact ⟨Nat.zero_le _, fun j h => absurd h (Nat.not_lt_zero _)⟩
            · rintro i ⟨h1, h2⟩; (try dsimp only at h1 h2)
              refine aw_seq ?_
              refine aw_seq ?_
              refine aw_region ?_
              refine g_u (s_mv_imm rfl rfl) ?_
              refine g_u (s_fieldAddr rfl rfl fa67_4 rfl) ?_
              refine g_u (s_load_imm rfl rfl rfl tA65 tS65 rfl rfl) ?_
              refine g_u (s_lenL rfl rfl Tryd.underlying65) ?_
              refine g_u (s_ltI rfl rfl rfl) ?_
              refine g_nil ?_
              refine normal_thn ?_
              refine aw_cond rfl (fun hb6 => ?_) (fun hb6 => ?_)
              · skip
                have hi : i < a.list.length := by have := of_decide_eq_true hb6; (try simp only [List.length_map] at this); omega
                have hib : i < b.list.length := by omega
                refine aw_skip ?_
                refine normal_thn ?_
                refine aw_seq ?_
                refine aw_block ?_
                refine aw_seq ?_
                refine aw_draw mixed ?_
                refine g_u (s_fieldAddr rfl rfl fa67_4 rfl) ?_
                refine g_u (s_load_imm rfl rfl rfl tA65 tS65 rfl rfl) ?_
                refine g_u (s_mv_imm rfl rfl) ?_
                refine g_u (s_indexAddr rfl rfl rfl Tryd.underlying65 tS67 (by omega) (ixV hi)) ?_
                refine g_u (s_load_cp rfl rfl tA67 tS67 rfl rfl) ?_
                refine g_u (s_fieldAddr rfl rfl fa67_4 rfl) ?_
                refine g_u (s_load_imm rfl rfl rfl tA65 tS65 rfl rfl) ?_
                refine g_u (s_mv_imm rfl rfl) ?_
                refine g_u (s_indexAddr rfl rfl rfl Tryd.underlying65 tS67 (by omega) (ixV hib)) ?_
                refine g_u (s_load_cp rfl rfl tA67 tS67 rfl rfl) ?_
                refine g_u (s_call1 (ih _ (nthV_mem hi) _) rfl rfl) ?_
                refine g_u (s_not rfl rfl) ?_
                refine g_nil ⟨by kernel_rfl, ?_⟩
                refine normal_thn ?_
                refine aw_cond rfl (fun hb7 => ?_) (fun hb7 => ?_)
                · skip
                  have q : ¬ nthV a.list i = nthV b.list i := fun h => by have e := hb7; rw [h, sameV_refl] at e; cases e
                  refine aw_seq ?_
                  refine aw_region ?_
                  refine g_u (s_as_imm rfl rfl) ?_
                  refine g_nil ?_
                  refine normal_thn ?_
                  refine aw_ret ?_
                  refine ret_blk ?_
                  refine ret_thn ?_
                  refine ret_thn ?_
                  refine ret_blk ?_
                  refine ret_thn ?_
                  exact ⟨⟨(rfl : toAV (Al.look _ _) = some _).trans (congrArg some (by (exact congrArg bv (by first | exact (sameV_ne (fun e => q (by rw [e]))).symm | exact sameV_map e1 e2 e3 e4 (ext_nth v0 e5 (fun j hj => h2 j (by omega))))))), rfl⟩, trivial⟩
                · skip
                  have ev : nthV a.list i = nthV b.list i := (sameV_iff _ _).1 (by have e := hb7; simpa using e)
                  refine aw_skip ?_
                  refine normal_blk ?_
                  refine normal_thn ?_
                  refine aw_region ?_
                  refine g_u (s_mv_imm rfl rfl) ?_
                  refine g_u (s_add rfl rfl rfl) ?_
                  refine g_u (s_as_imm rfl rfl) ?_
                  refine g_nil ?_
                  refine normal_thn ?_
                  refine ⟨i + 1, ⟨hi, fun j hj => by rcases Nat.lt_or_ge j i with h | h; exact h2 j h; rw [show j = i by omega]; exact ev⟩, ⟨rfl, rfl, rfl, rfl, look_int rfl (by rw [wrap64 (by omega) (by omega)]; rfl), trivial⟩, by (try dsimp only); omega⟩
              · skip
                have hin : i = a.list.length := by have := of_decide_eq_false hb6; (try simp only [List.length_map] at this); omega
                refine aw_exit ?_
                refine exit_thn ?_
                refine exit_thn ?_
                refine exit_blk ?_
                refine normal_thn ?_
                refine aw_seq ?_
                refine aw_region ?_
                refine g_u (s_fieldAddr rfl rfl fa67_5 rfl) ?_
                refine g_u (s_load_imm rfl rfl rfl tA30 tS30 rfl rfl) ?_
                refine g_u (s_fieldAddr rfl rfl fa67_5 rfl) ?_
                refine g_u (s_load_imm rfl rfl rfl tA30 tS30 rfl rfl) ?_
                refine g_u (s_call1 (ihm) rfl rfl) ?_
                refine g_u (s_as_imm rfl rfl) ?_
                refine g_nil ?_
                refine normal_thn ?_
                refine aw_ret ?_
                exact ⟨⟨(rfl : toAV (Al.look _ _) = some _).trans (congrArg some (by (exact congrArg bv (by first | exact (sameV_ne (fun e => q (by rw [e]))).symm | exact sameV_map e1 e2 e3 e4 (ext_nth v0 e5 (fun j hj => h2 j (by omega))))))), rfl⟩, trivial⟩

theorem rsameV_c (a : GV) : a.wt ≤ 1000000000 → ∀ b : GV, PCall Tryd.prog Γ0 43 [a.av, b.av] [bv (sameV a b)] := by
  refine GV.ind (P := fun a => a.wt ≤ 1000000000 → ∀ b : GV, PCall Tryd.prog Γ0 43 [a.av, b.av] [bv (sameV a b)]) ?_ a
  intro a h1 h2 hw b
  have ek := a.wt_eq
  have la := len_wtAs a.map
  exact rsameV_st a b hw (fun x hx => h1 x hx (by have := wtVs_mem hx; omega)) (rsameAs_st a.map b.map (by omega) fun x hx => h2 x hx (by have := wtAs_mem hx; have := x.wt_eq; omega))
theorem rsameAs_c (a b : List GA) (hw : wtAs a ≤ 1000000000) : PCall Tryd.prog Γ0 34 [.sl 7 (a.map avA), .sl 7 (b.map avA)] [bv (sameAs a b)] := by
  have la := len_wtAs a
  exact rsameAs_st a b (by omega) fun x hx => rsameV_c x.val (by have := wtAs_mem hx; have := x.wt_eq; omega)

theorem rsameAs_c2 (a b : List GA) (hl : a.length ≤ 1000000000) (hv : ∀ x ∈ a, x.val.wt ≤ 1000000000) : PCall Tryd.prog Γ0 34 [.sl 7 (a.map avA), .sl 7 (b.map avA)] [bv (sameAs a b)] :=
  rsameAs_st a b hl fun x hx => rsameV_c x.val (hv x hx)

set_option maxHeartbeats 400000 in
theorem checkAs_c (l : List GA) (ho : ∀ a ∈ l, a.ok) (hw : wtAs l ≤ 1000000) : PCall Tryd.prog Γ0 38 [(.sl 7 (l.map avA))] [iv (attrsC l)] := by
  have hl := len_wtAs l
  refine pcall_of Tryd.func38 rfl Tryd.ntmps38 (by kernel_rfl) rfl fun w0 I0 G0 => ?_
  refine aw_seq ?_
  refine aw_region ?_
  refine g_u (s_as_imm rfl rfl) ?_
  refine g_nil ?_
  refine normal_thn ?_
  refine aw_seq ?_
  refine aw_seq ?_
  refine aw_region ?_
  refine g_u (s_mv_imm rfl rfl) ?_
  refine g_u (s_lenL rfl rfl Tryd.underlying30) ?_
  refine g_u (s_gtI rfl rfl rfl) ?_
  refine g_nil ?_
  refine normal_thn ?_
  refine aw_cond rfl (fun hb1 => ?_) (fun hb1 => ?_)
  · skip
    have q : (l.length : Int) > 32 := by have e := of_decide_eq_true hb1; simp only [List.length_map] at e; omega
    refine aw_seq ?_
    refine aw_region ?_
    refine g_u (s_as_imm rfl rfl) ?_
    refine g_nil ?_
    refine normal_thn ?_
    refine aw_ret ?_
    refine ret_thn ?_
    exact ⟨⟨(rfl : toAV (Al.look _ _) = some _).trans (congrArg some (by (exact congrArg iv (by first | (rw [h2, hin, List.drop_length]; rfl) | (rw [h2, textsC_drop hi, if_pos (by omega)]; done) | (unfold attrsC; rw [if_pos (by omega)]; done) | (unfold attrsC; rw [if_neg (by omega), orC_pos _ _ (by omega)]; done))))), rfl⟩, trivial⟩
  · skip
    have q : ¬ (l.length : Int) > 32 := by have e := of_decide_eq_false hb1; simp only [List.length_map] at e; omega
    refine aw_skip ?_
    refine normal_thn ?_
    refine aw_seq ?_
    refine aw_seq ?_
    refine aw_region ?_
    refine g_u (s_mv_imm rfl rfl) ?_
    refine g_u (s_call1 (entC_c l 0 ⟨by omega, by omega⟩) rfl rfl) ?_
    refine g_u (s_as_imm rfl rfl) ?_
    refine g_nil ?_
    refine normal_thn ?_
    refine aw_seq ?_
    refine aw_region ?_
    refine g_u (s_mv_imm rfl rfl) ?_
    refine g_u (s_neI rfl rfl rfl) ?_
    refine g_nil ?_
    refine normal_thn ?_
    refine aw_cond rfl (fun hb2 => ?_) (fun hb2 => ?_)
    · skip
      have q := bne_iff_ne.1 hb2
      refine aw_seq ?_
      refine aw_region ?_
      refine g_u (s_mv_imm rfl rfl) ?_
      refine g_u (s_as_imm rfl rfl) ?_
      refine g_nil ?_
      refine normal_thn ?_
      refine aw_ret ?_
      refine ret_thn ?_
      exact ⟨⟨(rfl : toAV (Al.look _ _) = some _).trans (congrArg some (by (exact congrArg iv (by first | (rw [h2, hin, List.drop_length]; rfl) | (rw [h2, textsC_drop hi, if_pos (by omega)]; done) | (unfold attrsC; rw [if_pos (by omega)]; done) | (unfold attrsC; rw [if_neg (by omega), orC_pos _ _ (by omega)]; done))))), rfl⟩, trivial⟩
    · skip
      have q := bne_eq_false_iff_eq.1 hb2
      refine aw_skip ?_
      refine normal_thn ?_
      refine aw_seq ?_
      refine aw_seq ?_
      refine aw_region ?_
      refine g_u (s_mv_imm rfl rfl) ?_
      refine g_u (s_lenL rfl rfl Tryd.underlying30) ?_
      refine g_u (s_mv_imm rfl rfl) ?_
      refine g_nil ?_
      refine normal_thn ?_
      refine aw_block ?_
      refine aw_loop' (fun i : Nat => [(14, .imm (.sl 7 (l.map avA))), (15, .imm (iv (l.length : Int))), (16, .imm (iv (i : Int)))]) (fun i => i ≤ l.length ∧ attrsC l = textsC (l.drop i)) (fun i => l.length - i) (0) ?_ ⟨rfl, look_int rfl (by rw [List.length_map]), rfl, trivial⟩ ?_
      · exact ⟨Nat.zero_le _, by unfold attrsC; rw [if_neg (by omega), orC_zero _ _ (by omega)]; rfl⟩
      · rintro i ⟨h1, h2⟩; (try dsimp only at h1 h2)
        refine aw_seq ?_
        refine aw_region ?_
        refine g_u (s_ltI rfl rfl rfl) ?_
        refine g_nil ?_
        refine normal_thn ?_
        refine aw_seq ?_
        refine aw_cond rfl (fun hb3 => ?_) (fun hb3 => ?_)
        · skip
          have hi : i < l.length := by have := of_decide_eq_true hb3; (try simp only [List.length_map] at this); omega
          have gov : (nthA l i).val.ok := ((GA.ok_iff _).1 (ho _ (nthA_mem hi))).2
          have gow : (nthA l i).val.wt ≤ 10000000 := by have h1 := wtAs_mem (nthA_mem hi); have h2 := (nthA l i).wt_eq; omega
          refine aw_skip ?_
          refine normal_thn ?_
          refine aw_seq ?_
          refine aw_block ?_
          refine aw_seq ?_
          refine aw_region ?_
          refine g_u (s_indexAddr rfl rfl rfl Tryd.underlying30 tS76 (by omega) (ixA hi)) ?_
          refine g_u (s_load_cp rfl rfl tA76 tS76 rfl rfl) ?_
          refine g_uG (s_alloc' 1005 rfl rfl rfl tZ76) rfl ?_
          refine g_u (s_store_imm rfl rfl rfl tS76 rfl rfl) ?_
          refine g_nil ?_
          refine normal_thn ?_
          refine aw_seq ?_
          refine aw_region ?_
          refine g_u (s_fieldAddr rfl rfl fa76_1 rfl) ?_
          refine g_u (s_load_imm rfl rfl rfl tA67 tS67 rfl rfl) ?_
          refine g_u (s_call1 (text_c _ gov gow) rfl rfl) ?_
          refine g_u (s_lenS rfl rfl Tryd.underlying9) ?_
          refine g_u (s_gtI rfl rfl rfl) ?_
          refine g_nil ?_
          refine normal_thn ?_
          refine aw_cond rfl (fun hb4 => ?_) (fun hb4 => ?_)
          · skip
            have q := of_decide_eq_true hb4
            refine aw_seq ?_
            refine aw_region ?_
            refine g_u (s_as_imm rfl rfl) ?_
            refine g_nil ?_
            refine normal_thn ?_
            refine aw_ret ?_
            refine ret_blk ?_
            refine ret_thn ?_
            refine ret_thn ?_
            refine ret_blk ?_
            refine ret_thn ?_
            exact ⟨⟨(rfl : toAV (Al.look _ _) = some _).trans (congrArg some (by (exact congrArg iv (by first | (rw [h2, hin, List.drop_length]; rfl) | (rw [h2, textsC_drop hi, if_pos (by omega)]; done) | (unfold attrsC; rw [if_pos (by omega)]; done) | (unfold attrsC; rw [if_neg (by omega), orC_pos _ _ (by omega)]; done))))), rfl⟩, trivial⟩
          · skip
            have q := of_decide_eq_false hb4
            refine aw_skip ?_
            refine normal_blk ?_
            refine normal_thn ?_
            refine aw_region ?_
            refine g_u (s_add rfl rfl rfl) ?_
            refine g_u (s_mv_imm rfl rfl) ?_
            refine g_nil ?_
            refine normal_thn ?_
            refine ⟨i + 1, ⟨hi, by (try dsimp only); rw [h2, textsC_drop hi, if_neg (by omega)]⟩, ⟨rfl, rfl, look_int rfl (by rw [wrap64 (by omega) (by omega)]; rfl), trivial⟩, by (try dsimp only); omega⟩
        · skip
          have hin : i = l.length := by have := of_decide_eq_false hb3; (try simp only [List.length_map] at this); omega
          refine aw_exit ?_
          refine exit_thn ?_
          refine exit_thn ?_
          refine exit_blk ?_
          refine normal_thn ?_
          refine aw_seq ?_
          refine aw_region ?_
          refine g_u (s_as_imm rfl rfl) ?_
          refine g_nil ?_
          refine normal_thn ?_
          refine aw_ret ?_
          exact ⟨⟨(rfl : toAV (Al.look _ _) = some _).trans (congrArg some (by (exact congrArg iv (by first | (rw [h2, hin, List.drop_length]; rfl) | (rw [h2, textsC_drop hi, if_pos (by omega)]; done) | (unfold attrsC; rw [if_pos (by omega)]; done) | (unfold attrsC; rw [if_neg (by omega), orC_pos _ _ (by omega)]; done))))), rfl⟩, trivial⟩

set_option maxHeartbeats 400000 in
theorem rcheckAs_c (l : List GA) (ho : ∀ a ∈ l, a.ok) (hw : wtAs l ≤ 1000000) : PCall Tryd.prog Γ0 39 [(.sl 7 (l.map avA))] [iv (attrsC l)] := by
  have hl := len_wtAs l
  refine pcall_of Tryd.func39 rfl Tryd.ntmps39 (by kernel_rfl) rfl fun w0 I0 G0 => ?_
  refine aw_seq ?_
  refine aw_region ?_
  refine g_u (s_as_imm rfl rfl) ?_
  refine g_nil ?_
  refine normal_thn ?_
  refine aw_seq ?_
  refine aw_seq ?_
  refine aw_region ?_
  refine g_u (s_mv_imm rfl rfl) ?_
  refine g_u (s_lenL rfl rfl Tryd.underlying30) ?_
  refine g_u (s_gtI rfl rfl rfl) ?_
  refine g_nil ?_
  refine normal_thn ?_
  refine aw_cond rfl (fun hb1 => ?_) (fun hb1 => ?_)
  · skip
    have q : (l.length : Int) > 32 := by have e := of_decide_eq_true hb1; simp only [List.length_map] at e; omega
    refine aw_seq ?_
    refine aw_region ?_
    refine g_u (s_as_imm rfl rfl) ?_
    refine g_nil ?_
    refine normal_thn ?_
    refine aw_ret ?_
    refine ret_thn ?_
    exact ⟨⟨(rfl : toAV (Al.look _ _) = some _).trans (congrArg some (by (exact congrArg iv (by first | (rw [h2, hin, List.drop_length]; rfl) | (rw [h2, textsC_drop hi, if_pos (by omega)]; done) | (unfold attrsC; rw [if_pos (by omega)]; done) | (unfold attrsC; rw [if_neg (by omega), orC_pos _ _ (by omega)]; done))))), rfl⟩, trivial⟩
  · skip
    have q : ¬ (l.length : Int) > 32 := by have e := of_decide_eq_false hb1; simp only [List.length_map] at e; omega
    refine aw_skip ?_
    refine normal_thn ?_
    refine aw_seq ?_
    refine aw_seq ?_
    refine aw_region ?_
    refine g_u (s_mv_imm rfl rfl) ?_
    refine g_u (s_call1 (rentC_c l 0 ⟨by omega, by omega⟩) rfl rfl) ?_
    refine g_u (s_as_imm rfl rfl) ?_
    refine g_nil ?_
    refine normal_thn ?_
    refine aw_seq ?_
    refine aw_region ?_
    refine g_u (s_mv_imm rfl rfl) ?_
    refine g_u (s_neI rfl rfl rfl) ?_
    refine g_nil ?_
    refine normal_thn ?_
    refine aw_cond rfl (fun hb2 => ?_) (fun hb2 => ?_)
    · skip
      have q := bne_iff_ne.1 hb2
      refine aw_seq ?_
      refine aw_region ?_
      refine g_u (s_mv_imm rfl rfl) ?_
      refine g_u (s_as_imm rfl rfl) ?_
      refine g_nil ?_
      refine normal_thn ?_
      refine aw_ret ?_
      refine ret_thn ?_
      exact ⟨⟨(rfl : toAV (Al.look _ _) = some _).trans (congrArg some (by (exact congrArg iv (by first | (rw [h2, hin, List.drop_length]; rfl) | (rw [h2, textsC_drop hi, if_pos (by omega)]; done) | (unfold attrsC; rw [if_pos (by omega)]; done) | (unfold attrsC; rw [if_neg (by omega), orC_pos _ _ (by omega)]; done))))), rfl⟩, trivial⟩
    · skip
      have q := bne_eq_false_iff_eq.1 hb2
      refine aw_skip ?_
      refine normal_thn ?_
      refine aw_seq ?_
      refine aw_seq ?_
      refine aw_region ?_
      refine g_u (s_as_imm rfl rfl) ?_
      refine g_nil ?_
      refine normal_thn ?_
      refine aw_block ?_
      refine aw_loop' (fun i : Nat => [(0, .imm (.sl 7 (l.map avA))), (4, .imm (iv (i : Int)))]) (fun i => i ≤ l.length ∧ attrsC l = textsC (l.drop i)) (fun i => l.length - i) (0) ?_ ⟨rfl, rfl, trivial⟩ ?_
      · exact ⟨Nat.zero_le _, by unfold attrsC; rw [if_neg (by omega), orC_zero _ _ (by omega)]; rfl⟩
      · rintro i ⟨h1, h2⟩; (try dsimp only at h1 h2)
        refine aw_seq ?_
        refine aw_seq ?_
        refine aw_region ?_
        refine g_u (s_mv_imm rfl rfl) ?_
        refine g_u (s_mv_imm rfl rfl) ?_
        refine g_u (s_lenL rfl rfl Tryd.underlying30) ?_
        refine g_u (s_ltI rfl rfl rfl) ?_
        refine g_nil ?_
        refine normal_thn ?_
        refine aw_cond rfl (fun hb3 => ?_) (fun hb3 => ?_)
        · skip
          have hi : i < l.length := by have := of_decide_eq_true hb3; (try simp only [List.length_map] at this); omega
          have gov : (nthA l i).val.ok := ((GA.ok_iff _).1 (ho _ (nthA_mem hi))).2
          have gow : (nthA l i).val.wt ≤ 10000000 := by have h1 := wtAs_mem (nthA_mem hi); have h2 := (nthA l i).wt_eq; omega
          refine aw_skip ?_
          refine normal_thn ?_
          refine aw_seq ?_
          refine aw_block ?_
          refine aw_seq ?_
          refine aw_region ?_
          refine g_u (s_mv_imm rfl rfl) ?_
          refine g_u (s_mv_imm rfl rfl) ?_
          refine g_u (s_indexAddr rfl rfl rfl Tryd.underlying30 tS76 (by omega) (ixA hi)) ?_
          refine g_u (s_fieldAddr_cp rfl rfl fa76_1 rfl rfl) ?_
          refine g_u (s_load_cp rfl rfl tA67 tS67 rfl rfl) ?_
          refine g_u (s_call1 (rtext_c _ gov gow) rfl rfl) ?_
          refine g_u (s_lenS rfl rfl Tryd.underlying9) ?_
          refine g_u (s_gtI rfl rfl rfl) ?_
          refine g_nil ?_
          refine normal_thn ?_
          refine aw_cond rfl (fun hb4 => ?_) (fun hb4 => ?_)
          · skip
            have q := of_decide_eq_true hb4
            refine aw_seq ?_
            refine aw_region ?_
            refine g_u (s_as_imm rfl rfl) ?_
            refine g_nil ?_
            refine normal_thn ?_
            refine aw_ret ?_
            refine ret_blk ?_
            refine ret_thn ?_
            refine ret_thn ?_
            refine ret_blk ?_
            refine ret_thn ?_
            exact ⟨⟨(rfl : toAV (Al.look _ _) = some _).trans (congrArg some (by (exact congrArg iv (by first | (rw [h2, hin, List.drop_length]; rfl) | (rw [h2, textsC_drop hi, if_pos (by omega)]; done) | (unfold attrsC; rw [if_pos (by omega)]; done) | (unfold attrsC; rw [if_neg (by omega), orC_pos _ _ (by omega)]; done))))), rfl⟩, trivial⟩
          · skip
            have q := of_decide_eq_false hb4
            refine aw_skip ?_
            refine normal_blk ?_
            refine normal_thn ?_
            refine aw_region ?_
            refine g_u (s_mv_imm rfl rfl) ?_
            refine g_u (s_add rfl rfl rfl) ?_
            refine g_u (s_as_imm rfl rfl) ?_
            refine g_nil ?_
            refine normal_thn ?_
            refine ⟨i + 1, ⟨hi, by (try dsimp only); rw [h2, textsC_drop hi, if_neg (by omega)]⟩, ⟨rfl, look_int rfl (by rw [wrap64 (by omega) (by omega)]; rfl), trivial⟩, by (try dsimp only); omega⟩
        · skip
          have hin : i = l.length := by have := of_decide_eq_false hb3; (try simp only [List.length_map] at this); omega
          refine aw_exit ?_
          refine exit_thn ?_
          refine exit_thn ?_
          refine exit_blk ?_
          refine normal_thn ?_
          refine aw_seq ?_
          refine aw_region ?_
          refine g_u (s_as_imm rfl rfl) ?_
          refine g_nil ?_
          refine normal_thn ?_
          refine aw_ret ?_
          exact ⟨⟨(rfl : toAV (Al.look _ _) = some _).trans (congrArg some (by (exact congrArg iv (by first | (rw [h2, hin, List.drop_length]; rfl) | (rw [h2, textsC_drop hi, if_pos (by omega)]; done) | (unfold attrsC; rw [if_pos (by omega)]; done) | (unfold attrsC; rw [if_neg (by omega), orC_pos _ _ (by omega)]; done))))), rfl⟩, trivial⟩

set_option maxHeartbeats 2000000 in
theorem putA_c (l : List GA) (k : ByteArray) (v : GV) (hr : risA none l) (hl : l.length ≤ 1000000) : PCall Tryd.prog Γ0 46 [(.sl 7 (l.map avA)), sv k, v.av] [.sl 7 ((intoA l (.mk k v)).map avA)] := by
  have hp := posA_le l k
  have hML : ((l.take (posA l k)).map avA).length = posA l k := by rw [List.length_map, List.length_take]; omega
  have hRL := restA_len l k
  refine pcall_of Tryd.func46 rfl Tryd.ntmps46 (by kernel_rfl) rfl fun w0 I0 G0 => ?_
  refine aw_seq ?_
  refine aw_region ?_
  refine g_uG (s_box_imm 1005 rfl rfl rfl rfl) rfl ?_
  refine g_u (s_as_imm rfl rfl) ?_
  refine g_nil ?_
  refine normal_thn ?_
  refine aw_seq ?_
  refine aw_region ?_
  refine g_u (s_mv_imm rfl rfl) ?_
  refine g_u (s_mv_imm rfl rfl) ?_
  refine g_u (s_call2 (find_c l k hr (by omega)) rfl rfl) ?_
  refine g_u (s_mv_tup rfl rfl) ?_
  refine g_u (s_extract rfl rfl rfl rfl) ?_
  refine g_u (s_extract rfl rfl rfl rfl) ?_
  refine g_u (s_as_imm rfl rfl) ?_
  refine g_u (s_as_imm rfl rfl) ?_
  refine g_nil ?_
  refine normal_thn ?_
  refine aw_seq ?_
  refine aw_region ?_
  refine g_u (s_mv_imm rfl rfl) ?_
  refine g_u (s_mv_imm rfl rfl) ?_
  refine g_u (s_slL_l (posA l k) rfl rfl rfl Tryd.underlying30 tS76 rfl (by rw [List.length_map]; omega)) ?_
  refine g_u (s_as_imm rfl rfl) ?_
  refine g_nil ?_
  refine normal_thn ?_
  refine aw_seq ?_
  refine aw_seq ?_
  refine aw_region ?_
  refine g_u (s_mv_imm rfl rfl) ?_
  refine g_nil ?_
  refine normal_thn ?_
  refine aw_cut' (fun _ : Unit => [(0, .imm (.sl 7 (l.map avA))), (1, .imm (sv k)), (5, .ptr 1005 0), (1005, .box 67 (.imm v.av)), (7, .imm (iv (posA l k : Nat))), (9, .imm (.sl 7 ((restA l k).map avA)))]) (fun _ => True) ?_ ?_
  · skip
    refine aw_cond rfl (fun hb1 => ?_) (fun hb1 => ?_)
    · skip
      have hh : hasA l k = true := hb1
      have hpl : posA l k < l.length := by unfold hasA at hh; simp at hh; exact hh.1
      refine aw_region ?_
      refine g_u (s_mv_imm rfl rfl) ?_
      refine g_u (s_mv_imm rfl rfl) ?_
      refine g_u (s_add rfl rfl rfl) ?_
      refine g_u (s_slL_l (posA l k + 1) rfl rfl rfl Tryd.underlying30 tS76 (by rw [wrap64 (by omega) (by omega)]; omega) (by rw [List.length_map]; omega)) ?_
      refine g_u (s_as_imm rfl rfl) ?_
      refine g_nil ?_
      refine normal_thn ?_
      exact ⟨(), trivial, ⟨rfl, rfl, rfl, rfl, rfl, look_imm rfl (by first | (rw [restA_yes hh]; simp only [List.take_length, List.map_drop]; done) | (rw [restA_no hh]; simp only [List.take_length, List.map_drop]; done)), trivial⟩⟩
    · skip
      have hh : hasA l k = false := hb1
      refine aw_skip ?_
      refine normal_thn ?_
      exact ⟨(), trivial, ⟨rfl, rfl, rfl, rfl, rfl, look_imm rfl (by first | (rw [restA_yes hh]; simp only [List.take_length, List.map_drop]; done) | (rw [restA_no hh]; simp only [List.take_length, List.map_drop]; done)), trivial⟩⟩
  · rintro _ hc
    refine aw_seq ?_
    refine aw_region ?_
    refine g_u (s_mv_imm rfl rfl) ?_
    refine g_u (s_add rfl rfl rfl) ?_
    refine g_u (s_mv_imm rfl rfl) ?_
    refine g_u (s_lenL rfl rfl Tryd.underlying30) ?_
    refine g_u (s_add rfl rfl rfl) ?_
    refine g_uG (s_makeSlice 1030 (X0 := z76) (len := (posA l k + 1 + (restA l k).length)) (cap := (posA l k + 1 + (restA l k).length)) rfl rfl rfl rfl rfl (by rw [List.length_map, wrap64 (n := (posA l k : Int) + 1) (by omega) (by omega), wrap64 (by omega) (by omega)]; omega) (by rw [List.length_map, wrap64 (n := (posA l k : Int) + 1) (by omega) (by omega), wrap64 (by omega) (by omega)]; omega) Tryd.underlying30 tS76 tZ76 rfl rfl by76 (Nat.le_refl _) (by omega) (by omega)) rfl ?_
    refine g_u (s_as_osl rfl rfl) ?_
    refine g_nil ?_
    refine normal_thn ?_
    refine aw_seq ?_
    refine aw_cut' (fun _ : Unit => [(0, .imm (.sl 7 (l.map avA))), (1, .imm (sv k)), (5, .ptr 1005 0), (1005, .box 67 (.imm v.av)), (7, .imm (iv (posA l k : Nat))), (9, .imm (.sl 7 ((restA l k).map avA))), (10, .osl 1030 0 (posA l k + 1 + (restA l k).length) (posA l k + 1 + (restA l k).length)), (1030, .box 76 (.imm (.agg (((l.take (posA l k)).map avA) ++ (List.replicate (1 + (restA l k).length) z76)))))]) (fun _ => True) ?_ ?_
    · skip
      refine aw_region ?_
      refine g_u (s_mv_osl rfl rfl) ?_
      refine g_u (s_mv_imm rfl rfl) ?_
      refine g_u (s_mv_imm rfl rfl) ?_
      refine g_u (s_slL_h (posA l k) rfl rfl rfl Tryd.underlying30 tS76 rfl (by rw [List.length_map]; omega)) ?_
      refine g_u (s_copy_in (el := 76) (el' := 0) (T1 := 0) rfl rfl rfl rfl rfl Tryd.underlying30 tS76 (by intro x hx; rw [List.eq_of_mem_replicate hx]; rfl) (by rw [List.length_replicate]; omega)) ?_
      refine g_nil ?_
      refine normal_thn ?_
      exact ⟨(), trivial, ⟨rfl, rfl, rfl, rfl, rfl, rfl, rfl, look_bagg rfl ((row1 (p := posA l k) (r := (restA l k).length) (by simp only [List.length_drop, List.length_take, List.length_map]; omega) rfl).trans (by rw [List.drop_zero, ← List.map_take])), trivial⟩⟩
    · rintro _ hc
      refine aw_seq ?_
      refine aw_cut' (fun _ : Unit => [(0, .imm (.sl 7 (l.map avA))), (1, .imm (sv k)), (5, .ptr 1005 0), (1005, .box 67 (.imm v.av)), (7, .imm (iv (posA l k : Nat))), (9, .imm (.sl 7 ((restA l k).map avA))), (10, .osl 1030 0 (posA l k + 1 + (restA l k).length) (posA l k + 1 + (restA l k).length)), (1030, .box 76 (.imm (.agg (((l.take (posA l k)).map avA) ++ (GA.mk k v).av :: (List.replicate (restA l k).length z76)))))]) (fun _ => True) ?_ ?_
      · skip
        refine aw_region ?_
        refine g_u (s_mv_osl rfl rfl) ?_
        refine g_u (s_mv_imm rfl rfl) ?_
        refine g_u (s_mv_imm rfl rfl) ?_
        refine g_u (s_load_imm rfl rfl rfl tA67 tS67 rfl rfl) ?_
        refine g_u (s_build rfl tU76 us76 pl76 rfl rfl rfl rfl) ?_
        refine g_u (s_ixOsl (i := (posA l k)) rfl rfl rfl Tryd.underlying30 tS76 rfl (by omega)) ?_
        refine g_u (s_storeElt rfl rfl rfl tS76 (widths_mem (avA_w _) rfl _) rfl (by simp only [List.length_append, List.length_replicate, hML]; omega)) ?_
        refine g_nil ?_
        refine normal_thn ?_
        exact ⟨(), trivial, ⟨rfl, rfl, rfl, rfl, rfl, rfl, rfl, look_bagg rfl (row2 hML), trivial⟩⟩
      · rintro _ hc
        refine aw_seq ?_
        refine aw_region ?_
        refine g_u (s_mv_osl rfl rfl) ?_
        refine g_u (s_mv_imm rfl rfl) ?_
        refine g_u (s_add rfl rfl rfl) ?_
        refine g_u (s_slOsl (lo := (posA l k + 1)) rfl rfl rfl Tryd.underlying30 tS76 (by rw [wrap64 (by omega) (by omega)]; omega) (by omega)) ?_
        refine g_u (s_mv_imm rfl rfl) ?_
        refine g_u (s_copy_at (el := 76) (o := (if (posA l k + 1 + (restA l k).length) = posA l k + 1 then 0 else posA l k + 1)) (fun _ _ => trivial) rfl rfl rfl rfl Tryd.underlying30 tS76 rfl (by split <;> simp) (rowW rfl _ _ _) (by simp only [List.length_append, List.length_cons, List.length_replicate, hML]; split <;> omega)) ?_
        refine g_nil ?_
        refine normal_thn ?_
        refine aw_freezeW 1030 3030 7 (((l.take (posA l k)).map avA) ++ (GA.mk k v).av :: (restA l k).map avA) [(10, .slg 3030 7 (((l.take (posA l k)).map avA) ++ (GA.mk k v).av :: (restA l k).map avA))] rfl rfl rfl rfl rfl rfl rfl ⟨.inr (.inl ⟨rfl, rfl⟩), trivial⟩ ?_ ?_ (Nat.le_refl _) (by unfold maxLen; omega) ?_ ?_
        · rw [row3 hML (List.length_map _) rfl]; exact rowW2 _ _ _
        · rw [row3 hML (List.length_map _) rfl]; simp only [List.length_append, List.length_cons, hML, List.length_map]; omega
        · rw [row3 hML (List.length_map _) rfl]; exact List.take_of_length_le (by simp only [List.length_append, List.length_cons, hML, List.length_map]; omega)
        refine aw_seq ?_
        refine aw_region ?_
        refine g_u (s_mv_slg rfl rfl) ?_
        refine g_u (s_as_slg rfl rfl) ?_
        refine g_nil ?_
        refine normal_thn ?_
        refine aw_ret ?_
        exact ⟨⟨(rfl : toAV (Al.look _ _) = some _).trans (congrArg some (by (exact congrArg (AV.sl 7) (into_row k v)))), rfl⟩, trivial⟩

end Go.Proofs

namespace Go.Proofs
open Go Go.Al
set_option maxRecDepth 10000
def five : GV := .mk 3 ⟨#[]⟩ 5 0 [] []
def kA : ByteArray := ⟨#[97]⟩
def kB : ByteArray := ⟨#[98]⟩
def kC : ByteArray := ⟨#[99]⟩
def L26 : List GA := [.mk kA five, .mk kB five, .mk kC five]
theorem L26_eq : intoA (intoA (intoA [] (.mk kC five)) (.mk kA five)) (.mk kB five) = L26 := by rfl
theorem five_ok : five.ok := by rw [GV.ok_iff]; exact ⟨by decide, by decide, by decide, by decide, fun x h => (by cases h), fun x h => (by cases h)⟩
theorem L26_ok : ∀ a ∈ L26, a.ok := by
  intro a ha
  rcases List.mem_cons.1 ha with rfl | ha
  · exact (GA.ok_iff _).2 ⟨by decide, five_ok⟩
  rcases List.mem_cons.1 ha with rfl | ha
  · exact (GA.ok_iff _).2 ⟨by decide, five_ok⟩
  cases List.mem_singleton.1 ha
  exact (GA.ok_iff _).2 ⟨by decide, five_ok⟩
theorem L26_ris : risA none L26 := L26_eq ▸ ris_intoA _ _ none (ris_intoA _ _ none (ris_intoA _ _ none trivial trivial) trivial) trivial
theorem zeroV_ok : zeroV.ok := by rw [GV.ok_iff]; exact ⟨by decide, by decide, by decide, by decide, fun x h => (by cases h), fun x h => (by cases h)⟩
theorem a0_ok : a0.ok := (GA.ok_iff _).2 ⟨by decide, zeroV_ok⟩
theorem rep_wt : ∀ n : Nat, wtAs (List.replicate n a0) = n
  | 0 => rfl
  | n + 1 => by rw [List.replicate_succ, wtAs, rep_wt n]; have : a0.wt = 1 := by decide
                omega
theorem check33 : PCall Tryd.prog Γ0 38 [.sl 7 (List.replicate 33 zs76)] [iv (attrsC (List.replicate 33 a0))] := by
  have h := checkAs_c (List.replicate 33 a0) (fun a h => by rw [List.eq_of_mem_replicate h]; exact a0_ok) (by rw [rep_wt]; decide)
  have e : (List.replicate 33 a0).map avA = List.replicate 33 zs76 := by rw [List.map_replicate, avA_eq]; rfl
  rw [e] at h; exact h
theorem put26 : PCall Tryd.prog Γ0 46 [.sl 7 ((intoA (intoA [] (.mk kC five)) (.mk kA five)).map avA), sv kB, five.av] [.sl 7 (L26.map avA)] := by
  rw [← L26_eq]; exact putA_c _ _ _ (ris_intoA _ _ none (ris_intoA _ _ none trivial trivial) trivial) (by decide)
theorem getA_into (l : List GA) (k : ByteArray) (v : GV) : ∀ p : Option ByteArray, risA p l → getA (intoA l (.mk k v)) k = some v := by
  induction l with
  | nil => intro p _; simp [intoA, getA, GA.key_mk, GA.val_mk]
  | cons x l ih =>
    intro p h
    rw [intoA]
    split
    · rename_i hl
      have hne : x.key ≠ k := by rintro rfl; rw [GA.key_mk, ltB_irrefl] at hl; cases hl
      rw [getA, if_neg hne]; exact ih _ h.2
    · split <;> simp [getA, GA.key_mk, GA.val_mk]
theorem dropA_wt (ks : List ByteArray) : ∀ l : List GA, wtAs (dropA ks l) ≤ wtAs l
  | [] => Nat.le_refl _
  | x :: l => by rw [dropA]; have := dropA_wt ks l; split <;> simp only [wtAs] <;> omega
theorem leftAs_le {l : List GA} {n : Int} (h : ¬ leftAs l n < 0) : (wtAs l : Int) ≤ n := by have := leftAs_wt (l := l) (n := n) (by omega); omega
theorem plainA_ok {ks : List Int} {a : GA} (ho : a.ok) (hw : a.wt ≤ 1000000) : (plainA ks a).ok := by
  unfold plainA
  have ha := (GA.ok_iff a).1 ho
  have := a.wt_eq
  split
  · exact (GA.ok_iff _).2 ⟨ha.1, plainV_ok ha.2 (by omega)⟩
  · exact ho
theorem plainA_wt (ks : List Int) (a : GA) : (plainA ks a).wt ≤ 151 * a.wt := by
  unfold plainA
  have h1 := a.wt_eq
  have h2 := a.val.wt_pos
  split
  · have h3 : (GA.mk a.key (plainV a.val)).wt = a.key.size + (plainV a.val).wt := GA.wt_eq _
    have h4 := plainV_wt a.val
    have h5 : (textM a.val).size ≤ 150 * a.val.wt := by rw [textM, strOf_size]; exact textB_length _
    omega
  · omega
theorem plainAs_wt (ks : List Int) : ∀ l : List GA, wtAs (l.map (plainA ks)) ≤ 151 * wtAs l
  | [] => by simp [wtAs]
  | x :: l => by simp only [List.map_cons, wtAs]; have := plainA_wt ks x; have := plainAs_wt ks l; omega
theorem plainV_plain (v : GV) : plainV (plainV v) = plainV v := by
  have : textM (plainV v) = textM v := textB_plain v
  show GV.mk 1 (textM (plainV v)) 0 0 [] [] = plainV v
  rw [this]; rfl
theorem plainA_idem (ks : List Int) (a : GA) : plainA ks (plainA ks a) = plainA ks a := by
  cases h : ks.any (fun k => k == a.val.kind)
  · have e : plainA ks a = a := by unfold plainA; rw [if_neg (by rw [h]; decide)]
    rw [e, e]
  · have e : plainA ks a = .mk a.key (plainV a.val) := by unfold plainA; rw [if_pos h]
    rw [e]; unfold plainA
    split
    · rw [GA.val_mk, GA.key_mk, plainV_plain]
    · rfl

set_option maxRecDepth 100000 in
set_option maxHeartbeats 2000000 in
theorem works26_c : PCall Tryd.prog Γ0 37 [] [bv true] := by
  refine pcall_of Tryd.func37 rfl Tryd.ntmps37 (by kernel_rfl) rfl fun w0 I0 G0 => ?_
  refine aw_seq ?_
  refine aw_region ?_
  refine g_u (s_as_imm rfl rfl) ?_
  refine g_nil ?_
  refine normal_thn ?_
  refine aw_seq ?_
  refine aw_region ?_
  refine g_u (s_build rfl tU67 us67 pl67 rfl rfl rfl rfl) ?_
  refine g_uG (s_alloc' 1001 rfl rfl rfl tZ67) rfl ?_
  refine g_u (s_store_imm rfl rfl rfl tS67 rfl rfl) ?_
  refine g_nil ?_
  refine normal_thn ?_
  refine aw_seq ?_
  refine aw_draw mixed ?_
  refine g_u (s_load_agg rfl rfl rfl tA67 tS67 rfl rfl) ?_
  refine g_u (s_call1 (nil1 (n := 7) (putA_c [] kC five trivial (by decide))) rfl rfl) ?_
  refine g_u (s_load_agg rfl rfl rfl tA67 tS67 rfl rfl) ?_
  refine g_u (s_call1 (putA_c (intoA [] (.mk kC five)) kA five (ris_intoA _ _ none trivial trivial) (by decide)) rfl rfl) ?_
  refine g_u (s_load_agg rfl rfl rfl tA67 tS67 rfl rfl) ?_
  refine g_u (s_call1 (put26) rfl rfl) ?_
  refine g_u (s_as_imm rfl rfl) ?_
  refine g_nil ⟨by kernel_rfl, ?_⟩
  refine normal_thn ?_
  refine aw_seq ?_
  refine aw_seq ?_
  refine aw_region ?_
  refine g_u (s_mv_imm rfl rfl) ?_
  refine g_u (s_lenL rfl rfl Tryd.underlying30) ?_
  refine g_u (s_neI rfl rfl rfl) ?_
  refine g_nil ?_
  refine normal_thn ?_
  refine aw_cond rfl (fun hb1 => ?_) (fun hb1 => ?_)
  · exact killF hb1 (by first | rfl | decide +kernel)
  · skip
    refine aw_skip ?_
    refine normal_thn ?_
    refine aw_seq ?_
    refine aw_region ?_
    refine g_u (s_mv_imm rfl rfl) ?_
    refine g_u (s_call2 (get_c L26 kB L26_ris (by decide)) rfl rfl) ?_
    refine g_u (s_mv_tup rfl rfl) ?_
    refine g_u (s_extract rfl rfl rfl rfl) ?_
    refine g_u (s_extract rfl rfl rfl rfl) ?_
    refine g_uG (s_alloc' 1003 rfl rfl rfl tZ67) rfl ?_
    refine g_u (s_store_imm rfl rfl rfl tS67 rfl rfl) ?_
    refine g_u (s_as_imm rfl rfl) ?_
    refine g_nil ?_
    refine normal_thn ?_
    refine aw_seq ?_
    refine aw_region ?_
    refine g_u (s_mv_imm rfl rfl) ?_
    refine g_u (s_slL_h 1 rfl rfl rfl Tryd.underlying30 tS76 rfl (by decide)) ?_
    refine g_u (s_buildSlice (X0 := z5) rfl Tryd.underlying79 tS5 tZ5 rfl rfl rfl rfl rfl rfl rfl rfl) ?_
    refine g_u (s_call1 (plainAs_c [.mk kA five] [3] (fun a h => by cases List.mem_singleton.1 h; exact (GA.ok_iff _).2 ⟨by decide, five_ok⟩) (by decide) (by decide)) rfl rfl) ?_
    refine g_u (s_as_imm rfl rfl) ?_
    refine g_nil ?_
    refine normal_thn ?_
    refine aw_seq ?_
    refine aw_region ?_
    refine g_u (s_mv_imm rfl rfl) ?_
    refine g_u (s_indexAddr rfl rfl rfl Tryd.underlying30 tS76 (by decide) (ixA (l := L26) (i := 1) (by decide))) ?_
    refine g_u (s_fieldAddr_cp rfl rfl fa76_0 rfl rfl) ?_
    refine g_u (s_load_cp rfl rfl tA9 tS9 rfl rfl) ?_
    refine g_u (s_eqS rfl rfl rfl) ?_
    refine g_u (s_mv_imm rfl rfl) ?_
    refine g_case (t := 30) rfl ?_
    rintro (hb2 | hb2)
    · rw [hb2]
      refine g_run rfl rfl (s_mv_imm rfl rfl) ?_
      refine g_u (s_pick_t rfl rfl rfl) ?_
      refine g_u (s_mv_imm rfl rfl) ?_
      refine g_case (t := 33) rfl ?_
      rintro (hb3 | hb3)
      · rw [hb3]
        refine g_run rfl rfl (s_fieldAddr rfl rfl fa67_2 rfl) ?_
        refine g_run rfl rfl (s_load_imm rfl rfl rfl tA3 tS3 rfl rfl) ?_
        refine g_run rfl rfl (s_eqI rfl rfl rfl) ?_
        refine g_u (s_pick_t rfl rfl rfl) ?_
        refine g_u (s_mv_imm rfl rfl) ?_
        refine g_case (t := 38) rfl ?_
        rintro (hb4 | hb4)
        · rw [hb4]
          refine g_run rfl rfl (s_mv_imm rfl rfl) ?_
          refine g_run rfl rfl (s_call1 (checkAs_c L26 L26_ok (by decide)) rfl rfl) ?_
          refine g_run rfl rfl (s_eqI rfl rfl rfl) ?_
          refine g_u (s_pick_t rfl rfl rfl) ?_
          refine g_u (s_mv_imm rfl rfl) ?_
          refine g_case (t := 43) rfl ?_
          rintro (hb5 | hb5)
          · rw [hb5]
            refine g_run rfl rfl (s_mv_imm rfl rfl) ?_
            refine g_run rfl rfl (s_buildSlice (X0 := z9) rfl Tryd.underlying78 tS9 tZ9 rfl rfl rfl rfl rfl rfl rfl rfl) ?_
            refine g_run rfl rfl (s_call1 (drop_c L26 [kA, kC] (by decide) (by decide)) rfl rfl) ?_
            refine g_run rfl rfl (s_lenL rfl rfl Tryd.underlying30) ?_
            refine g_run rfl rfl (s_eqI rfl rfl rfl) ?_
            refine g_u (s_pick_t rfl rfl rfl) ?_
            refine g_u (s_mv_imm rfl rfl) ?_
            refine g_case (t := 50) rfl ?_
            rintro (hb6 | hb6)
            · rw [hb6]
              refine g_run rfl rfl (s_mv_imm rfl rfl) ?_
              refine g_run rfl rfl (s_call1 (textA_c L26 kA L26_ris (by decide) L26_ok (by decide)) rfl rfl) ?_
              refine g_run rfl rfl (s_eqS rfl rfl rfl) ?_
              refine g_u (s_pick_t rfl rfl rfl) ?_
              refine g_u (s_mv_imm rfl rfl) ?_
              refine g_case (t := 55) rfl ?_
              rintro (hb7 | hb7)
              · rw [hb7]
                refine g_run rfl rfl (s_mv_imm rfl rfl) ?_
                refine g_run rfl rfl (s_lenL rfl rfl Tryd.underlying30) ?_
                refine g_run rfl rfl (s_eqI rfl rfl rfl) ?_
                refine g_u (s_pick_t rfl rfl rfl) ?_
                refine g_u (s_mv_imm rfl rfl) ?_
                refine g_case (t := 60) rfl ?_
                rintro (hb8 | hb8)
                · rw [hb8]
                  refine g_run rfl rfl (s_mv_imm rfl rfl) ?_
                  refine g_run rfl rfl (s_indexAddr rfl rfl rfl Tryd.underlying30 tS76 (by decide) (ixA (l := [GA.mk kA five].map (plainA [3])) (i := 0) (by decide))) ?_
                  refine g_run rfl rfl (s_fieldAddr_cp rfl rfl fa76_1 rfl rfl) ?_
                  refine g_run rfl rfl (s_fieldAddr_cp rfl rfl fa67_1 rfl rfl) ?_
                  refine g_run rfl rfl (s_load_cp rfl rfl tA9 tS9 rfl rfl) ?_
                  refine g_run rfl rfl (s_eqS rfl rfl rfl) ?_
                  refine g_u (s_pick_t rfl rfl rfl) ?_
                  refine g_u (s_mv_imm rfl rfl) ?_
                  refine g_case (t := 68) rfl ?_
                  rintro (hb9 | hb9)
                  · rw [hb9]
                    refine g_run rfl rfl (s_makeImm (X0 := zs76) (len := 33) (cap := 33) (n := 7) (by_ := 104) (il := 33) (ic := 33) (k1 := .i64) (k2 := .i64) (el := 76) rfl rfl rfl (by decide) (by decide) Tryd.underlying30 tS76 tU76 rfl rfl by76 rfl (by decide) (by decide)) ?_
                    refine g_run rfl rfl (s_call1 (check33) rfl rfl) ?_
                    refine g_run rfl rfl (s_eqI rfl rfl rfl) ?_
                    refine g_u (s_pick_t rfl rfl rfl) ?_
                    refine g_u (s_as_imm rfl rfl) ?_
                    refine g_nil ?_
                    refine normal_thn ?_
                    refine aw_ret ?_
                    exact ⟨⟨(rfl : toAV (Al.look _ _) = some _).trans (congrArg some (by rfl)), rfl⟩, trivial⟩
                  · exact killT hb9 (by first | rfl | decide +kernel)
                · exact killT hb8 (by first | rfl | decide +kernel)
              · exact killT hb7 (by first | rfl | decide +kernel)
            · exact killT hb6 (by first | rfl | decide +kernel)
          · exact killT hb5 (by first | rfl | decide +kernel)
        · exact killT hb4 (by first | rfl | decide +kernel)
      · exact killT hb3 (by first | rfl | decide +kernel)
    · exact killT hb2 (by first | rfl | decide +kernel)

set_option maxHeartbeats 400000 in
theorem attrsChecks_c (l : List GA) (ho : ∀ a ∈ l, a.ok) : PCall Tryd.prog Γ0 7 [(.sl 7 (l.map avA))] [bv true] := by
  refine pcall_of Tryd.func7 rfl Tryd.ntmps7 (by kernel_rfl) rfl fun w0 I0 G0 => ?_
  refine aw_seq ?_
  refine aw_region ?_
  refine g_u (s_as_imm rfl rfl) ?_
  refine g_nil ?_
  refine normal_thn ?_
  refine aw_seq ?_
  refine aw_seq ?_
  refine aw_region ?_
  refine g_u (s_mv_imm rfl rfl) ?_
  refine g_u (s_call1 (leftAs_c _ _ (by decide)) rfl rfl) ?_
  refine g_u (s_ltI rfl rfl rfl) ?_
  refine g_nil ?_
  refine normal_thn ?_
  refine aw_cond rfl (fun hb1 => ?_) (fun hb1 => ?_)
  · skip
    have z : leftAs l 4000 < 0 := of_decide_eq_true hb1
    refine aw_seq ?_
    refine aw_region ?_
    refine g_u (s_call1 (works26_c) rfl rfl) ?_
    refine g_u (s_as_imm rfl rfl) ?_
    refine g_nil ?_
    refine normal_thn ?_
    refine aw_ret ?_
    refine ret_thn ?_
    exact ⟨⟨(rfl : toAV (Al.look _ _) = some _).trans (congrArg some (by rfl)), rfl⟩, trivial⟩
  · skip
    have z : ¬ leftAs l 4000 < 0 := of_decide_eq_false hb1
    have hwl := leftAs_le z
    refine aw_skip ?_
    refine normal_thn ?_
    refine aw_seq ?_
    refine aw_region ?_
    refine g_u (s_mv_imm rfl rfl) ?_
    refine g_u (s_call1 (checkAs_c _ ho (by omega)) rfl rfl) ?_
    refine g_u (s_mv_imm rfl rfl) ?_
    refine g_u (s_call1 (rcheckAs_c _ ho (by omega)) rfl rfl) ?_
    refine g_u (s_eqI rfl rfl rfl) ?_
    refine g_u (s_mv_imm rfl rfl) ?_
    refine g_case (t := 12) rfl ?_
    rintro (hb2 | hb2)
    · rw [hb2]
      refine g_run rfl rfl (s_call1 (works26_c) rfl rfl) ?_
      refine g_u (s_pick_t rfl rfl rfl) ?_
      refine g_u (s_as_imm rfl rfl) ?_
      refine g_nil ?_
      refine normal_thn ?_
      refine aw_ret ?_
      exact ⟨⟨(rfl : toAV (Al.look _ _) = some _).trans (congrArg some (by rfl)), rfl⟩, trivial⟩
    · exact killT hb2 ((by exact beq_self_eq_true _))

set_option maxHeartbeats 1000000 in
theorem attrsHold_c (l : List GA) (k : ByteArray) (v : GV) (ho : ∀ a ∈ l, a.ok) (hk : k.size ≤ maxLen) (hv : v.ok) : PCall Tryd.prog Γ0 8 [(.sl 7 (l.map avA)), sv k, v.av] [bv true] := by
  refine pcall_of Tryd.func8 rfl Tryd.ntmps8 (by kernel_rfl) rfl fun w0 I0 G0 => ?_
  refine aw_seq ?_
  refine aw_region ?_
  refine g_uG (s_box_imm 1005 rfl rfl rfl rfl) rfl ?_
  refine g_u (s_as_imm rfl rfl) ?_
  refine g_nil ?_
  refine normal_thn ?_
  refine aw_seq ?_
  refine aw_seq ?_
  refine aw_region ?_
  refine g_u (s_mv_imm rfl rfl) ?_
  refine g_u (s_call1 (leftAs_c _ _ (by decide)) rfl rfl) ?_
  refine g_u (s_ltI rfl rfl rfl) ?_
  refine g_u (s_mv_imm rfl rfl) ?_
  refine g_case (t := 18) rfl ?_
  rintro (hb1 | hb1)
  · rw [hb1]
    have z : leftAs l 2000 < 0 := of_decide_eq_true hb1
    refine g_skip rfl rfl rfl ?_
    refine g_skip rfl rfl rfl ?_
    refine g_skip rfl rfl rfl ?_
    refine g_u (s_pick_t rfl rfl rfl) ?_
    refine g_nil ?_
    refine normal_thn ?_
    refine aw_cond_true rfl ?_
    refine aw_seq ?_
    refine aw_region ?_
    refine g_u (s_call1 (works26_c) rfl rfl) ?_
    refine g_u (s_as_imm rfl rfl) ?_
    refine g_nil ?_
    refine normal_thn ?_
    refine aw_ret ?_
    refine ret_thn ?_
    exact ⟨⟨(rfl : toAV (Al.look _ _) = some _).trans (congrArg some (by rfl)), rfl⟩, trivial⟩
  · rw [hb1]
    have z : ¬ leftAs l 2000 < 0 := of_decide_eq_false hb1
    have hwl := leftAs_le z
    refine g_run rfl rfl (s_load_imm rfl rfl rfl tA67 tS67 rfl rfl) ?_
    refine g_run rfl rfl (s_call1 (leftV_c _ _ (by decide)) rfl rfl) ?_
    refine g_run rfl rfl (s_ltI rfl rfl rfl) ?_
    refine g_u (s_pick_f rfl rfl rfl) ?_
    refine g_nil ?_
    refine normal_thn ?_
    refine aw_cond rfl (fun hb2 => ?_) (fun hb2 => ?_)
    · skip
      have z2 : leftV v 2000 < 0 := of_decide_eq_true hb2
      refine aw_seq ?_
      refine aw_region ?_
      refine g_u (s_call1 (works26_c) rfl rfl) ?_
      refine g_u (s_as_imm rfl rfl) ?_
      refine g_nil ?_
      refine normal_thn ?_
      refine aw_ret ?_
      refine ret_thn ?_
      exact ⟨⟨(rfl : toAV (Al.look _ _) = some _).trans (congrArg some (by rfl)), rfl⟩, trivial⟩
    · skip
      have z2 : ¬ leftV v 2000 < 0 := of_decide_eq_false hb2
      have hwv := leftV_wt z2
      have hrc := ris_canonAs l
      have hwc := wt_canonAs l
      have hoc := ok_canonAs ho
      have hlc := len_wtAs (canonAs l)
      have hrp := ris_intoA (canonAs l) (.mk k v) none hrc trivial
      have hlp := len_intoA (canonAs l) (.mk k v)
      have hgi := getA_into (canonAs l) k v none hrc
      have hgw := (getA_ok k hoc).2
      have hwp := wt_intoA (canonAs l) (.mk k v)
      have hmv : ∀ x ∈ intoA (canonAs l) (.mk k v), x.val.wt ≤ 1000000000 := fun x hx => by rcases mem_intoA hx with rfl | hx; show v.wt ≤ _; omega; have h1 := wtAs_mem hx; have h2 := x.wt_eq; omega
      have hgv : (((getA (intoA (canonAs l) (.mk k v)) k).getD zeroV)).wt ≤ 1000000000 := by rw [hgi]; show v.wt ≤ _; omega
      refine aw_skip ?_
      refine normal_thn ?_
      refine aw_seq ?_
      refine aw_region ?_
      refine g_u (s_mv_imm rfl rfl) ?_
      refine g_u (s_call1 (canonAs_c l (by omega)) rfl rfl) ?_
      refine g_u (s_as_imm rfl rfl) ?_
      refine g_nil ?_
      refine normal_thn ?_
      refine aw_seq ?_
      refine aw_region ?_
      refine g_u (s_mv_imm rfl rfl) ?_
      refine g_u (s_mv_imm rfl rfl) ?_
      refine g_u (s_call2 (get_c (canonAs l) k hrc (by omega)) rfl rfl) ?_
      refine g_u (s_mv_tup rfl rfl) ?_
      refine g_u (s_extract rfl rfl rfl rfl) ?_
      refine g_u (s_extract rfl rfl rfl rfl) ?_
      refine g_uG (s_alloc' 1008 rfl rfl rfl tZ67) rfl ?_
      refine g_u (s_store_imm rfl rfl rfl tS67 rfl rfl) ?_
      refine g_u (s_as_imm rfl rfl) ?_
      refine g_nil ?_
      refine normal_thn ?_
      refine aw_seq ?_
      refine aw_region ?_
      refine g_u (s_mv_imm rfl rfl) ?_
      refine g_u (s_mv_imm rfl rfl) ?_
      refine g_u (s_call2 (rget_c (canonAs l) k (by omega)) rfl rfl) ?_
      refine g_u (s_mv_tup rfl rfl) ?_
      refine g_u (s_extract rfl rfl rfl rfl) ?_
      refine g_u (s_extract rfl rfl rfl rfl) ?_
      refine g_uG (s_alloc' 1010 rfl rfl rfl tZ67) rfl ?_
      refine g_u (s_store_imm rfl rfl rfl tS67 rfl rfl) ?_
      refine g_u (s_as_imm rfl rfl) ?_
      refine g_nil ?_
      refine normal_thn ?_
      refine aw_seq ?_
      refine aw_seq ?_
      refine aw_region ?_
      refine g_u (s_load_agg rfl rfl rfl tA67 tS67 rfl rfl) ?_
      refine g_u (s_load_agg rfl rfl rfl tA67 tS67 rfl rfl) ?_
      refine g_u (s_call1 (rsameV_c _ (by omega) _) rfl rfl) ?_
      refine g_u (s_not rfl rfl) ?_
      refine g_u (s_mv_imm rfl rfl) ?_
      refine g_case (t := 42) rfl ?_
      rintro (hb3 | hb3)
      · exact killF hb3 ((by rw [sameV_refl]; rfl))
      · rw [hb3]
        refine g_run rfl rfl (s_mv_imm rfl rfl) ?_
        refine g_run rfl rfl (s_mv_imm rfl rfl) ?_
        refine g_run rfl rfl (s_neB rfl rfl rfl Tryd.underlying4) ?_
        refine g_u (s_pick_f rfl rfl rfl) ?_
        refine g_u (s_mv_imm rfl rfl) ?_
        refine g_case (t := 47) rfl ?_
        rintro (hb4 | hb4)
        · exact killF hb4 ((bne_self_eq_false _))
        · rw [hb4]
          refine g_run rfl rfl (s_mv_imm rfl rfl) ?_
          refine g_run rfl rfl (s_mv_imm rfl rfl) ?_
          refine g_run rfl rfl (s_call1 (textA_c (canonAs l) k hrc (by omega) hoc (by omega)) rfl rfl) ?_
          refine g_run rfl rfl (s_mv_imm rfl rfl) ?_
          refine g_run rfl rfl (s_mv_imm rfl rfl) ?_
          refine g_run rfl rfl (s_call1 (rtextA_c (canonAs l) k hoc (by omega)) rfl rfl) ?_
          refine g_run rfl rfl (s_neS rfl rfl rfl) ?_
          refine g_u (s_pick_f rfl rfl rfl) ?_
          refine g_nil ?_
          refine normal_thn ?_
          refine aw_cond rfl (fun hb5 => ?_) (fun hb5 => ?_)
          · exact killF hb5 ((by rw [beq_self_eq_true]; rfl))
          · skip
            refine aw_skip ?_
            refine normal_thn ?_
            refine aw_seq ?_
            refine aw_region ?_
            refine g_u (s_mv_imm rfl rfl) ?_
            refine g_u (s_mv_imm rfl rfl) ?_
            refine g_u (s_load_imm rfl rfl rfl tA67 tS67 rfl rfl) ?_
            refine g_u (s_call1 (putA_c (canonAs l) k v hrc (by omega)) rfl rfl) ?_
            refine g_u (s_as_imm rfl rfl) ?_
            refine g_nil ?_
            refine normal_thn ?_
            refine aw_seq ?_
            refine aw_region ?_
            refine g_u (s_mv_imm rfl rfl) ?_
            refine g_u (s_mv_imm rfl rfl) ?_
            refine g_u (s_call2 (get_c (intoA (canonAs l) (.mk k v)) k hrp (by omega)) rfl rfl) ?_
            refine g_u (s_mv_tup rfl rfl) ?_
            refine g_u (s_extract rfl rfl rfl rfl) ?_
            refine g_u (s_extract rfl rfl rfl rfl) ?_
            refine g_uG (s_alloc' 1013 rfl rfl rfl tZ67) rfl ?_
            refine g_u (s_store_imm rfl rfl rfl tS67 rfl rfl) ?_
            refine g_u (s_as_imm rfl rfl) ?_
            refine g_nil ?_
            refine normal_thn ?_
            refine aw_seq ?_
            refine aw_region ?_
            refine g_u (s_mv_imm rfl rfl) ?_
            refine g_u (s_mv_imm rfl rfl) ?_
            refine g_u (s_mv_imm rfl rfl) ?_
            refine g_u (s_load_imm rfl rfl rfl tA67 tS67 rfl rfl) ?_
            refine g_u (s_build rfl tU76 us76 pl76 rfl rfl rfl rfl) ?_
            refine g_u (s_call1 (into_c (canonAs l) (.mk k v) (by omega)) rfl rfl) ?_
            refine g_u (s_call1 ((by first | exact rsameAs_c _ _ (by omega) | exact rsameAs_c2 _ _ (by omega) hmv)) rfl rfl) ?_
            refine g_u (s_mv_imm rfl rfl) ?_
            refine g_case (t := 73) rfl ?_
            rintro (hb6 | hb6)
            · rw [hb6]
              refine g_run rfl rfl (s_mv_imm rfl rfl) ?_
              refine g_u (s_pick_t rfl rfl rfl) ?_
              refine g_u (s_mv_imm rfl rfl) ?_
              refine g_case (t := 76) rfl ?_
              rintro (hb7 | hb7)
              · rw [hb7]
                refine g_run rfl rfl (s_load_agg rfl rfl rfl tA67 tS67 rfl rfl) ?_
                refine g_run rfl rfl (s_load_imm rfl rfl rfl tA67 tS67 rfl rfl) ?_
                refine g_run rfl rfl (s_call1 (rsameV_c _ hgv _) rfl rfl) ?_
                refine g_u (s_pick_t rfl rfl rfl) ?_
                refine g_u (s_mv_imm rfl rfl) ?_
                refine g_case (t := 81) rfl ?_
                rintro (hb8 | hb8)
                · rw [hb8]
                  refine g_run rfl rfl (s_mv_imm rfl rfl) ?_
                  refine g_run rfl rfl (s_mv_imm rfl rfl) ?_
                  refine g_run rfl rfl (s_call1 (canonAs_c l (by omega)) rfl rfl) ?_
                  refine g_run rfl rfl (s_call1 ((by first | exact rsameAs_c _ _ (by omega) | exact rsameAs_c2 _ _ (by omega) hmv)) rfl rfl) ?_
                  refine g_u (s_pick_t rfl rfl rfl) ?_
                  refine g_u (s_mv_imm rfl rfl) ?_
                  refine g_case (t := 87) rfl ?_
                  rintro (hb9 | hb9)
                  · rw [hb9]
                    refine g_run rfl rfl (s_call1 (works26_c) rfl rfl) ?_
                    refine g_u (s_pick_t rfl rfl rfl) ?_
                    refine g_u (s_as_imm rfl rfl) ?_
                    refine g_nil ?_
                    refine normal_thn ?_
                    refine aw_ret ?_
                    exact ⟨⟨(rfl : toAV (Al.look _ _) = some _).trans (congrArg some (by rfl)), rfl⟩, trivial⟩
                  · exact killT hb9 ((by first | exact sameAs_refl _ | exact sameV_refl _ | (rw [hgi]; rfl) | (rw [hgi]; exact sameV_refl _)))
                · exact killT hb8 ((by first | exact sameAs_refl _ | exact sameV_refl _ | (rw [hgi]; rfl) | (rw [hgi]; exact sameV_refl _)))
              · exact killT hb7 ((by first | exact sameAs_refl _ | exact sameV_refl _ | (rw [hgi]; rfl) | (rw [hgi]; exact sameV_refl _)))
            · exact killT hb6 ((by first | exact sameAs_refl _ | exact sameV_refl _ | (rw [hgi]; rfl) | (rw [hgi]; exact sameV_refl _)))

set_option maxHeartbeats 1000000 in
theorem attrsPick_c (l : List GA) (ks : List ByteArray) (ns : List Int) (ho : ∀ a ∈ l, a.ok) : PCall Tryd.prog Γ0 9 [(.sl 7 (l.map avA)), (.sl 1 (ks.map fun x => sv x)), (.sl 1 (ns.map fun x => cv x))] [bv true] := by
  refine pcall_of Tryd.func9 rfl Tryd.ntmps9 (by kernel_rfl) rfl fun w0 I0 G0 => ?_
  refine aw_seq ?_
  refine aw_region ?_
  refine g_u (s_as_imm rfl rfl) ?_
  refine g_nil ?_
  refine normal_thn ?_
  refine aw_seq ?_
  refine aw_seq ?_
  refine aw_region ?_
  refine g_u (s_mv_imm rfl rfl) ?_
  refine g_u (s_call1 (leftAs_c _ _ (by decide)) rfl rfl) ?_
  refine g_u (s_ltI rfl rfl rfl) ?_
  refine g_u (s_mv_imm rfl rfl) ?_
  refine g_case (t := 11) rfl ?_
  rintro (hb1 | hb1)
  · rw [hb1]
    have z : leftAs l 2000 < 0 := of_decide_eq_true hb1
    refine g_skip rfl rfl rfl ?_
    refine g_skip rfl rfl rfl ?_
    refine g_skip rfl rfl rfl ?_
    refine g_u (s_pick_t rfl rfl rfl) ?_
    refine g_u (s_mv_imm rfl rfl) ?_
    refine g_skip rfl rfl rfl ?_
    refine g_skip rfl rfl rfl ?_
    refine g_skip rfl rfl rfl ?_
    refine g_u (s_pick_t rfl rfl rfl) ?_
    refine g_nil ?_
    refine normal_thn ?_
    refine aw_cond_true rfl ?_
    refine aw_seq ?_
    refine aw_region ?_
    refine g_u (s_call1 (works26_c) rfl rfl) ?_
    refine g_u (s_as_imm rfl rfl) ?_
    refine g_nil ?_
    refine normal_thn ?_
    refine aw_ret ?_
    refine ret_thn ?_
    exact ⟨⟨(rfl : toAV (Al.look _ _) = some _).trans (congrArg some (by rfl)), rfl⟩, trivial⟩
  · rw [hb1]
    have z : ¬ leftAs l 2000 < 0 := of_decide_eq_false hb1
    have hwl := leftAs_le z
    refine g_run rfl rfl (s_mv_imm rfl rfl) ?_
    refine g_run rfl rfl (s_lenL rfl rfl Tryd.underlying78) ?_
    refine g_run rfl rfl (s_gtI rfl rfl rfl) ?_
    refine g_u (s_pick_f rfl rfl rfl) ?_
    refine g_u (s_mv_imm rfl rfl) ?_
    refine g_case (t := 16) rfl ?_
    rintro (hb2 | hb2)
    · rw [hb2]
      have z2 := of_decide_eq_true hb2
      refine g_skip rfl rfl rfl ?_
      refine g_skip rfl rfl rfl ?_
      refine g_skip rfl rfl rfl ?_
      refine g_u (s_pick_t rfl rfl rfl) ?_
      refine g_nil ?_
      refine normal_thn ?_
      refine aw_cond_true rfl ?_
      refine aw_seq ?_
      refine aw_region ?_
      refine g_u (s_call1 (works26_c) rfl rfl) ?_
      refine g_u (s_as_imm rfl rfl) ?_
      refine g_nil ?_
      refine normal_thn ?_
      refine aw_ret ?_
      refine ret_thn ?_
      exact ⟨⟨(rfl : toAV (Al.look _ _) = some _).trans (congrArg some (by rfl)), rfl⟩, trivial⟩
    · rw [hb2]
      have z2 : ¬ (ks.length : Int) > 20 := by have e := of_decide_eq_false hb2; simp only [List.length_map] at e; omega
      refine g_run rfl rfl (s_mv_imm rfl rfl) ?_
      refine g_run rfl rfl (s_lenL rfl rfl Tryd.underlying79) ?_
      refine g_run rfl rfl (s_gtI rfl rfl rfl) ?_
      refine g_u (s_pick_f rfl rfl rfl) ?_
      refine g_nil ?_
      refine normal_thn ?_
      refine aw_cond rfl (fun hb3 => ?_) (fun hb3 => ?_)
      · skip
        have z3 := of_decide_eq_true hb3
        refine aw_seq ?_
        refine aw_region ?_
        refine g_u (s_call1 (works26_c) rfl rfl) ?_
        refine g_u (s_as_imm rfl rfl) ?_
        refine g_nil ?_
        refine normal_thn ?_
        refine aw_ret ?_
        refine ret_thn ?_
        exact ⟨⟨(rfl : toAV (Al.look _ _) = some _).trans (congrArg some (by rfl)), rfl⟩, trivial⟩
      · skip
        have z3 : ¬ (ns.length : Int) > 20 := by have e := of_decide_eq_false hb3; simp only [List.length_map] at e; omega
        have hl := len_wtAs l
        have hw : wtAs l ≤ 10000000 := by omega
        have hwp := plainAs_wt ns l
        have hop : ∀ a ∈ l.map (plainA ns), a.ok := fun a h => by obtain ⟨x, hx, rfl⟩ := List.mem_map.1 h; exact plainA_ok (ho x hx) (by have := wtAs_mem hx; omega)
        have hwd := dropA_wt ks l
        refine aw_skip ?_
        refine normal_thn ?_
        refine aw_seq ?_
        refine aw_region ?_
        refine g_u (s_mv_imm rfl rfl) ?_
        refine g_u (s_mv_imm rfl rfl) ?_
        refine g_u (s_call1 (plainAs_c l ns ho hw (by omega)) rfl rfl) ?_
        refine g_u (s_as_imm rfl rfl) ?_
        refine g_nil ?_
        refine normal_thn ?_
        refine aw_seq ?_
        refine aw_region ?_
        refine g_u (s_mv_imm rfl rfl) ?_
        refine g_u (s_mv_imm rfl rfl) ?_
        refine g_u (s_call1 (drop_c l ks (by omega) (by omega)) rfl rfl) ?_
        refine g_u (s_mv_imm rfl rfl) ?_
        refine g_u (s_mv_imm rfl rfl) ?_
        refine g_u (s_call1 (rdrop_c l ks (by omega) (by omega)) rfl rfl) ?_
        refine g_u (s_call1 (rsameAs_c _ _ (by omega)) rfl rfl) ?_
        refine g_u (s_mv_imm rfl rfl) ?_
        refine g_case (t := 32) rfl ?_
        rintro (hb4 | hb4)
        · rw [hb4]
          refine g_run rfl rfl (s_mv_imm rfl rfl) ?_
          refine g_run rfl rfl (s_mv_imm rfl rfl) ?_
          refine g_run rfl rfl (s_mv_imm rfl rfl) ?_
          refine g_run rfl rfl (s_call1 (rplainAs_c l ns ho hw (by omega)) rfl rfl) ?_
          refine g_run rfl rfl (s_call1 (rsameAs_c _ _ (by omega)) rfl rfl) ?_
          refine g_u (s_pick_t rfl rfl rfl) ?_
          refine g_u (s_mv_imm rfl rfl) ?_
          refine g_case (t := 39) rfl ?_
          rintro (hb5 | hb5)
          · rw [hb5]
            refine g_run rfl rfl (s_mv_imm rfl rfl) ?_
            refine g_run rfl rfl (s_mv_imm rfl rfl) ?_
            refine g_run rfl rfl (s_call1 (plainAs_c (l.map (plainA ns)) ns hop (by omega) (by omega)) rfl rfl) ?_
            refine g_run rfl rfl (s_mv_imm rfl rfl) ?_
            refine g_run rfl rfl (s_call1 (rsameAs_c _ _ (by rw [show (l.map (plainA ns)).map (plainA ns) = l.map (plainA ns) from by rw [List.map_map]; exact List.map_congr_left fun a _ => plainA_idem ns a]; omega)) rfl rfl) ?_
            refine g_u (s_pick_t rfl rfl rfl) ?_
            refine g_u (s_mv_imm rfl rfl) ?_
            refine g_case (t := 46) rfl ?_
            rintro (hb6 | hb6)
            · rw [hb6]
              refine g_run rfl rfl (s_call1 (works26_c) rfl rfl) ?_
              refine g_u (s_pick_t rfl rfl rfl) ?_
              refine g_u (s_as_imm rfl rfl) ?_
              refine g_nil ?_
              refine normal_thn ?_
              refine aw_ret ?_
              exact ⟨⟨(rfl : toAV (Al.look _ _) = some _).trans (congrArg some (by rfl)), rfl⟩, trivial⟩
            · exact killT hb6 ((by rw [show (l.map (plainA ns)).map (plainA ns) = l.map (plainA ns) from by rw [List.map_map]; exact List.map_congr_left fun a _ => plainA_idem ns a]; exact sameAs_refl _))
          · exact killT hb5 ((by first | exact sameAs_refl _ | exact sameV_refl _ | (rw [hgi]; rfl) | (rw [hgi]; exact sameV_refl _)))
        · exact killT hb4 ((by first | exact sameAs_refl _ | exact sameV_refl _ | (rw [hgi]; rfl) | (rw [hgi]; exact sameV_refl _)))

end Go.Proofs

