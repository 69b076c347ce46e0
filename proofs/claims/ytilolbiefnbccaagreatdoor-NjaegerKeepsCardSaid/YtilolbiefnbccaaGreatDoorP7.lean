/- Texts that the proofs of this claim share, part 7: the abstract logic, plain Lean on values and batches, and walks. No condition but those typed in each lemma. -/
import Derived.Test.YtilolbiefnbccaaGreatDoorP6
set_option linter.unusedSimpArgs false
set_option linter.unusedVariables false
namespace Go.Proofs
open Go Go.Al
set_option maxRecDepth 10000
theorem eq65 (a b : GCore) : eqV Tryz.prog 100 65 a.av b.av = some ((a.trace == b.trace) && ((a.id == b.id) && ((a.parent == b.parent) && ((a.name.toList == b.name.toList) && ((a.begun == b.begun) && ((a.lasts == b.lasts) && true)))))) := by kernel_rfl
set_option maxHeartbeats 4000000 in
theorem njaegerKeeps_c (b : List GRes) (ho : okB b) : PCall Tryz.prog Γ0 5 [batchAv b] [bv true] := by
  refine pcall_of Tryz.func5 rfl Tryz.ntmps5 (by kernel_rfl) rfl fun w0 I0 G0 => ?_
  refine aw_seq ?_
  refine aw_region ?_
  refine g_uG (s_box_imm 1001 rfl rfl rfl rfl) rfl ?_
  refine g_u (s_as_imm rfl rfl) ?_
  refine g_nil ?_
  refine normal_thn ?_
  refine aw_seq ?_
  refine aw_seq ?_
  refine aw_region ?_
  refine g_u (s_load_imm rfl rfl rfl tA24 tS24 rfl rfl) ?_
  refine g_u (s_call1 (leftR_c _ _ (by first | decide | omega)) rfl rfl) ?_
  refine g_u (s_ltI rfl rfl rfl) ?_
  refine g_u (s_mv_imm rfl rfl) ?_
  refine g_case (t := 10) rfl ?_
  rintro (hb1 | hb1)
  · rw [hb1]
    have z1 : leftR b 6000 < 0 := of_decide_eq_true hb1
    refine g_skip rfl rfl rfl ?_
    refine g_skip rfl rfl rfl ?_
    refine g_skip rfl rfl rfl ?_
    refine g_skip rfl rfl rfl ?_
    refine g_u (s_pick_t rfl rfl rfl) ?_
    refine g_nil ?_
    refine normal_thn ?_
    refine aw_cond_true rfl ?_
    refine aw_seq ?_
    refine aw_region ?_
    refine g_u (s_call1 (works32_c) rfl rfl) ?_
    refine g_u (s_as_imm rfl rfl) ?_
    refine g_nil ?_
    refine normal_thn ?_
    refine aw_ret ?_
    refine ret_thn ?_
    exact ⟨⟨(rfl : toAV (Al.look _ _) = some _).trans (congrArg some (by rfl)), rfl⟩, trivial⟩
  · rw [hb1]
    have z1 : ¬ leftR b 6000 < 0 := of_decide_eq_false hb1
    have hwb := leftR_le z1
    have hfb : fitB b := fitB_small (by omega)
    refine g_run rfl rfl (s_load_imm rfl rfl rfl tA24 tS24 rfl rfl) ?_
    refine g_run rfl rfl (s_call1 (rchk_c _ (by assumption) (by assumption)) rfl rfl) ?_
    refine g_run rfl rfl (s_field rfl rfl rfl fa33_0 rfl rfl) ?_
    refine g_run rfl rfl (s_neI rfl rfl rfl) ?_
    refine g_u (s_pick_f rfl rfl rfl) ?_
    refine g_nil ?_
    refine normal_thn ?_
    refine aw_cond rfl (fun hb2 => ?_) (fun hb2 => ?_)
    · skip
      have q1 : (chkF b).1 ≠ 0 := bne_iff_ne.1 hb2
      refine aw_seq ?_
      refine aw_region ?_
      refine g_u (s_call1 (works32_c) rfl rfl) ?_
      refine g_u (s_as_imm rfl rfl) ?_
      refine g_nil ?_
      refine normal_thn ?_
      refine aw_ret ?_
      refine ret_thn ?_
      exact ⟨⟨(rfl : toAV (Al.look _ _) = some _).trans (congrArg some (by rfl)), rfl⟩, trivial⟩
    · skip
      have q1 : (chkF b).1 = 0 := bne_eq_false_iff_eq.1 hb2
      have hrb := chk_ris q1
      have hfj := nj_fit q1 (by omega)
      have hoj := njB_ok ho (by omega)
      have hnw := njB_wt b
      have hcl : (coresB b).length ≤ 9000000 := by have h1 := plR_len 0 b; rw [plR_all] at h1; have h2 : wtB b = sumBy GRes.wt b := rfl; show (List.map coreS (allS b)).length ≤ _; rw [List.length_map]; omega
      refine aw_skip ?_
      refine normal_thn ?_
      refine aw_seq ?_
      refine aw_region ?_
      refine g_u (s_load_imm rfl rfl rfl tA24 tS24 rfl rfl) ?_
      refine g_u (s_call1 (njB_c b ho (by omega) hrb) rfl rfl) ?_
      refine g_uG (s_alloc' 1003 rfl rfl rfl tZ24) rfl ?_
      refine g_u (s_store_imm rfl rfl rfl tS24 rfl rfl) ?_
      refine g_nil ?_
      refine normal_thn ?_
      refine aw_seq ?_
      refine aw_seq ?_
      refine aw_draw mixed ?_
      refine g_u (s_load_agg rfl rfl rfl tA24 tS24 rfl rfl) ?_
      refine g_u (s_call1 (rchk_c _ (by assumption) (by assumption)) rfl rfl) ?_
      refine g_u (s_field rfl rfl rfl fa33_0 rfl rfl) ?_
      refine g_u (s_neI rfl rfl rfl) ?_
      refine g_u (s_mv_imm rfl rfl) ?_
      refine g_case (t := 23) rfl ?_
      rintro (hb3 | hb3)
      · exact killF hb3 ((by exact bne_eq_false_iff_eq.2 (chk_nj ho q1)))
      · rw [hb3]
        refine g_run rfl rfl (s_load_agg rfl rfl rfl tA24 tS24 rfl rfl) ?_
        refine g_run rfl rfl (s_call1 (rbatchWX_c _ (by assumption) (by assumption)) rfl rfl) ?_
        refine g_run rfl rfl (s_load_imm rfl rfl rfl tA24 tS24 rfl rfl) ?_
        refine g_run rfl rfl (s_call1 (rbatchWX_c _ (by assumption) (by assumption)) rfl rfl) ?_
        refine g_run rfl rfl (s_gtI rfl rfl rfl) ?_
        refine g_u (s_pick_f rfl rfl rfl) ?_
        refine g_nil ⟨by kernel_rfl, ?_⟩
        refine normal_thn ?_
        refine aw_cond rfl (fun hb4 => ?_) (fun hb4 => ?_)
        · exact killF hb4 ((by rw [decide_eq_false_iff_not]; have := batchW_nj hrb; omega))
        · skip
          refine aw_skip ?_
          refine normal_thn ?_
          refine aw_seq ?_
          refine aw_draw mixed ?_
          refine g_u (s_load_imm rfl rfl rfl tA24 tS24 rfl rfl) ?_
          refine g_u (s_call1 (rcores_c _ (by omega)) rfl rfl) ?_
          refine g_u (s_load_agg rfl rfl rfl tA24 tS24 rfl rfl) ?_
          refine g_u (s_call1 (rcores_c _ (by omega)) rfl rfl) ?_
          refine g_u (s_as_imm rfl rfl) ?_
          refine g_u (s_as_imm rfl rfl) ?_
          refine g_nil ⟨by kernel_rfl, ?_⟩
          refine normal_thn ?_
          refine aw_seq ?_
          refine aw_seq ?_
          rw [cores_nj ho]
          refine aw_region ?_
          refine g_u (s_mv_imm rfl rfl) ?_
          refine g_u (s_lenL rfl rfl Tryz.underlying62) ?_
          refine g_u (s_mv_imm rfl rfl) ?_
          refine g_u (s_lenL rfl rfl Tryz.underlying62) ?_
          refine g_u (s_neI rfl rfl rfl) ?_
          refine g_nil ?_
          refine normal_thn ?_
          refine aw_cond rfl (fun hb5 => ?_) (fun hb5 => ?_)
          · exact killF hb5 ((by exact bne_self_eq_false _))
          · skip
            refine aw_skip ?_
            refine normal_thn ?_
            refine aw_seq ?_
            refine aw_seq ?_
            refine aw_region ?_
            refine g_u (s_as_imm rfl rfl) ?_
            refine g_nil ?_
            refine normal_thn ?_
            refine aw_block ?_
            refine aw_loop' (fun i : Nat => [(4, .imm (.sl 35 ((coresB b).map GCore.av))), (5, .imm (.sl 35 ((coresB b).map GCore.av))), (6, .imm (iv (i : Int)))]) (fun i => i ≤ (coresB b).length) (fun i => (coresB b).length - i) (0) ?_ ⟨rfl, rfl, rfl, trivial⟩ ?_
            · exact Nat.zero_le _
            · rintro i h1; have h1 : i ≤ (coresB b).length := h1
              refine aw_seq ?_
              refine aw_seq ?_
              refine aw_region ?_
              refine g_u (s_mv_imm rfl rfl) ?_
              refine g_u (s_mv_imm rfl rfl) ?_
              refine g_u (s_lenL rfl rfl Tryz.underlying62) ?_
              refine g_u (s_ltI rfl rfl rfl) ?_
              refine g_nil ?_
              refine normal_thn ?_
              refine aw_cond rfl (fun hb6 => ?_) (fun hb6 => ?_)
              · skip
                have hi : i < (coresB b).length := by have := of_decide_eq_true hb6; (try simp only [List.length_map] at this); omega
                refine aw_skip ?_
                refine normal_thn ?_
                refine aw_seq ?_
                refine aw_block ?_
                refine aw_seq ?_
                refine aw_draw mixed ?_
                refine g_u (s_mv_imm rfl rfl) ?_
                refine g_u (s_mv_imm rfl rfl) ?_
                refine g_u (s_indexAddr rfl rfl rfl Tryz.underlying62 tS65 (by omega) (ixK hi)) ?_
                refine g_u (s_load_cp rfl rfl tA65 tS65 rfl rfl) ?_
                refine g_u (s_mv_imm rfl rfl) ?_
                refine g_u (s_mv_imm rfl rfl) ?_
                refine g_u (s_indexAddr rfl rfl rfl Tryz.underlying62 tS65 (by omega) (ixK hi)) ?_
                refine g_u (s_load_cp rfl rfl tA65 tS65 rfl rfl) ?_
                refine g_u (s_neA rfl rfl rfl eg65 rfl rfl (eq65 _ _)) ?_
                refine g_nil ⟨by kernel_rfl, ?_⟩
                refine normal_thn ?_
                refine aw_cond rfl (fun hb7 => ?_) (fun hb7 => ?_)
                · exact killF hb7 ((by simp))
                · skip
                  refine aw_skip ?_
                  refine normal_blk ?_
                  refine normal_thn ?_
                  refine aw_region ?_
                  refine g_u (s_mv_imm rfl rfl) ?_
                  refine g_u (s_add rfl rfl rfl) ?_
                  refine g_u (s_as_imm rfl rfl) ?_
                  refine g_nil ?_
                  refine normal_thn ?_
                  refine ⟨i + 1, hi, ⟨rfl, rfl, look_int rfl (by rw [wrap64 (by omega) (by omega)]; rfl), trivial⟩, by (try dsimp only); omega⟩
              · skip
                have hin : i = (coresB b).length := by have := of_decide_eq_false hb6; (try simp only [List.length_map] at this); omega
                refine aw_exit ?_
                refine exit_thn ?_
                refine exit_thn ?_
                refine exit_blk ?_
                refine normal_thn ?_
                refine aw_seq ?_
                refine aw_region ?_
                refine g_u (s_call1 (works32_c) rfl rfl) ?_
                refine g_u (s_as_imm rfl rfl) ?_
                refine g_nil ?_
                refine normal_thn ?_
                refine aw_ret ?_
                exact ⟨⟨(rfl : toAV (Al.look _ _) = some _).trans (congrArg some (by rfl)), rfl⟩, trivial⟩

end Go.Proofs

