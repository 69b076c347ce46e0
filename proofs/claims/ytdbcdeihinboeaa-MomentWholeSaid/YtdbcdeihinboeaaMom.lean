/- The walks through package moment, its reference and its laws: each function returns what its Lean function says, and leaves the old memory alone. -/
import Derived.Test.YtdbcdeihinboeaaMomLaw
import Derived.Test.YtdbcdeihinboeaaTy
set_option linter.unusedSimpArgs false
set_option linter.unusedVariables false
namespace Go.Proofs
open Go Go.Al
set_option maxRecDepth 10000
set_option maxHeartbeats 400000 in
theorem check_c (r : Rg) : PCall Try.prog 17 [r.av] [iv (checkM r)] := by
  refine pcall_of Try.func17 rfl Try.ntmps17 (by kernel_rfl) rfl fun w0 I0 => ?_
  refine aw_seq ?_
  refine aw_region ?_
  refine g_uG (s_box_imm 1001 rfl rfl rfl) rfl ?_
  refine g_u (s_as_imm rfl rfl) ?_
  refine g_nil ?_
  refine normal_thn ?_
  refine aw_seq ?_
  refine aw_seq ?_
  refine aw_region ?_
  refine g_u (s_fieldAddr rfl rfl fa24_1 rfl) ?_
  refine g_u (s_load_imm rfl rfl rfl tA22 tS22 rfl rfl) ?_
  refine g_u (s_gtI rfl rfl rfl) ?_
  refine g_u (s_mv_imm rfl rfl) ?_
  refine g_case (t := 6) rfl ?_
  rintro (hb1 | hb1)
  · rw [hb1]
    refine g_skip rfl rfl rfl ?_
    refine g_skip rfl rfl rfl ?_
    refine g_skip rfl rfl rfl ?_
    refine g_skip rfl rfl rfl ?_
    refine g_skip rfl rfl rfl ?_
    refine g_u (s_pick_t rfl rfl rfl) ?_
    refine g_nil ?_
    refine normal_thn ?_
    refine aw_cond_true rfl ?_
    refine aw_seq ?_
    refine aw_region ?_
    refine g_u (s_as_imm rfl rfl) ?_
    refine g_nil ?_
    refine normal_thn ?_
    refine aw_ret ?_
    refine ret_thn ?_
    exact ⟨⟨(rfl : toAV (Al.look _ _) = some _).trans (congrArg some (by (simp only [decide_eq_true_eq, decide_eq_false_iff_not, bne_iff_ne, ne_eq, beq_iff_eq, bne_eq_false_iff_eq, beq_eq_false_iff_ne] at *; simp only [iv, checkM]; first | rw [if_pos (by omega)] | rw [if_neg (by omega)]))), rfl⟩, trivial⟩
  · rw [hb1]
    refine g_run rfl rfl (s_fieldAddr rfl rfl fa24_0 rfl) ?_
    refine g_run rfl rfl (s_load_imm rfl rfl rfl tA22 tS22 rfl rfl) ?_
    refine g_run rfl rfl (s_fieldAddr rfl rfl fa24_1 rfl) ?_
    refine g_run rfl rfl (s_load_imm rfl rfl rfl tA22 tS22 rfl rfl) ?_
    refine g_run rfl rfl (s_gtI rfl rfl rfl) ?_
    refine g_u (s_pick_f rfl rfl rfl) ?_
    refine g_nil ?_
    refine normal_thn ?_
    refine aw_cond rfl (fun hb2 => ?_) (fun hb2 => ?_)
    · skip
      refine aw_seq ?_
      refine aw_region ?_
      refine g_u (s_as_imm rfl rfl) ?_
      refine g_nil ?_
      refine normal_thn ?_
      refine aw_ret ?_
      refine ret_thn ?_
      exact ⟨⟨(rfl : toAV (Al.look _ _) = some _).trans (congrArg some (by (simp only [decide_eq_true_eq, decide_eq_false_iff_not, bne_iff_ne, ne_eq, beq_iff_eq, bne_eq_false_iff_eq, beq_eq_false_iff_ne] at *; simp only [iv, checkM]; first | rw [if_pos (by omega)] | rw [if_neg (by omega)]))), rfl⟩, trivial⟩
    · skip
      refine aw_skip ?_
      refine normal_thn ?_
      refine aw_seq ?_
      refine aw_region ?_
      refine g_u (s_as_imm rfl rfl) ?_
      refine g_nil ?_
      refine normal_thn ?_
      refine aw_ret ?_
      exact ⟨⟨(rfl : toAV (Al.look _ _) = some _).trans (congrArg some (by (simp only [decide_eq_true_eq, decide_eq_false_iff_not, bne_iff_ne, ne_eq, beq_iff_eq, bne_eq_false_iff_eq, beq_eq_false_iff_ne] at *; simp only [iv, checkM]; first | rw [if_pos (by omega)] | rw [if_neg (by omega)]))), rfl⟩, trivial⟩

set_option maxHeartbeats 400000 in
theorem begun_c (r : Rg) : PCall Try.prog 81 [r.av] [uv (begunM r)] := by
  refine pcall_of Try.func81 rfl Try.ntmps81 (by kernel_rfl) rfl fun w0 I0 => ?_
  refine aw_seq ?_
  refine aw_region ?_
  refine g_uG (s_box_imm 1001 rfl rfl rfl) rfl ?_
  refine g_u (s_as_imm rfl rfl) ?_
  refine g_nil ?_
  refine normal_thn ?_
  refine aw_seq ?_
  refine aw_region ?_
  refine g_u (s_fieldAddr rfl rfl fa24_0 rfl) ?_
  refine g_u (s_load_imm rfl rfl rfl tA22 tS22 rfl rfl) ?_
  refine g_u (s_quo rfl rfl rfl (by first | decide | omega)) ?_
  refine g_u (s_as_imm rfl rfl) ?_
  refine g_nil ?_
  refine normal_thn ?_
  refine aw_ret ?_
  exact ⟨⟨(rfl : toAV (Al.look _ _) = some _).trans (congrArg some (by rfl)), rfl⟩, trivial⟩

set_option maxHeartbeats 400000 in
theorem lasts_c (r : Rg) : PCall Try.prog 82 [r.av] [uv (lastsM r)] := by
  refine pcall_of Try.func82 rfl Try.ntmps82 (by kernel_rfl) rfl fun w0 I0 => ?_
  refine aw_seq ?_
  refine aw_region ?_
  refine g_uG (s_box_imm 1001 rfl rfl rfl) rfl ?_
  refine g_u (s_as_imm rfl rfl) ?_
  refine g_nil ?_
  refine normal_thn ?_
  refine aw_seq ?_
  refine aw_region ?_
  refine g_u (s_fieldAddr rfl rfl fa24_1 rfl) ?_
  refine g_u (s_load_imm rfl rfl rfl tA22 tS22 rfl rfl) ?_
  refine g_u (s_fieldAddr rfl rfl fa24_0 rfl) ?_
  refine g_u (s_load_imm rfl rfl rfl tA22 tS22 rfl rfl) ?_
  refine g_u (s_sub rfl rfl rfl) ?_
  refine g_u (s_quo rfl rfl rfl (by first | decide | omega)) ?_
  refine g_u (s_as_imm rfl rfl) ?_
  refine g_nil ?_
  refine normal_thn ?_
  refine aw_ret ?_
  exact ⟨⟨(rfl : toAV (Al.look _ _) = some _).trans (congrArg some (by rfl)), rfl⟩, trivial⟩

set_option maxHeartbeats 400000 in
theorem micros_c (r : Rg) (f : Nat) (m : Int) (hf : PCall Try.prog f [r.av] [uv m]) : PCall Try.prog 80 [r.av, .fn (.func f) [] []] [iv (microsM m r)] := by
  refine pcall_of Try.func80 rfl Try.ntmps80 (by kernel_rfl) rfl fun w0 I0 => ?_
  refine aw_seq ?_
  refine aw_region ?_
  refine g_uG (s_box_imm 1002 rfl rfl rfl) rfl ?_
  refine g_u (s_as_imm rfl rfl) ?_
  refine g_nil ?_
  refine normal_thn ?_
  refine aw_seq ?_
  refine aw_seq ?_
  refine aw_region ?_
  refine g_u (s_load_imm rfl rfl rfl tA24 tS24 rfl rfl) ?_
  refine g_u (s_call1 (check_c ⟨_, _⟩) rfl rfl) ?_
  refine g_u (s_neI rfl rfl rfl) ?_
  refine g_nil ?_
  refine normal_thn ?_
  refine aw_cond rfl (fun hb1 => ?_) (fun hb1 => ?_)
  · skip
    refine aw_seq ?_
    refine aw_region ?_
    refine g_u (s_as_imm rfl rfl) ?_
    refine g_nil ?_
    refine normal_thn ?_
    refine aw_ret ?_
    refine ret_thn ?_
    exact ⟨⟨(rfl : toAV (Al.look _ _) = some _).trans (congrArg some (by (simp only [decide_eq_true_eq, decide_eq_false_iff_not, bne_iff_ne, ne_eq, beq_iff_eq, bne_eq_false_iff_eq, beq_eq_false_iff_ne] at *; simp only [iv, microsM]; first | rw [if_pos (by omega)] | rw [if_neg (by omega)]))), rfl⟩, trivial⟩
  · skip
    refine aw_skip ?_
    refine normal_thn ?_
    refine aw_seq ?_
    refine aw_region ?_
    refine g_u (s_mv_imm rfl rfl) ?_
    refine g_u (s_load_imm rfl rfl rfl tA24 tS24 rfl rfl) ?_
    refine g_u (s_callv1 (hf) rfl rfl rfl) ?_
    refine g_u (s_cvII rfl rfl Try.underlying22 Try.underlying3) ?_
    refine g_u (s_as_imm rfl rfl) ?_
    refine g_nil ?_
    refine normal_thn ?_
    refine aw_ret ?_
    exact ⟨⟨(rfl : toAV (Al.look _ _) = some _).trans (congrArg some (by (simp only [decide_eq_true_eq, decide_eq_false_iff_not, bne_iff_ne, ne_eq, beq_iff_eq, bne_eq_false_iff_eq, beq_eq_false_iff_ne] at *; simp only [iv, microsM]; first | rw [if_pos (by omega)] | rw [if_neg (by omega)]))), rfl⟩, trivial⟩

set_option maxHeartbeats 400000 in
theorem Begun_c (r : Rg) : PCall Try.prog 19 [r.av] [iv (BegunM r)] := by
  refine pcall_of Try.func19 rfl Try.ntmps19 (by kernel_rfl) rfl fun w0 I0 => ?_
  refine aw_seq ?_
  refine aw_region ?_
  refine g_uG (s_box_imm 1001 rfl rfl rfl) rfl ?_
  refine g_u (s_as_imm rfl rfl) ?_
  refine g_nil ?_
  refine normal_thn ?_
  refine aw_seq ?_
  refine aw_region ?_
  refine g_u (s_load_imm rfl rfl rfl tA24 tS24 rfl rfl) ?_
  refine g_u (s_call1 (micros_c _ _ _ (begun_c _)) rfl rfl) ?_
  refine g_u (s_as_imm rfl rfl) ?_
  refine g_nil ?_
  refine normal_thn ?_
  refine aw_ret ?_
  exact ⟨⟨(rfl : toAV (Al.look _ _) = some _).trans (congrArg some (by rfl)), rfl⟩, trivial⟩

set_option maxHeartbeats 400000 in
theorem Lasts_c (r : Rg) : PCall Try.prog 21 [r.av] [iv (LastsM r)] := by
  refine pcall_of Try.func21 rfl Try.ntmps21 (by kernel_rfl) rfl fun w0 I0 => ?_
  refine aw_seq ?_
  refine aw_region ?_
  refine g_uG (s_box_imm 1001 rfl rfl rfl) rfl ?_
  refine g_u (s_as_imm rfl rfl) ?_
  refine g_nil ?_
  refine normal_thn ?_
  refine aw_seq ?_
  refine aw_region ?_
  refine g_u (s_load_imm rfl rfl rfl tA24 tS24 rfl rfl) ?_
  refine g_u (s_call1 (micros_c _ _ _ (lasts_c _)) rfl rfl) ?_
  refine g_u (s_as_imm rfl rfl) ?_
  refine g_nil ?_
  refine normal_thn ?_
  refine aw_ret ?_
  exact ⟨⟨(rfl : toAV (Al.look _ _) = some _).trans (congrArg some (by rfl)), rfl⟩, trivial⟩

set_option maxHeartbeats 400000 in
theorem nano_c (us : Int) : PCall Try.prog 26 [iv us] [uv (nanoV us), iv (nanoC us)] := by
  refine pcall_of Try.func26 rfl Try.ntmps26 (by kernel_rfl) rfl fun w0 I0 => ?_
  refine aw_seq ?_
  refine aw_region ?_
  refine g_u (s_as_imm rfl rfl) ?_
  refine g_u (s_as_imm rfl rfl) ?_
  refine g_nil ?_
  refine normal_thn ?_
  refine aw_seq ?_
  refine aw_seq ?_
  refine aw_region ?_
  refine g_u (s_mv_imm rfl rfl) ?_
  refine g_u (s_ltI rfl rfl rfl) ?_
  refine g_u (s_mv_imm rfl rfl) ?_
  refine g_case (t := 6) rfl ?_
  rintro (hb1 | hb1)
  · rw [hb1]
    refine g_skip rfl rfl rfl ?_
    refine g_skip rfl rfl rfl ?_
    refine g_u (s_pick_t rfl rfl rfl) ?_
    refine g_nil ?_
    refine normal_thn ?_
    refine aw_cond_true rfl ?_
    refine aw_seq ?_
    refine aw_region ?_
    refine g_u (s_as_imm rfl rfl) ?_
    refine g_u (s_as_imm rfl rfl) ?_
    refine g_nil ?_
    refine normal_thn ?_
    refine aw_ret ?_
    refine ret_thn ?_
    exact ⟨⟨(rfl : toAV (Al.look _ _) = some _).trans (congrArg some (by (simp only [decide_eq_true_eq, decide_eq_false_iff_not, bne_iff_ne, ne_eq, beq_iff_eq, bne_eq_false_iff_eq, beq_eq_false_iff_ne] at *; simp only [iv, uv, nanoV, nanoC, rNanoV]; first | rw [if_pos (by omega)] | rw [if_neg (by omega)]))), rfl⟩, ⟨(rfl : toAV (Al.look _ _) = some _).trans (congrArg some (by (simp only [decide_eq_true_eq, decide_eq_false_iff_not, bne_iff_ne, ne_eq, beq_iff_eq, bne_eq_false_iff_eq, beq_eq_false_iff_ne] at *; simp only [iv, uv, nanoV, nanoC, rNanoV]; first | rw [if_pos (by omega)] | rw [if_neg (by omega)]))), rfl⟩, trivial⟩
  · rw [hb1]
    refine g_run rfl rfl (s_mv_imm rfl rfl) ?_
    refine g_run rfl rfl (s_gtI rfl rfl rfl) ?_
    refine g_u (s_pick_f rfl rfl rfl) ?_
    refine g_nil ?_
    refine normal_thn ?_
    refine aw_cond rfl (fun hb2 => ?_) (fun hb2 => ?_)
    · skip
      refine aw_seq ?_
      refine aw_region ?_
      refine g_u (s_as_imm rfl rfl) ?_
      refine g_u (s_as_imm rfl rfl) ?_
      refine g_nil ?_
      refine normal_thn ?_
      refine aw_ret ?_
      refine ret_thn ?_
      exact ⟨⟨(rfl : toAV (Al.look _ _) = some _).trans (congrArg some (by (simp only [decide_eq_true_eq, decide_eq_false_iff_not, bne_iff_ne, ne_eq, beq_iff_eq, bne_eq_false_iff_eq, beq_eq_false_iff_ne] at *; simp only [iv, uv, nanoV, nanoC, rNanoV]; first | rw [if_pos (by omega)] | rw [if_neg (by omega)]))), rfl⟩, ⟨(rfl : toAV (Al.look _ _) = some _).trans (congrArg some (by (simp only [decide_eq_true_eq, decide_eq_false_iff_not, bne_iff_ne, ne_eq, beq_iff_eq, bne_eq_false_iff_eq, beq_eq_false_iff_ne] at *; simp only [iv, uv, nanoV, nanoC, rNanoV]; first | rw [if_pos (by omega)] | rw [if_neg (by omega)]))), rfl⟩, trivial⟩
    · skip
      refine aw_skip ?_
      refine normal_thn ?_
      refine aw_seq ?_
      refine aw_region ?_
      refine g_u (s_mv_imm rfl rfl) ?_
      refine g_u (s_cvII rfl rfl Try.underlying3 Try.underlying22) ?_
      refine g_u (s_mul rfl rfl rfl) ?_
      refine g_u (s_as_imm rfl rfl) ?_
      refine g_u (s_as_imm rfl rfl) ?_
      refine g_nil ?_
      refine normal_thn ?_
      refine aw_ret ?_
      exact ⟨⟨(rfl : toAV (Al.look _ _) = some _).trans (congrArg some (by (simp only [decide_eq_true_eq, decide_eq_false_iff_not, bne_iff_ne, ne_eq, beq_iff_eq, bne_eq_false_iff_eq, beq_eq_false_iff_ne] at *; simp only [iv, uv, nanoV, nanoC, rNanoV]; first | rw [if_pos (by omega)] | rw [if_neg (by omega)]))), rfl⟩, ⟨(rfl : toAV (Al.look _ _) = some _).trans (congrArg some (by (simp only [decide_eq_true_eq, decide_eq_false_iff_not, bne_iff_ne, ne_eq, beq_iff_eq, bne_eq_false_iff_eq, beq_eq_false_iff_ne] at *; simp only [iv, uv, nanoV, nanoC, rNanoV]; first | rw [if_pos (by omega)] | rw [if_neg (by omega)]))), rfl⟩, trivial⟩

set_option maxHeartbeats 400000 in
theorem rnano_c (us : Int) : PCall Try.prog 27 [iv us] [uv (rNanoV us), iv (nanoC us)] := by
  refine pcall_of Try.func27 rfl Try.ntmps27 (by kernel_rfl) rfl fun w0 I0 => ?_
  refine aw_seq ?_
  refine aw_region ?_
  refine g_u (s_as_imm rfl rfl) ?_
  refine g_u (s_as_imm rfl rfl) ?_
  refine g_nil ?_
  refine normal_thn ?_
  refine aw_seq ?_
  refine aw_seq ?_
  refine aw_region ?_
  refine g_u (s_mv_imm rfl rfl) ?_
  refine g_u (s_ltI rfl rfl rfl) ?_
  refine g_u (s_mv_imm rfl rfl) ?_
  refine g_case (t := 6) rfl ?_
  rintro (hb1 | hb1)
  · rw [hb1]
    refine g_skip rfl rfl rfl ?_
    refine g_skip rfl rfl rfl ?_
    refine g_u (s_pick_t rfl rfl rfl) ?_
    refine g_nil ?_
    refine normal_thn ?_
    refine aw_cond_true rfl ?_
    refine aw_seq ?_
    refine aw_region ?_
    refine g_u (s_as_imm rfl rfl) ?_
    refine g_u (s_as_imm rfl rfl) ?_
    refine g_nil ?_
    refine normal_thn ?_
    refine aw_ret ?_
    refine ret_thn ?_
    exact ⟨⟨(rfl : toAV (Al.look _ _) = some _).trans (congrArg some (by (simp only [decide_eq_true_eq, decide_eq_false_iff_not, bne_iff_ne, ne_eq, beq_iff_eq, bne_eq_false_iff_eq, beq_eq_false_iff_ne] at *; simp only [iv, uv, nanoV, nanoC, rNanoV]; first | rw [if_pos (by omega)] | rw [if_neg (by omega)]))), rfl⟩, ⟨(rfl : toAV (Al.look _ _) = some _).trans (congrArg some (by (simp only [decide_eq_true_eq, decide_eq_false_iff_not, bne_iff_ne, ne_eq, beq_iff_eq, bne_eq_false_iff_eq, beq_eq_false_iff_ne] at *; simp only [iv, uv, nanoV, nanoC, rNanoV]; first | rw [if_pos (by omega)] | rw [if_neg (by omega)]))), rfl⟩, trivial⟩
  · rw [hb1]
    refine g_run rfl rfl (s_mv_imm rfl rfl) ?_
    refine g_run rfl rfl (s_gtI rfl rfl rfl) ?_
    refine g_u (s_pick_f rfl rfl rfl) ?_
    refine g_nil ?_
    refine normal_thn ?_
    refine aw_cond rfl (fun hb2 => ?_) (fun hb2 => ?_)
    · skip
      refine aw_seq ?_
      refine aw_region ?_
      refine g_u (s_as_imm rfl rfl) ?_
      refine g_u (s_as_imm rfl rfl) ?_
      refine g_nil ?_
      refine normal_thn ?_
      refine aw_ret ?_
      refine ret_thn ?_
      exact ⟨⟨(rfl : toAV (Al.look _ _) = some _).trans (congrArg some (by (simp only [decide_eq_true_eq, decide_eq_false_iff_not, bne_iff_ne, ne_eq, beq_iff_eq, bne_eq_false_iff_eq, beq_eq_false_iff_ne] at *; simp only [iv, uv, nanoV, nanoC, rNanoV]; first | rw [if_pos (by omega)] | rw [if_neg (by omega)]))), rfl⟩, ⟨(rfl : toAV (Al.look _ _) = some _).trans (congrArg some (by (simp only [decide_eq_true_eq, decide_eq_false_iff_not, bne_iff_ne, ne_eq, beq_iff_eq, bne_eq_false_iff_eq, beq_eq_false_iff_ne] at *; simp only [iv, uv, nanoV, nanoC, rNanoV]; first | rw [if_pos (by omega)] | rw [if_neg (by omega)]))), rfl⟩, trivial⟩
    · skip
      refine aw_skip ?_
      refine normal_thn ?_
      refine aw_seq ?_
      refine aw_region ?_
      refine g_u (s_mv_imm rfl rfl) ?_
      refine g_u (s_cvII rfl rfl Try.underlying3 Try.underlying22) ?_
      refine g_u (s_mul rfl rfl rfl) ?_
      refine g_u (s_as_imm rfl rfl) ?_
      refine g_u (s_as_imm rfl rfl) ?_
      refine g_nil ?_
      refine normal_thn ?_
      refine aw_ret ?_
      exact ⟨⟨(rfl : toAV (Al.look _ _) = some _).trans (congrArg some (by (simp only [decide_eq_true_eq, decide_eq_false_iff_not, bne_iff_ne, ne_eq, beq_iff_eq, bne_eq_false_iff_eq, beq_eq_false_iff_ne] at *; simp only [iv, uv, nanoV, nanoC, rNanoV]; first | rw [if_pos (by omega)] | rw [if_neg (by omega)]))), rfl⟩, ⟨(rfl : toAV (Al.look _ _) = some _).trans (congrArg some (by (simp only [decide_eq_true_eq, decide_eq_false_iff_not, bne_iff_ne, ne_eq, beq_iff_eq, bne_eq_false_iff_eq, beq_eq_false_iff_ne] at *; simp only [iv, uv, nanoV, nanoC, rNanoV]; first | rw [if_pos (by omega)] | rw [if_neg (by omega)]))), rfl⟩, trivial⟩

set_option maxHeartbeats 400000 in
theorem micro_c (ns : Int) : PCall Try.prog 28 [uv ns] [iv (microM ns)] := by
  refine pcall_of Try.func28 rfl Try.ntmps28 (by kernel_rfl) rfl fun w0 I0 => ?_
  refine aw_seq ?_
  refine aw_region ?_
  refine g_u (s_as_imm rfl rfl) ?_
  refine g_nil ?_
  refine normal_thn ?_
  refine aw_seq ?_
  refine aw_region ?_
  refine g_u (s_mv_imm rfl rfl) ?_
  refine g_u (s_quo rfl rfl rfl (by first | decide | omega)) ?_
  refine g_u (s_cvII rfl rfl Try.underlying22 Try.underlying3) ?_
  refine g_u (s_as_imm rfl rfl) ?_
  refine g_nil ?_
  refine normal_thn ?_
  refine aw_ret ?_
  exact ⟨⟨(rfl : toAV (Al.look _ _) = some _).trans (congrArg some (by rfl)), rfl⟩, trivial⟩

set_option maxHeartbeats 400000 in
theorem rmicro_c (ns : Int) : PCall Try.prog 29 [uv ns] [iv (microM ns)] := by
  refine pcall_of Try.func29 rfl Try.ntmps29 (by kernel_rfl) rfl fun w0 I0 => ?_
  refine aw_seq ?_
  refine aw_region ?_
  refine g_u (s_as_imm rfl rfl) ?_
  refine g_nil ?_
  refine normal_thn ?_
  refine aw_seq ?_
  refine aw_region ?_
  refine g_u (s_mv_imm rfl rfl) ?_
  refine g_u (s_quo rfl rfl rfl (by first | decide | omega)) ?_
  refine g_u (s_cvII rfl rfl Try.underlying22 Try.underlying3) ?_
  refine g_u (s_as_imm rfl rfl) ?_
  refine g_nil ?_
  refine normal_thn ?_
  refine aw_ret ?_
  exact ⟨⟨(rfl : toAV (Al.look _ _) = some _).trans (congrArg some (by rfl)), rfl⟩, trivial⟩

set_option maxHeartbeats 400000 in
theorem of_c (b l : Int) : PCall Try.prog 24 [iv b, iv l] [(ofR b l).av, iv (ofC b l)] := by
  refine pcall_of Try.func24 rfl Try.ntmps24 (by kernel_rfl) rfl fun w0 I0 => ?_
  refine aw_seq ?_
  refine aw_region ?_
  refine g_uG (s_alloc' 1004 rfl rfl tZ24) rfl ?_
  refine g_u (s_as_imm rfl rfl) ?_
  refine g_nil ?_
  refine normal_thn ?_
  refine aw_seq ?_
  refine aw_region ?_
  refine g_u (s_mv_imm rfl rfl) ?_
  refine g_u (s_call2 (nano_c _) rfl rfl) ?_
  refine g_u (s_mv_tup rfl rfl) ?_
  refine g_u (s_extract rfl rfl rfl rfl) ?_
  refine g_u (s_extract rfl rfl rfl rfl) ?_
  refine g_u (s_as_imm rfl rfl) ?_
  refine g_u (s_as_imm rfl rfl) ?_
  refine g_nil ?_
  refine normal_thn ?_
  refine aw_seq ?_
  refine aw_region ?_
  refine g_u (s_mv_imm rfl rfl) ?_
  refine g_u (s_call2 (nano_c _) rfl rfl) ?_
  refine g_u (s_mv_tup rfl rfl) ?_
  refine g_u (s_extract rfl rfl rfl rfl) ?_
  refine g_u (s_extract rfl rfl rfl rfl) ?_
  refine g_u (s_as_imm rfl rfl) ?_
  refine g_u (s_as_imm rfl rfl) ?_
  refine g_nil ?_
  refine normal_thn ?_
  refine aw_seq ?_
  refine aw_seq ?_
  refine aw_region ?_
  refine g_u (s_mv_imm rfl rfl) ?_
  refine g_u (s_neI rfl rfl rfl) ?_
  refine g_u (s_mv_imm rfl rfl) ?_
  refine g_case (t := 22) rfl ?_
  rintro (hb1 | hb1)
  · rw [hb1]
    refine g_skip rfl rfl rfl ?_
    refine g_skip rfl rfl rfl ?_
    refine g_u (s_pick_t rfl rfl rfl) ?_
    refine g_u (s_mv_imm rfl rfl) ?_
    refine g_skip rfl rfl rfl ?_
    refine g_skip rfl rfl rfl ?_
    refine g_skip rfl rfl rfl ?_
    refine g_skip rfl rfl rfl ?_
    refine g_u (s_pick_t rfl rfl rfl) ?_
    refine g_nil ?_
    refine normal_thn ?_
    refine aw_cond_true rfl ?_
    refine aw_seq ?_
    refine aw_region ?_
    refine g_u (s_build rfl tZ24 us24 pl24 rfl rfl rfl rfl) ?_
    refine g_u (s_store_imm rfl rfl rfl tS24 rfl rfl) ?_
    refine g_u (s_as_imm rfl rfl) ?_
    refine g_nil ?_
    refine normal_thn ?_
    refine aw_ret ?_
    refine ret_thn ?_
    exact ⟨⟨_, _, _, _, _, _, _, rfl, rfl, tA24, tS24, rfl, rfl, (rfl : toAV _ = some _).trans (congrArg some (by (simp only [decide_eq_true_eq, decide_eq_false_iff_not, bne_iff_ne, ne_eq, beq_iff_eq, bne_eq_false_iff_eq, beq_eq_false_iff_ne] at *; simp only [iv, uv, Rg.av, ofR, ofC, rOfA, rOfB, rOfC]; first | (rw [if_pos (by unfold ofBad; omega)]; first | done | rfl) | (rw [if_neg (by unfold ofBad; omega)]; first | done | rfl) | (rw [if_pos (by unfold rBad; omega)]; first | done | rfl) | (rw [if_neg (by unfold rBad; omega)]; first | done | rfl))))⟩, ⟨(rfl : toAV (Al.look _ _) = some _).trans (congrArg some (by (simp only [decide_eq_true_eq, decide_eq_false_iff_not, bne_iff_ne, ne_eq, beq_iff_eq, bne_eq_false_iff_eq, beq_eq_false_iff_ne] at *; simp only [iv, uv, Rg.av, ofR, ofC, rOfA, rOfB, rOfC]; first | (rw [if_pos (by unfold ofBad; omega)]; first | done | rfl) | (rw [if_neg (by unfold ofBad; omega)]; first | done | rfl) | (rw [if_pos (by unfold rBad; omega)]; first | done | rfl) | (rw [if_neg (by unfold rBad; omega)]; first | done | rfl)))), rfl⟩, trivial⟩
  · rw [hb1]
    refine g_run rfl rfl (s_mv_imm rfl rfl) ?_
    refine g_run rfl rfl (s_neI rfl rfl rfl) ?_
    refine g_u (s_pick_f rfl rfl rfl) ?_
    refine g_u (s_mv_imm rfl rfl) ?_
    refine g_case (t := 26) rfl ?_
    rintro (hb2 | hb2)
    · rw [hb2]
      refine g_skip rfl rfl rfl ?_
      refine g_skip rfl rfl rfl ?_
      refine g_skip rfl rfl rfl ?_
      refine g_skip rfl rfl rfl ?_
      refine g_u (s_pick_t rfl rfl rfl) ?_
      refine g_nil ?_
      refine normal_thn ?_
      refine aw_cond_true rfl ?_
      refine aw_seq ?_
      refine aw_region ?_
      refine g_u (s_build rfl tZ24 us24 pl24 rfl rfl rfl rfl) ?_
      refine g_u (s_store_imm rfl rfl rfl tS24 rfl rfl) ?_
      refine g_u (s_as_imm rfl rfl) ?_
      refine g_nil ?_
      refine normal_thn ?_
      refine aw_ret ?_
      refine ret_thn ?_
      exact ⟨⟨_, _, _, _, _, _, _, rfl, rfl, tA24, tS24, rfl, rfl, (rfl : toAV _ = some _).trans (congrArg some (by (simp only [decide_eq_true_eq, decide_eq_false_iff_not, bne_iff_ne, ne_eq, beq_iff_eq, bne_eq_false_iff_eq, beq_eq_false_iff_ne] at *; simp only [iv, uv, Rg.av, ofR, ofC, rOfA, rOfB, rOfC]; first | (rw [if_pos (by unfold ofBad; omega)]; first | done | rfl) | (rw [if_neg (by unfold ofBad; omega)]; first | done | rfl) | (rw [if_pos (by unfold rBad; omega)]; first | done | rfl) | (rw [if_neg (by unfold rBad; omega)]; first | done | rfl))))⟩, ⟨(rfl : toAV (Al.look _ _) = some _).trans (congrArg some (by (simp only [decide_eq_true_eq, decide_eq_false_iff_not, bne_iff_ne, ne_eq, beq_iff_eq, bne_eq_false_iff_eq, beq_eq_false_iff_ne] at *; simp only [iv, uv, Rg.av, ofR, ofC, rOfA, rOfB, rOfC]; first | (rw [if_pos (by unfold ofBad; omega)]; first | done | rfl) | (rw [if_neg (by unfold ofBad; omega)]; first | done | rfl) | (rw [if_pos (by unfold rBad; omega)]; first | done | rfl) | (rw [if_neg (by unfold rBad; omega)]; first | done | rfl)))), rfl⟩, trivial⟩
    · rw [hb2]
      refine g_run rfl rfl (s_mv_imm rfl rfl) ?_
      refine g_run rfl rfl (s_mv_imm rfl rfl) ?_
      refine g_run rfl rfl (s_sub rfl rfl rfl) ?_
      refine g_run rfl rfl (s_gtI rfl rfl rfl) ?_
      refine g_u (s_pick_f rfl rfl rfl) ?_
      refine g_nil ?_
      refine normal_thn ?_
      refine aw_cond rfl (fun hb3 => ?_) (fun hb3 => ?_)
      · skip
        refine aw_seq ?_
        refine aw_region ?_
        refine g_u (s_build rfl tZ24 us24 pl24 rfl rfl rfl rfl) ?_
        refine g_u (s_store_imm rfl rfl rfl tS24 rfl rfl) ?_
        refine g_u (s_as_imm rfl rfl) ?_
        refine g_nil ?_
        refine normal_thn ?_
        refine aw_ret ?_
        refine ret_thn ?_
        exact ⟨⟨_, _, _, _, _, _, _, rfl, rfl, tA24, tS24, rfl, rfl, (rfl : toAV _ = some _).trans (congrArg some (by (simp only [decide_eq_true_eq, decide_eq_false_iff_not, bne_iff_ne, ne_eq, beq_iff_eq, bne_eq_false_iff_eq, beq_eq_false_iff_ne] at *; simp only [iv, uv, Rg.av, ofR, ofC, rOfA, rOfB, rOfC]; first | (rw [if_pos (by unfold ofBad; omega)]; first | done | rfl) | (rw [if_neg (by unfold ofBad; omega)]; first | done | rfl) | (rw [if_pos (by unfold rBad; omega)]; first | done | rfl) | (rw [if_neg (by unfold rBad; omega)]; first | done | rfl))))⟩, ⟨(rfl : toAV (Al.look _ _) = some _).trans (congrArg some (by (simp only [decide_eq_true_eq, decide_eq_false_iff_not, bne_iff_ne, ne_eq, beq_iff_eq, bne_eq_false_iff_eq, beq_eq_false_iff_ne] at *; simp only [iv, uv, Rg.av, ofR, ofC, rOfA, rOfB, rOfC]; first | (rw [if_pos (by unfold ofBad; omega)]; first | done | rfl) | (rw [if_neg (by unfold ofBad; omega)]; first | done | rfl) | (rw [if_pos (by unfold rBad; omega)]; first | done | rfl) | (rw [if_neg (by unfold rBad; omega)]; first | done | rfl)))), rfl⟩, trivial⟩
      · skip
        refine aw_skip ?_
        refine normal_thn ?_
        refine aw_seq ?_
        refine aw_region ?_
        refine g_u (s_mv_imm rfl rfl) ?_
        refine g_u (s_mv_imm rfl rfl) ?_
        refine g_u (s_mv_imm rfl rfl) ?_
        refine g_u (s_add rfl rfl rfl) ?_
        refine g_u (s_build rfl tZ24 us24 pl24 rfl rfl rfl rfl) ?_
        refine g_u (s_store_imm rfl rfl rfl tS24 rfl rfl) ?_
        refine g_u (s_as_imm rfl rfl) ?_
        refine g_nil ?_
        refine normal_thn ?_
        refine aw_ret ?_
        exact ⟨⟨_, _, _, _, _, _, _, rfl, rfl, tA24, tS24, rfl, rfl, (rfl : toAV _ = some _).trans (congrArg some (by (simp only [decide_eq_true_eq, decide_eq_false_iff_not, bne_iff_ne, ne_eq, beq_iff_eq, bne_eq_false_iff_eq, beq_eq_false_iff_ne] at *; simp only [iv, uv, Rg.av, ofR, ofC, rOfA, rOfB, rOfC]; first | (rw [if_pos (by unfold ofBad; omega)]; first | done | rfl) | (rw [if_neg (by unfold ofBad; omega)]; first | done | rfl) | (rw [if_pos (by unfold rBad; omega)]; first | done | rfl) | (rw [if_neg (by unfold rBad; omega)]; first | done | rfl))))⟩, ⟨(rfl : toAV (Al.look _ _) = some _).trans (congrArg some (by (simp only [decide_eq_true_eq, decide_eq_false_iff_not, bne_iff_ne, ne_eq, beq_iff_eq, bne_eq_false_iff_eq, beq_eq_false_iff_ne] at *; simp only [iv, uv, Rg.av, ofR, ofC, rOfA, rOfB, rOfC]; first | (rw [if_pos (by unfold ofBad; omega)]; first | done | rfl) | (rw [if_neg (by unfold ofBad; omega)]; first | done | rfl) | (rw [if_pos (by unfold rBad; omega)]; first | done | rfl) | (rw [if_neg (by unfold rBad; omega)]; first | done | rfl)))), rfl⟩, trivial⟩

set_option maxHeartbeats 400000 in
theorem rof_c (b l : Int) : PCall Try.prog 25 [iv b, iv l] [uv (rOfA b l), uv (rOfB b l), iv (rOfC b l)] := by
  refine pcall_of Try.func25 rfl Try.ntmps25 (by kernel_rfl) rfl fun w0 I0 => ?_
  refine aw_seq ?_
  refine aw_region ?_
  refine g_u (s_as_imm rfl rfl) ?_
  refine g_u (s_as_imm rfl rfl) ?_
  refine g_u (s_as_imm rfl rfl) ?_
  refine g_nil ?_
  refine normal_thn ?_
  refine aw_seq ?_
  refine aw_region ?_
  refine g_u (s_mv_imm rfl rfl) ?_
  refine g_u (s_call2 (rnano_c _) rfl rfl) ?_
  refine g_u (s_mv_tup rfl rfl) ?_
  refine g_u (s_extract rfl rfl rfl rfl) ?_
  refine g_u (s_extract rfl rfl rfl rfl) ?_
  refine g_u (s_as_imm rfl rfl) ?_
  refine g_u (s_as_imm rfl rfl) ?_
  refine g_nil ?_
  refine normal_thn ?_
  refine aw_seq ?_
  refine aw_region ?_
  refine g_u (s_mv_imm rfl rfl) ?_
  refine g_u (s_call2 (rnano_c _) rfl rfl) ?_
  refine g_u (s_mv_tup rfl rfl) ?_
  refine g_u (s_extract rfl rfl rfl rfl) ?_
  refine g_u (s_extract rfl rfl rfl rfl) ?_
  refine g_u (s_as_imm rfl rfl) ?_
  refine g_u (s_as_imm rfl rfl) ?_
  refine g_nil ?_
  refine normal_thn ?_
  refine aw_seq ?_
  refine aw_seq ?_
  refine aw_region ?_
  refine g_u (s_mv_imm rfl rfl) ?_
  refine g_u (s_neI rfl rfl rfl) ?_
  refine g_u (s_mv_imm rfl rfl) ?_
  refine g_case (t := 23) rfl ?_
  rintro (hb1 | hb1)
  · rw [hb1]
    refine g_skip rfl rfl rfl ?_
    refine g_skip rfl rfl rfl ?_
    refine g_u (s_pick_t rfl rfl rfl) ?_
    refine g_u (s_mv_imm rfl rfl) ?_
    refine g_skip rfl rfl rfl ?_
    refine g_skip rfl rfl rfl ?_
    refine g_skip rfl rfl rfl ?_
    refine g_skip rfl rfl rfl ?_
    refine g_u (s_pick_t rfl rfl rfl) ?_
    refine g_nil ?_
    refine normal_thn ?_
    refine aw_cond_true rfl ?_
    refine aw_seq ?_
    refine aw_region ?_
    refine g_u (s_as_imm rfl rfl) ?_
    refine g_u (s_as_imm rfl rfl) ?_
    refine g_u (s_as_imm rfl rfl) ?_
    refine g_nil ?_
    refine normal_thn ?_
    refine aw_ret ?_
    refine ret_thn ?_
    exact ⟨⟨(rfl : toAV (Al.look _ _) = some _).trans (congrArg some (by (simp only [decide_eq_true_eq, decide_eq_false_iff_not, bne_iff_ne, ne_eq, beq_iff_eq, bne_eq_false_iff_eq, beq_eq_false_iff_ne] at *; simp only [iv, uv, Rg.av, ofR, ofC, rOfA, rOfB, rOfC]; first | (rw [if_pos (by unfold ofBad; omega)]; first | done | rfl) | (rw [if_neg (by unfold ofBad; omega)]; first | done | rfl) | (rw [if_pos (by unfold rBad; omega)]; first | done | rfl) | (rw [if_neg (by unfold rBad; omega)]; first | done | rfl)))), rfl⟩, ⟨(rfl : toAV (Al.look _ _) = some _).trans (congrArg some (by (simp only [decide_eq_true_eq, decide_eq_false_iff_not, bne_iff_ne, ne_eq, beq_iff_eq, bne_eq_false_iff_eq, beq_eq_false_iff_ne] at *; simp only [iv, uv, Rg.av, ofR, ofC, rOfA, rOfB, rOfC]; first | (rw [if_pos (by unfold ofBad; omega)]; first | done | rfl) | (rw [if_neg (by unfold ofBad; omega)]; first | done | rfl) | (rw [if_pos (by unfold rBad; omega)]; first | done | rfl) | (rw [if_neg (by unfold rBad; omega)]; first | done | rfl)))), rfl⟩, ⟨(rfl : toAV (Al.look _ _) = some _).trans (congrArg some (by (simp only [decide_eq_true_eq, decide_eq_false_iff_not, bne_iff_ne, ne_eq, beq_iff_eq, bne_eq_false_iff_eq, beq_eq_false_iff_ne] at *; simp only [iv, uv, Rg.av, ofR, ofC, rOfA, rOfB, rOfC]; first | (rw [if_pos (by unfold ofBad; omega)]; first | done | rfl) | (rw [if_neg (by unfold ofBad; omega)]; first | done | rfl) | (rw [if_pos (by unfold rBad; omega)]; first | done | rfl) | (rw [if_neg (by unfold rBad; omega)]; first | done | rfl)))), rfl⟩, trivial⟩
  · rw [hb1]
    refine g_run rfl rfl (s_mv_imm rfl rfl) ?_
    refine g_run rfl rfl (s_neI rfl rfl rfl) ?_
    refine g_u (s_pick_f rfl rfl rfl) ?_
    refine g_u (s_mv_imm rfl rfl) ?_
    refine g_case (t := 27) rfl ?_
    rintro (hb2 | hb2)
    · rw [hb2]
      refine g_skip rfl rfl rfl ?_
      refine g_skip rfl rfl rfl ?_
      refine g_skip rfl rfl rfl ?_
      refine g_skip rfl rfl rfl ?_
      refine g_u (s_pick_t rfl rfl rfl) ?_
      refine g_nil ?_
      refine normal_thn ?_
      refine aw_cond_true rfl ?_
      refine aw_seq ?_
      refine aw_region ?_
      refine g_u (s_as_imm rfl rfl) ?_
      refine g_u (s_as_imm rfl rfl) ?_
      refine g_u (s_as_imm rfl rfl) ?_
      refine g_nil ?_
      refine normal_thn ?_
      refine aw_ret ?_
      refine ret_thn ?_
      exact ⟨⟨(rfl : toAV (Al.look _ _) = some _).trans (congrArg some (by (simp only [decide_eq_true_eq, decide_eq_false_iff_not, bne_iff_ne, ne_eq, beq_iff_eq, bne_eq_false_iff_eq, beq_eq_false_iff_ne] at *; simp only [iv, uv, Rg.av, ofR, ofC, rOfA, rOfB, rOfC]; first | (rw [if_pos (by unfold ofBad; omega)]; first | done | rfl) | (rw [if_neg (by unfold ofBad; omega)]; first | done | rfl) | (rw [if_pos (by unfold rBad; omega)]; first | done | rfl) | (rw [if_neg (by unfold rBad; omega)]; first | done | rfl)))), rfl⟩, ⟨(rfl : toAV (Al.look _ _) = some _).trans (congrArg some (by (simp only [decide_eq_true_eq, decide_eq_false_iff_not, bne_iff_ne, ne_eq, beq_iff_eq, bne_eq_false_iff_eq, beq_eq_false_iff_ne] at *; simp only [iv, uv, Rg.av, ofR, ofC, rOfA, rOfB, rOfC]; first | (rw [if_pos (by unfold ofBad; omega)]; first | done | rfl) | (rw [if_neg (by unfold ofBad; omega)]; first | done | rfl) | (rw [if_pos (by unfold rBad; omega)]; first | done | rfl) | (rw [if_neg (by unfold rBad; omega)]; first | done | rfl)))), rfl⟩, ⟨(rfl : toAV (Al.look _ _) = some _).trans (congrArg some (by (simp only [decide_eq_true_eq, decide_eq_false_iff_not, bne_iff_ne, ne_eq, beq_iff_eq, bne_eq_false_iff_eq, beq_eq_false_iff_ne] at *; simp only [iv, uv, Rg.av, ofR, ofC, rOfA, rOfB, rOfC]; first | (rw [if_pos (by unfold ofBad; omega)]; first | done | rfl) | (rw [if_neg (by unfold ofBad; omega)]; first | done | rfl) | (rw [if_pos (by unfold rBad; omega)]; first | done | rfl) | (rw [if_neg (by unfold rBad; omega)]; first | done | rfl)))), rfl⟩, trivial⟩
    · rw [hb2]
      refine g_run rfl rfl (s_mv_imm rfl rfl) ?_
      refine g_run rfl rfl (s_mv_imm rfl rfl) ?_
      refine g_run rfl rfl (s_sub rfl rfl rfl) ?_
      refine g_run rfl rfl (s_gtI rfl rfl rfl) ?_
      refine g_u (s_pick_f rfl rfl rfl) ?_
      refine g_nil ?_
      refine normal_thn ?_
      refine aw_cond rfl (fun hb3 => ?_) (fun hb3 => ?_)
      · skip
        refine aw_seq ?_
        refine aw_region ?_
        refine g_u (s_as_imm rfl rfl) ?_
        refine g_u (s_as_imm rfl rfl) ?_
        refine g_u (s_as_imm rfl rfl) ?_
        refine g_nil ?_
        refine normal_thn ?_
        refine aw_ret ?_
        refine ret_thn ?_
        exact ⟨⟨(rfl : toAV (Al.look _ _) = some _).trans (congrArg some (by (simp only [decide_eq_true_eq, decide_eq_false_iff_not, bne_iff_ne, ne_eq, beq_iff_eq, bne_eq_false_iff_eq, beq_eq_false_iff_ne] at *; simp only [iv, uv, Rg.av, ofR, ofC, rOfA, rOfB, rOfC]; first | (rw [if_pos (by unfold ofBad; omega)]; first | done | rfl) | (rw [if_neg (by unfold ofBad; omega)]; first | done | rfl) | (rw [if_pos (by unfold rBad; omega)]; first | done | rfl) | (rw [if_neg (by unfold rBad; omega)]; first | done | rfl)))), rfl⟩, ⟨(rfl : toAV (Al.look _ _) = some _).trans (congrArg some (by (simp only [decide_eq_true_eq, decide_eq_false_iff_not, bne_iff_ne, ne_eq, beq_iff_eq, bne_eq_false_iff_eq, beq_eq_false_iff_ne] at *; simp only [iv, uv, Rg.av, ofR, ofC, rOfA, rOfB, rOfC]; first | (rw [if_pos (by unfold ofBad; omega)]; first | done | rfl) | (rw [if_neg (by unfold ofBad; omega)]; first | done | rfl) | (rw [if_pos (by unfold rBad; omega)]; first | done | rfl) | (rw [if_neg (by unfold rBad; omega)]; first | done | rfl)))), rfl⟩, ⟨(rfl : toAV (Al.look _ _) = some _).trans (congrArg some (by (simp only [decide_eq_true_eq, decide_eq_false_iff_not, bne_iff_ne, ne_eq, beq_iff_eq, bne_eq_false_iff_eq, beq_eq_false_iff_ne] at *; simp only [iv, uv, Rg.av, ofR, ofC, rOfA, rOfB, rOfC]; first | (rw [if_pos (by unfold ofBad; omega)]; first | done | rfl) | (rw [if_neg (by unfold ofBad; omega)]; first | done | rfl) | (rw [if_pos (by unfold rBad; omega)]; first | done | rfl) | (rw [if_neg (by unfold rBad; omega)]; first | done | rfl)))), rfl⟩, trivial⟩
      · skip
        refine aw_skip ?_
        refine normal_thn ?_
        refine aw_seq ?_
        refine aw_region ?_
        refine g_u (s_mv_imm rfl rfl) ?_
        refine g_u (s_mv_imm rfl rfl) ?_
        refine g_u (s_mv_imm rfl rfl) ?_
        refine g_u (s_add rfl rfl rfl) ?_
        refine g_u (s_as_imm rfl rfl) ?_
        refine g_u (s_as_imm rfl rfl) ?_
        refine g_u (s_as_imm rfl rfl) ?_
        refine g_nil ?_
        refine normal_thn ?_
        refine aw_ret ?_
        exact ⟨⟨(rfl : toAV (Al.look _ _) = some _).trans (congrArg some (by (simp only [decide_eq_true_eq, decide_eq_false_iff_not, bne_iff_ne, ne_eq, beq_iff_eq, bne_eq_false_iff_eq, beq_eq_false_iff_ne] at *; simp only [iv, uv, Rg.av, ofR, ofC, rOfA, rOfB, rOfC]; first | (rw [if_pos (by unfold ofBad; omega)]; first | done | rfl) | (rw [if_neg (by unfold ofBad; omega)]; first | done | rfl) | (rw [if_pos (by unfold rBad; omega)]; first | done | rfl) | (rw [if_neg (by unfold rBad; omega)]; first | done | rfl)))), rfl⟩, ⟨(rfl : toAV (Al.look _ _) = some _).trans (congrArg some (by (simp only [decide_eq_true_eq, decide_eq_false_iff_not, bne_iff_ne, ne_eq, beq_iff_eq, bne_eq_false_iff_eq, beq_eq_false_iff_ne] at *; simp only [iv, uv, Rg.av, ofR, ofC, rOfA, rOfB, rOfC]; first | (rw [if_pos (by unfold ofBad; omega)]; first | done | rfl) | (rw [if_neg (by unfold ofBad; omega)]; first | done | rfl) | (rw [if_pos (by unfold rBad; omega)]; first | done | rfl) | (rw [if_neg (by unfold rBad; omega)]; first | done | rfl)))), rfl⟩, ⟨(rfl : toAV (Al.look _ _) = some _).trans (congrArg some (by (simp only [decide_eq_true_eq, decide_eq_false_iff_not, bne_iff_ne, ne_eq, beq_iff_eq, bne_eq_false_iff_eq, beq_eq_false_iff_ne] at *; simp only [iv, uv, Rg.av, ofR, ofC, rOfA, rOfB, rOfC]; first | (rw [if_pos (by unfold ofBad; omega)]; first | done | rfl) | (rw [if_neg (by unfold ofBad; omega)]; first | done | rfl) | (rw [if_pos (by unfold rBad; omega)]; first | done | rfl) | (rw [if_neg (by unfold rBad; omega)]; first | done | rfl)))), rfl⟩, trivial⟩

set_option maxHeartbeats 400000 in
theorem whole_c (r : Rg) : PCall Try.prog 16 [r.av] [(wholeM r).av] := by
  refine pcall_of Try.func16 rfl Try.ntmps16 (by kernel_rfl) rfl fun w0 I0 => ?_
  refine aw_seq ?_
  refine aw_region ?_
  refine g_uG (s_box_imm 1001 rfl rfl rfl) rfl ?_
  refine g_uG (s_alloc' 1002 rfl rfl tZ24) rfl ?_
  refine g_nil ?_
  refine normal_thn ?_
  refine aw_seq ?_
  refine aw_draw mixed ?_
  refine g_u (s_load_imm rfl rfl rfl tA24 tS24 rfl rfl) ?_
  refine g_u (s_call1 (Begun_c _) rfl rfl) ?_
  refine g_u (s_load_imm rfl rfl rfl tA24 tS24 rfl rfl) ?_
  refine g_u (s_call1 (Lasts_c _) rfl rfl) ?_
  refine g_u (s_call2 (of_c _ _) rfl rfl) ?_
  refine g_u (s_mv_tup rfl rfl) ?_
  refine g_u (s_extract rfl rfl rfl rfl) ?_
  refine g_u (s_extract rfl rfl rfl rfl) ?_
  refine g_uG (s_alloc' 1003 rfl rfl tZ24) rfl ?_
  refine g_u (s_store_imm rfl rfl rfl tS24 rfl rfl) ?_
  refine g_u (s_as_imm rfl rfl) ?_
  refine g_nil ⟨by kernel_rfl, ?_⟩
  refine normal_thn ?_
  refine aw_seq ?_
  refine aw_region ?_
  refine g_u (s_load_agg rfl rfl rfl tA24 tS24 rfl rfl) ?_
  refine g_u (s_store_imm rfl rfl rfl tS24 rfl rfl) ?_
  refine g_nil ?_
  refine normal_thn ?_
  refine aw_ret ?_
  exact ⟨⟨_, _, _, _, _, _, _, rfl, rfl, tA24, tS24, rfl, rfl, (rfl : toAV _ = some _).trans (congrArg some (by rfl))⟩, trivial⟩

attribute [local irreducible] wholeM ofR

theorem eq24 (a b : Rg) : eqV Try.prog 100 24 a.av b.av = some (a.lo == b.lo && (a.hi == b.hi && true)) := by kernel_rfl

set_option maxHeartbeats 400000 in
theorem rfine_c (s e : Int) : PCall Try.prog 18 [uv s, uv e] [bv (rFine s e)] := by
  refine pcall_of Try.func18 rfl Try.ntmps18 (by kernel_rfl) rfl fun w0 I0 => ?_
  refine aw_seq ?_
  refine aw_region ?_
  refine g_u (s_as_imm rfl rfl) ?_
  refine g_nil ?_
  refine normal_thn ?_
  refine aw_seq ?_
  refine aw_region ?_
  refine g_u (s_mv_imm rfl rfl) ?_
  refine g_u (s_mv_imm rfl rfl) ?_
  refine g_u (s_leI rfl rfl rfl) ?_
  refine g_u (s_mv_imm rfl rfl) ?_
  refine g_case (t := 8) rfl ?_
  rintro (hb1 | hb1)
  · rw [hb1]
    refine g_run rfl rfl (s_mv_imm rfl rfl) ?_
    refine g_run rfl rfl (s_leI rfl rfl rfl) ?_
    refine g_u (s_pick_t rfl rfl rfl) ?_
    refine g_u (s_as_imm rfl rfl) ?_
    refine g_nil ?_
    refine normal_thn ?_
    refine aw_ret ?_
    exact ⟨⟨(rfl : toAV (Al.look _ _) = some _).trans (congrArg some (by (simp only [bv, rFine, *]; rfl))), rfl⟩, trivial⟩
  · rw [hb1]
    refine g_skip rfl rfl rfl ?_
    refine g_skip rfl rfl rfl ?_
    refine g_u (s_pick_f rfl rfl rfl) ?_
    refine g_u (s_as_imm rfl rfl) ?_
    refine g_nil ?_
    refine normal_thn ?_
    refine aw_ret ?_
    exact ⟨⟨(rfl : toAV (Al.look _ _) = some _).trans (congrArg some (by (simp only [bv, rFine, *]; rfl))), rfl⟩, trivial⟩

set_option maxHeartbeats 400000 in
theorem rbegun_c (s e : Int) : PCall Try.prog 20 [uv s, uv e] [iv (rBegun s e)] := by
  refine pcall_of Try.func20 rfl Try.ntmps20 (by kernel_rfl) rfl fun w0 I0 => ?_
  refine aw_seq ?_
  refine aw_region ?_
  refine g_u (s_as_imm rfl rfl) ?_
  refine g_nil ?_
  refine normal_thn ?_
  refine aw_seq ?_
  refine aw_seq ?_
  refine aw_region ?_
  refine g_u (s_mv_imm rfl rfl) ?_
  refine g_u (s_mv_imm rfl rfl) ?_
  refine g_u (s_call1 (rfine_c _ _) rfl rfl) ?_
  refine g_u (s_not rfl rfl) ?_
  refine g_nil ?_
  refine normal_thn ?_
  refine aw_cond rfl (fun hb1 => ?_) (fun hb1 => ?_)
  · skip
    refine aw_seq ?_
    refine aw_region ?_
    refine g_u (s_as_imm rfl rfl) ?_
    refine g_nil ?_
    refine normal_thn ?_
    refine aw_ret ?_
    refine ret_thn ?_
    exact ⟨⟨(rfl : toAV (Al.look _ _) = some _).trans (congrArg some (by (simp only [iv, rBegun, rLasts]; simp only [Bool.not_eq_true', Bool.not_eq_false'] at *; simp only [*]; rfl))), rfl⟩, trivial⟩
  · skip
    refine aw_skip ?_
    refine normal_thn ?_
    refine aw_seq ?_
    refine aw_region ?_
    refine g_u (s_mv_imm rfl rfl) ?_
    refine g_u (s_call1 (rmicro_c _) rfl rfl) ?_
    refine g_u (s_as_imm rfl rfl) ?_
    refine g_nil ?_
    refine normal_thn ?_
    refine aw_ret ?_
    exact ⟨⟨(rfl : toAV (Al.look _ _) = some _).trans (congrArg some (by (simp only [iv, rBegun, rLasts]; simp only [Bool.not_eq_true', Bool.not_eq_false'] at *; simp only [*]; rfl))), rfl⟩, trivial⟩

set_option maxHeartbeats 400000 in
theorem rlasts_c (s e : Int) : PCall Try.prog 22 [uv s, uv e] [iv (rLasts s e)] := by
  refine pcall_of Try.func22 rfl Try.ntmps22 (by kernel_rfl) rfl fun w0 I0 => ?_
  refine aw_seq ?_
  refine aw_region ?_
  refine g_u (s_as_imm rfl rfl) ?_
  refine g_nil ?_
  refine normal_thn ?_
  refine aw_seq ?_
  refine aw_seq ?_
  refine aw_region ?_
  refine g_u (s_mv_imm rfl rfl) ?_
  refine g_u (s_mv_imm rfl rfl) ?_
  refine g_u (s_call1 (rfine_c _ _) rfl rfl) ?_
  refine g_u (s_not rfl rfl) ?_
  refine g_nil ?_
  refine normal_thn ?_
  refine aw_cond rfl (fun hb1 => ?_) (fun hb1 => ?_)
  · skip
    refine aw_seq ?_
    refine aw_region ?_
    refine g_u (s_as_imm rfl rfl) ?_
    refine g_nil ?_
    refine normal_thn ?_
    refine aw_ret ?_
    refine ret_thn ?_
    exact ⟨⟨(rfl : toAV (Al.look _ _) = some _).trans (congrArg some (by (simp only [iv, rBegun, rLasts]; simp only [Bool.not_eq_true', Bool.not_eq_false'] at *; simp only [*]; rfl))), rfl⟩, trivial⟩
  · skip
    refine aw_skip ?_
    refine normal_thn ?_
    refine aw_seq ?_
    refine aw_region ?_
    refine g_u (s_mv_imm rfl rfl) ?_
    refine g_u (s_mv_imm rfl rfl) ?_
    refine g_u (s_sub rfl rfl rfl) ?_
    refine g_u (s_call1 (rmicro_c _) rfl rfl) ?_
    refine g_u (s_as_imm rfl rfl) ?_
    refine g_nil ?_
    refine normal_thn ?_
    refine aw_ret ?_
    exact ⟨⟨(rfl : toAV (Al.look _ _) = some _).trans (congrArg some (by (simp only [iv, rBegun, rLasts]; simp only [Bool.not_eq_true', Bool.not_eq_false'] at *; simp only [*]; rfl))), rfl⟩, trivial⟩

set_option maxHeartbeats 400000 in
theorem rwhole_c (s e : Int) : PCall Try.prog 15 [uv s, uv e] [uv (rOfA (rBegun s e) (rLasts s e)), uv (rOfB (rBegun s e) (rLasts s e))] := by
  refine pcall_of Try.func15 rfl Try.ntmps15 (by kernel_rfl) rfl fun w0 I0 => ?_
  refine aw_seq ?_
  refine aw_region ?_
  refine g_u (s_as_imm rfl rfl) ?_
  refine g_u (s_as_imm rfl rfl) ?_
  refine g_nil ?_
  refine normal_thn ?_
  refine aw_seq ?_
  refine aw_region ?_
  refine g_u (s_mv_imm rfl rfl) ?_
  refine g_u (s_mv_imm rfl rfl) ?_
  refine g_u (s_call1 (rbegun_c _ _) rfl rfl) ?_
  refine g_u (s_mv_imm rfl rfl) ?_
  refine g_u (s_mv_imm rfl rfl) ?_
  refine g_u (s_call1 (rlasts_c _ _) rfl rfl) ?_
  refine g_u (s_call3 (rof_c _ _) rfl rfl) ?_
  refine g_u (s_mv_tup rfl rfl) ?_
  refine g_u (s_extract rfl rfl rfl rfl) ?_
  refine g_u (s_extract rfl rfl rfl rfl) ?_
  refine g_u (s_extract rfl rfl rfl rfl) ?_
  refine g_u (s_as_imm rfl rfl) ?_
  refine g_u (s_as_imm rfl rfl) ?_
  refine g_u (s_as_imm rfl rfl) ?_
  refine g_nil ?_
  refine normal_thn ?_
  refine aw_seq ?_
  refine aw_region ?_
  refine g_u (s_mv_imm rfl rfl) ?_
  refine g_u (s_mv_imm rfl rfl) ?_
  refine g_u (s_as_imm rfl rfl) ?_
  refine g_u (s_as_imm rfl rfl) ?_
  refine g_nil ?_
  refine normal_thn ?_
  refine aw_ret ?_
  exact ⟨⟨(rfl : toAV (Al.look _ _) = some _).trans (congrArg some (by rfl)), rfl⟩, ⟨(rfl : toAV (Al.look _ _) = some _).trans (congrArg some (by rfl)), rfl⟩, trivial⟩

set_option maxHeartbeats 400000 in
theorem works08_c : PCall Try.prog 23 [] [bv true] := by
  refine pcall_of Try.func23 rfl Try.ntmps23 (by kernel_rfl) rfl fun w0 I0 => ?_
  refine aw_seq ?_
  refine aw_region ?_
  refine g_u (s_as_imm rfl rfl) ?_
  refine g_nil ?_
  refine normal_thn ?_
  refine aw_seq ?_
  refine aw_region ?_
  refine g_u (s_build rfl tZ24 us24 pl24 rfl rfl rfl rfl) ?_
  refine g_uG (s_alloc' 1001 rfl rfl tZ24) rfl ?_
  refine g_u (s_store_imm rfl rfl rfl tS24 rfl rfl) ?_
  refine g_nil ?_
  refine normal_thn ?_
  refine aw_seq ?_
  refine aw_region ?_
  refine g_u (s_call2 (of_c _ _) rfl rfl) ?_
  refine g_u (s_mv_tup rfl rfl) ?_
  refine g_u (s_extract rfl rfl rfl rfl) ?_
  refine g_u (s_extract rfl rfl rfl rfl) ?_
  refine g_uG (s_alloc' 1002 rfl rfl tZ24) rfl ?_
  refine g_u (s_store_imm rfl rfl rfl tS24 rfl rfl) ?_
  refine g_u (s_as_imm rfl rfl) ?_
  refine g_nil ?_
  refine normal_thn ?_
  refine aw_seq ?_
  refine aw_region ?_
  refine g_u (s_call2 (nano_c _) rfl rfl) ?_
  refine g_u (s_mv_tup rfl rfl) ?_
  refine g_u (s_extract rfl rfl rfl rfl) ?_
  refine g_u (s_extract rfl rfl rfl rfl) ?_
  refine g_u (s_as_imm rfl rfl) ?_
  refine g_u (s_as_imm rfl rfl) ?_
  refine g_nil ?_
  refine normal_thn ?_
  refine aw_seq ?_
  refine aw_region ?_
  refine g_u (s_load_agg rfl rfl rfl tA24 tS24 rfl rfl) ?_
  refine g_u (s_call1 (Begun_c ⟨_, _⟩) rfl rfl) ?_
  refine g_u (s_eqI rfl rfl rfl) ?_
  refine g_u (s_mv_imm rfl rfl) ?_
  refine g_case (t := 18) rfl ?_
  rintro (hb1 | hb1)
  · rw [hb1]
    refine g_run rfl rfl (s_load_agg rfl rfl rfl tA24 tS24 rfl rfl) ?_
    refine g_run rfl rfl (s_call1 (Lasts_c ⟨_, _⟩) rfl rfl) ?_
    refine g_run rfl rfl (s_eqI rfl rfl rfl) ?_
    refine g_u (s_pick_t rfl rfl rfl) ?_
    refine g_u (s_mv_imm rfl rfl) ?_
    refine g_case (t := 23) rfl ?_
    rintro (hb2 | hb2)
    · rw [hb2]
      refine g_run rfl rfl (s_load_agg rfl rfl rfl tA24 tS24 rfl rfl) ?_
      refine g_run rfl rfl (s_call1 (whole_c ⟨_, _⟩) rfl rfl) ?_
      refine g_run rfl rfl (s_build rfl tZ24 us24 pl24 rfl rfl rfl rfl) ?_
      refine g_run rfl rfl (s_eqA rfl rfl rfl eg24 rfl rfl (eq24 ⟨_, _⟩ ⟨_, _⟩)) ?_
      refine g_u (s_pick_t rfl rfl rfl) ?_
      refine g_u (s_mv_imm rfl rfl) ?_
      refine g_case (t := 29) rfl ?_
      rintro (hb3 | hb3)
      · rw [hb3]
        refine g_run rfl rfl (s_mv_imm rfl rfl) ?_
        refine g_run rfl rfl (s_eqI rfl rfl rfl) ?_
        refine g_u (s_pick_t rfl rfl rfl) ?_
        refine g_u (s_mv_imm rfl rfl) ?_
        refine g_case (t := 33) rfl ?_
        rintro (hb4 | hb4)
        · rw [hb4]
          refine g_run rfl rfl (s_mv_imm rfl rfl) ?_
          refine g_run rfl rfl (s_eqI rfl rfl rfl) ?_
          refine g_u (s_pick_t rfl rfl rfl) ?_
          refine g_u (s_mv_imm rfl rfl) ?_
          refine g_case (t := 37) rfl ?_
          rintro (hb5 | hb5)
          · rw [hb5]
            refine g_run rfl rfl (s_build rfl tZ24 us24 pl24 rfl rfl rfl rfl) ?_
            refine g_run rfl rfl (s_call1 (check_c ⟨_, _⟩) rfl rfl) ?_
            refine g_run rfl rfl (s_eqI rfl rfl rfl) ?_
            refine g_u (s_pick_t rfl rfl rfl) ?_
            refine g_u (s_as_imm rfl rfl) ?_
            refine g_nil ?_
            refine normal_thn ?_
            refine aw_ret ?_
            exact ⟨⟨(rfl : toAV (Al.look _ _) = some _).trans (congrArg some (by rfl)), rfl⟩, trivial⟩
          · exact killT hb5 ((by kernel_rfl))
        · exact killT hb4 ((by kernel_rfl))
      · exact killT hb3 ((by kernel_rfl))
    · exact killT hb2 ((by kernel_rfl))
  · exact killT hb1 ((by kernel_rfl))

set_option maxHeartbeats 400000 in
theorem tells_c (s e : Int) : PCall Try.prog 3 [uv s, uv e] [bv true] := by
  have h1 : ((checkM ⟨s, e⟩ == 0) == rFine s e) = true := by rw [tells1]; exact beq_self_eq_true _
  have h2 : (checkM ⟨s, e⟩ == 0) = false → (checkM ⟨s, e⟩ == 11) = true := by rw [tells1]; intro h; rw [check_bad h]; rfl
  have h3 : (BegunM ⟨s, e⟩ == rBegun s e) = true := by rw [tells3]; exact beq_self_eq_true _
  have h4 : (LastsM ⟨s, e⟩ == rLasts s e) = true := by rw [tells4]; exact beq_self_eq_true _
  have h5 : ((wholeM ⟨s, e⟩).lo == rOfA (rBegun s e) (rLasts s e)) = true := by rw [(tells5 s e).1]; exact beq_self_eq_true _
  have h6 : ((wholeM ⟨s, e⟩).hi == rOfB (rBegun s e) (rLasts s e)) = true := by rw [(tells5 s e).2]; exact beq_self_eq_true _
  refine pcall_of Try.func3 rfl Try.ntmps3 (by kernel_rfl) rfl fun w0 I0 => ?_
  refine aw_seq ?_
  refine aw_region ?_
  refine g_u (s_as_imm rfl rfl) ?_
  refine g_nil ?_
  refine normal_thn ?_
  refine aw_seq ?_
  refine aw_region ?_
  refine g_u (s_mv_imm rfl rfl) ?_
  refine g_u (s_mv_imm rfl rfl) ?_
  refine g_u (s_build rfl tZ24 us24 pl24 rfl rfl rfl rfl) ?_
  refine g_uG (s_alloc' 1005 rfl rfl tZ24) rfl ?_
  refine g_u (s_store_imm rfl rfl rfl tS24 rfl rfl) ?_
  refine g_nil ?_
  refine normal_thn ?_
  refine aw_seq ?_
  refine aw_region ?_
  refine g_u (s_mv_imm rfl rfl) ?_
  refine g_u (s_mv_imm rfl rfl) ?_
  refine g_u (s_call2 (rwhole_c _ _) rfl rfl) ?_
  refine g_u (s_mv_tup rfl rfl) ?_
  refine g_u (s_extract rfl rfl rfl rfl) ?_
  refine g_u (s_extract rfl rfl rfl rfl) ?_
  refine g_u (s_as_imm rfl rfl) ?_
  refine g_u (s_as_imm rfl rfl) ?_
  refine g_nil ?_
  refine normal_thn ?_
  refine aw_seq ?_
  refine aw_region ?_
  refine g_u (s_load_agg rfl rfl rfl tA24 tS24 rfl rfl) ?_
  refine g_u (s_call1 (whole_c ⟨_, _⟩) rfl rfl) ?_
  refine g_uG (s_alloc' 1008 rfl rfl tZ24) rfl ?_
  refine g_u (s_store_imm rfl rfl rfl tS24 rfl rfl) ?_
  refine g_nil ?_
  refine normal_thn ?_
  refine aw_seq ?_
  refine aw_region ?_
  refine g_u (s_load_agg rfl rfl rfl tA24 tS24 rfl rfl) ?_
  refine g_u (s_call1 (check_c ⟨_, _⟩) rfl rfl) ?_
  refine g_u (s_eqI rfl rfl rfl) ?_
  refine g_u (s_mv_imm rfl rfl) ?_
  refine g_u (s_mv_imm rfl rfl) ?_
  refine g_u (s_call1 (rfine_c _ _) rfl rfl) ?_
  refine g_u (s_eqB rfl rfl rfl Try.underlying4) ?_
  refine g_u (s_mv_imm rfl rfl) ?_
  refine g_case (t := 27) rfl ?_
  rintro (hb1 | hb1)
  · rw [hb1]
    refine g_run rfl rfl (s_load_agg rfl rfl rfl tA24 tS24 rfl rfl) ?_
    refine g_run rfl rfl (s_call1 (check_c ⟨_, _⟩) rfl rfl) ?_
    refine g_run rfl rfl (s_eqI rfl rfl rfl) ?_
    refine g_run rfl rfl (s_mv_imm rfl rfl) ?_
    refine g_case (t := 31) rfl ?_
    rintro (hb2 | hb2)
    · rw [hb2]
      refine g_skip rfl rfl rfl ?_
      refine g_skip rfl rfl rfl ?_
      refine g_skip rfl rfl rfl ?_
      refine g_run rfl rfl (s_pick_t rfl rfl rfl) ?_
      refine g_u (s_pick_t rfl rfl rfl) ?_
      refine g_u (s_mv_imm rfl rfl) ?_
      refine g_run rfl rfl (s_load_agg rfl rfl rfl tA24 tS24 rfl rfl) ?_
      refine g_run rfl rfl (s_call1 (Begun_c ⟨_, _⟩) rfl rfl) ?_
      refine g_run rfl rfl (s_mv_imm rfl rfl) ?_
      refine g_run rfl rfl (s_mv_imm rfl rfl) ?_
      refine g_run rfl rfl (s_call1 (rbegun_c _ _) rfl rfl) ?_
      refine g_run rfl rfl (s_eqI rfl rfl rfl) ?_
      refine g_u (s_pick_t rfl rfl rfl) ?_
      refine g_u (s_mv_imm rfl rfl) ?_
      refine g_case (t := 45) rfl ?_
      rintro (hb3 | hb3)
      · rw [hb3]
        refine g_run rfl rfl (s_load_agg rfl rfl rfl tA24 tS24 rfl rfl) ?_
        refine g_run rfl rfl (s_call1 (Lasts_c ⟨_, _⟩) rfl rfl) ?_
        refine g_run rfl rfl (s_mv_imm rfl rfl) ?_
        refine g_run rfl rfl (s_mv_imm rfl rfl) ?_
        refine g_run rfl rfl (s_call1 (rlasts_c _ _) rfl rfl) ?_
        refine g_run rfl rfl (s_eqI rfl rfl rfl) ?_
        refine g_u (s_pick_t rfl rfl rfl) ?_
        refine g_u (s_mv_imm rfl rfl) ?_
        refine g_case (t := 53) rfl ?_
        rintro (hb4 | hb4)
        · rw [hb4]
          refine g_run rfl rfl (s_fieldAddr rfl rfl fa24_0 rfl) ?_
          refine g_run rfl rfl (s_load_imm rfl rfl rfl tA22 tS22 rfl rfl) ?_
          refine g_run rfl rfl (s_mv_imm rfl rfl) ?_
          refine g_run rfl rfl (s_eqI rfl rfl rfl) ?_
          refine g_u (s_pick_t rfl rfl rfl) ?_
          refine g_u (s_mv_imm rfl rfl) ?_
          refine g_case (t := 59) rfl ?_
          rintro (hb5 | hb5)
          · rw [hb5]
            refine g_run rfl rfl (s_fieldAddr rfl rfl fa24_1 rfl) ?_
            refine g_run rfl rfl (s_load_imm rfl rfl rfl tA22 tS22 rfl rfl) ?_
            refine g_run rfl rfl (s_mv_imm rfl rfl) ?_
            refine g_run rfl rfl (s_eqI rfl rfl rfl) ?_
            refine g_u (s_pick_t rfl rfl rfl) ?_
            refine g_u (s_mv_imm rfl rfl) ?_
            refine g_case (t := 65) rfl ?_
            rintro (hb6 | hb6)
            · rw [hb6]
              refine g_run rfl rfl (s_call1 (works08_c) rfl rfl) ?_
              refine g_u (s_pick_t rfl rfl rfl) ?_
              refine g_u (s_as_imm rfl rfl) ?_
              refine g_nil ?_
              refine normal_thn ?_
              refine aw_ret ?_
              exact ⟨⟨(rfl : toAV (Al.look _ _) = some _).trans (congrArg some (by rfl)), rfl⟩, trivial⟩
            · exact killT hb6 ((by first | exact h1 | exact h3 | exact h4 | exact h5 | exact h6 | exact h2 (by assumption)))
          · exact killT hb5 ((by first | exact h1 | exact h3 | exact h4 | exact h5 | exact h6 | exact h2 (by assumption)))
        · exact killT hb4 ((by first | exact h1 | exact h3 | exact h4 | exact h5 | exact h6 | exact h2 (by assumption)))
      · exact killT hb3 ((by first | exact h1 | exact h3 | exact h4 | exact h5 | exact h6 | exact h2 (by assumption)))
    · rw [hb2]
      refine g_run rfl rfl (s_load_agg rfl rfl rfl tA24 tS24 rfl rfl) ?_
      refine g_run rfl rfl (s_call1 (check_c ⟨_, _⟩) rfl rfl) ?_
      refine g_run rfl rfl (s_eqI rfl rfl rfl) ?_
      refine g_run rfl rfl (s_pick_f rfl rfl rfl) ?_
      refine g_u (s_pick_t rfl rfl rfl) ?_
      refine g_u (s_mv_imm rfl rfl) ?_
      refine g_case (t := 37) rfl ?_
      rintro (hb7 | hb7)
      · rw [hb7]
        refine g_run rfl rfl (s_load_agg rfl rfl rfl tA24 tS24 rfl rfl) ?_
        refine g_run rfl rfl (s_call1 (Begun_c ⟨_, _⟩) rfl rfl) ?_
        refine g_run rfl rfl (s_mv_imm rfl rfl) ?_
        refine g_run rfl rfl (s_mv_imm rfl rfl) ?_
        refine g_run rfl rfl (s_call1 (rbegun_c _ _) rfl rfl) ?_
        refine g_run rfl rfl (s_eqI rfl rfl rfl) ?_
        refine g_u (s_pick_t rfl rfl rfl) ?_
        refine g_u (s_mv_imm rfl rfl) ?_
        refine g_case (t := 45) rfl ?_
        rintro (hb8 | hb8)
        · rw [hb8]
          refine g_run rfl rfl (s_load_agg rfl rfl rfl tA24 tS24 rfl rfl) ?_
          refine g_run rfl rfl (s_call1 (Lasts_c ⟨_, _⟩) rfl rfl) ?_
          refine g_run rfl rfl (s_mv_imm rfl rfl) ?_
          refine g_run rfl rfl (s_mv_imm rfl rfl) ?_
          refine g_run rfl rfl (s_call1 (rlasts_c _ _) rfl rfl) ?_
          refine g_run rfl rfl (s_eqI rfl rfl rfl) ?_
          refine g_u (s_pick_t rfl rfl rfl) ?_
          refine g_u (s_mv_imm rfl rfl) ?_
          refine g_case (t := 53) rfl ?_
          rintro (hb9 | hb9)
          · rw [hb9]
            refine g_run rfl rfl (s_fieldAddr rfl rfl fa24_0 rfl) ?_
            refine g_run rfl rfl (s_load_imm rfl rfl rfl tA22 tS22 rfl rfl) ?_
            refine g_run rfl rfl (s_mv_imm rfl rfl) ?_
            refine g_run rfl rfl (s_eqI rfl rfl rfl) ?_
            refine g_u (s_pick_t rfl rfl rfl) ?_
            refine g_u (s_mv_imm rfl rfl) ?_
            refine g_case (t := 59) rfl ?_
            rintro (hb10 | hb10)
            · rw [hb10]
              refine g_run rfl rfl (s_fieldAddr rfl rfl fa24_1 rfl) ?_
              refine g_run rfl rfl (s_load_imm rfl rfl rfl tA22 tS22 rfl rfl) ?_
              refine g_run rfl rfl (s_mv_imm rfl rfl) ?_
              refine g_run rfl rfl (s_eqI rfl rfl rfl) ?_
              refine g_u (s_pick_t rfl rfl rfl) ?_
              refine g_u (s_mv_imm rfl rfl) ?_
              refine g_case (t := 65) rfl ?_
              rintro (hb11 | hb11)
              · rw [hb11]
                refine g_run rfl rfl (s_call1 (works08_c) rfl rfl) ?_
                refine g_u (s_pick_t rfl rfl rfl) ?_
                refine g_u (s_as_imm rfl rfl) ?_
                refine g_nil ?_
                refine normal_thn ?_
                refine aw_ret ?_
                exact ⟨⟨(rfl : toAV (Al.look _ _) = some _).trans (congrArg some (by rfl)), rfl⟩, trivial⟩
              · exact killT hb11 ((by first | exact h1 | exact h3 | exact h4 | exact h5 | exact h6 | exact h2 (by assumption)))
            · exact killT hb10 ((by first | exact h1 | exact h3 | exact h4 | exact h5 | exact h6 | exact h2 (by assumption)))
          · exact killT hb9 ((by first | exact h1 | exact h3 | exact h4 | exact h5 | exact h6 | exact h2 (by assumption)))
        · exact killT hb8 ((by first | exact h1 | exact h3 | exact h4 | exact h5 | exact h6 | exact h2 (by assumption)))
      · exact killT hb7 ((by first | exact h1 | exact h3 | exact h4 | exact h5 | exact h6 | exact h2 (by assumption)))
  · exact killT hb1 ((by first | exact h1 | exact h3 | exact h4 | exact h5 | exact h6 | exact h2 (by assumption)))

set_option maxHeartbeats 400000 in
theorem whole_law_c (s e : Int) (s0 : 0 ≤ s) (e0 : 0 ≤ e) (s1 : s < 18446744073709551616) (e1 : e < 18446744073709551616) : PCall Try.prog 4 [uv s, uv e] [bv true] := by
  have F := whole_facts s e s0 e0 s1 e1
  refine pcall_of Try.func4 rfl Try.ntmps4 (by kernel_rfl) rfl fun w0 I0 => ?_
  refine aw_seq ?_
  refine aw_region ?_
  refine g_u (s_as_imm rfl rfl) ?_
  refine g_nil ?_
  refine normal_thn ?_
  refine aw_seq ?_
  refine aw_region ?_
  refine g_u (s_mv_imm rfl rfl) ?_
  refine g_u (s_mv_imm rfl rfl) ?_
  refine g_u (s_build rfl tZ24 us24 pl24 rfl rfl rfl rfl) ?_
  refine g_uG (s_alloc' 1005 rfl rfl tZ24) rfl ?_
  refine g_u (s_store_imm rfl rfl rfl tS24 rfl rfl) ?_
  refine g_nil ?_
  refine normal_thn ?_
  refine aw_seq ?_
  refine aw_seq ?_
  refine aw_region ?_
  refine g_u (s_mv_imm rfl rfl) ?_
  refine g_u (s_mv_imm rfl rfl) ?_
  refine g_u (s_call1 (rfine_c _ _) rfl rfl) ?_
  refine g_u (s_not rfl rfl) ?_
  refine g_nil ?_
  refine normal_thn ?_
  refine aw_cond rfl (fun hb1 => ?_) (fun hb1 => ?_)
  · skip
    refine aw_seq ?_
    refine aw_region ?_
    refine g_u (s_load_agg rfl rfl rfl tA24 tS24 rfl rfl) ?_
    refine g_u (s_call1 (whole_c ⟨_, _⟩) rfl rfl) ?_
    refine g_u (s_build rfl tZ24 us24 pl24 rfl rfl rfl rfl) ?_
    refine g_u (s_eqA rfl rfl rfl eg24 rfl rfl (eq24 ⟨_, _⟩ ⟨_, _⟩)) ?_
    refine g_u (s_mv_imm rfl rfl) ?_
    refine g_case (t := 18) rfl ?_
    rintro (hb2 | hb2)
    · rw [hb2]
      refine g_run rfl rfl (s_call1 (works08_c) rfl rfl) ?_
      refine g_u (s_pick_t rfl rfl rfl) ?_
      refine g_u (s_as_imm rfl rfl) ?_
      refine g_nil ?_
      refine normal_thn ?_
      refine aw_ret ?_
      refine ret_thn ?_
      exact ⟨⟨(rfl : toAV (Al.look _ _) = some _).trans (congrArg some (by (first | rfl | (exfalso; rcases F with ⟨F1, F2⟩ | ⟨F1, A, B, F2, F3, F4, F5, F6, F7, F8, F9, F10⟩ <;> simp_all <;> omega)))), rfl⟩, trivial⟩
    · rw [hb2]
      refine g_skip rfl rfl rfl ?_
      refine g_u (s_pick_f rfl rfl rfl) ?_
      refine g_u (s_as_imm rfl rfl) ?_
      refine g_nil ?_
      refine normal_thn ?_
      refine aw_ret ?_
      refine ret_thn ?_
      exact ⟨⟨(rfl : toAV (Al.look _ _) = some _).trans (congrArg some (by (first | rfl | (exfalso; rcases F with ⟨F1, F2⟩ | ⟨F1, A, B, F2, F3, F4, F5, F6, F7, F8, F9, F10⟩ <;> simp_all <;> omega)))), rfl⟩, trivial⟩
  · skip
    refine aw_skip ?_
    refine normal_thn ?_
    refine aw_seq ?_
    refine aw_region ?_
    refine g_u (s_load_agg rfl rfl rfl tA24 tS24 rfl rfl) ?_
    refine g_u (s_call1 (whole_c ⟨_, _⟩) rfl rfl) ?_
    refine g_uG (s_alloc' 1006 rfl rfl tZ24) rfl ?_
    refine g_u (s_store_imm rfl rfl rfl tS24 rfl rfl) ?_
    refine g_nil ?_
    refine normal_thn ?_
    refine aw_seq ?_
    refine aw_seq ?_
    refine aw_draw mixed ?_
    refine g_u (s_load_agg rfl rfl rfl tA24 tS24 rfl rfl) ?_
    refine g_u (s_call1 (check_c ⟨_, _⟩) rfl rfl) ?_
    refine g_u (s_neI rfl rfl rfl) ?_
    refine g_u (s_mv_imm rfl rfl) ?_
    refine g_case (t := 26) rfl ?_
    rintro (hb3 | hb3)
    · rw [hb3]
      refine g_skip rfl rfl rfl ?_
      refine g_skip rfl rfl rfl ?_
      refine g_skip rfl rfl rfl ?_
      refine g_skip rfl rfl rfl ?_
      refine g_u (s_pick_t rfl rfl rfl) ?_
      refine g_u (s_mv_imm rfl rfl) ?_
      refine g_skip rfl rfl rfl ?_
      refine g_skip rfl rfl rfl ?_
      refine g_skip rfl rfl rfl ?_
      refine g_skip rfl rfl rfl ?_
      refine g_skip rfl rfl rfl ?_
      refine g_u (s_pick_t rfl rfl rfl) ?_
      refine g_u (s_mv_imm rfl rfl) ?_
      refine g_skip rfl rfl rfl ?_
      refine g_skip rfl rfl rfl ?_
      refine g_skip rfl rfl rfl ?_
      refine g_skip rfl rfl rfl ?_
      refine g_skip rfl rfl rfl ?_
      refine g_u (s_pick_t rfl rfl rfl) ?_
      refine g_u (s_mv_imm rfl rfl) ?_
      refine g_skip rfl rfl rfl ?_
      refine g_skip rfl rfl rfl ?_
      refine g_skip rfl rfl rfl ?_
      refine g_skip rfl rfl rfl ?_
      refine g_u (s_pick_t rfl rfl rfl) ?_
      refine g_u (s_mv_imm rfl rfl) ?_
      refine g_skip rfl rfl rfl ?_
      refine g_skip rfl rfl rfl ?_
      refine g_skip rfl rfl rfl ?_
      refine g_skip rfl rfl rfl ?_
      refine g_u (s_pick_t rfl rfl rfl) ?_
      refine g_nil ⟨by kernel_rfl, ?_⟩
      refine normal_thn ?_
      refine aw_cond_true rfl ?_
      refine aw_seq ?_
      refine aw_region ?_
      refine g_u (s_as_imm rfl rfl) ?_
      refine g_nil ?_
      refine normal_thn ?_
      refine aw_ret ?_
      refine ret_thn ?_
      exact ⟨⟨(rfl : toAV (Al.look _ _) = some _).trans (congrArg some (by (first | rfl | (exfalso; rcases F with ⟨F1, F2⟩ | ⟨F1, A, B, F2, F3, F4, F5, F6, F7, F8, F9, F10⟩ <;> simp_all <;> omega)))), rfl⟩, trivial⟩
    · rw [hb3]
      refine g_run rfl rfl (s_load_agg rfl rfl rfl tA24 tS24 rfl rfl) ?_
      refine g_run rfl rfl (s_call1 (whole_c ⟨_, _⟩) rfl rfl) ?_
      refine g_run rfl rfl (s_load_agg rfl rfl rfl tA24 tS24 rfl rfl) ?_
      refine g_run rfl rfl (s_neA rfl rfl rfl eg24 rfl rfl (eq24 ⟨_, _⟩ ⟨_, _⟩)) ?_
      refine g_u (s_pick_f rfl rfl rfl) ?_
      refine g_u (s_mv_imm rfl rfl) ?_
      refine g_case (t := 32) rfl ?_
      rintro (hb4 | hb4)
      · rw [hb4]
        refine g_skip rfl rfl rfl ?_
        refine g_skip rfl rfl rfl ?_
        refine g_skip rfl rfl rfl ?_
        refine g_skip rfl rfl rfl ?_
        refine g_skip rfl rfl rfl ?_
        refine g_u (s_pick_t rfl rfl rfl) ?_
        refine g_u (s_mv_imm rfl rfl) ?_
        refine g_skip rfl rfl rfl ?_
        refine g_skip rfl rfl rfl ?_
        refine g_skip rfl rfl rfl ?_
        refine g_skip rfl rfl rfl ?_
        refine g_skip rfl rfl rfl ?_
        refine g_u (s_pick_t rfl rfl rfl) ?_
        refine g_u (s_mv_imm rfl rfl) ?_
        refine g_skip rfl rfl rfl ?_
        refine g_skip rfl rfl rfl ?_
        refine g_skip rfl rfl rfl ?_
        refine g_skip rfl rfl rfl ?_
        refine g_u (s_pick_t rfl rfl rfl) ?_
        refine g_u (s_mv_imm rfl rfl) ?_
        refine g_skip rfl rfl rfl ?_
        refine g_skip rfl rfl rfl ?_
        refine g_skip rfl rfl rfl ?_
        refine g_skip rfl rfl rfl ?_
        refine g_u (s_pick_t rfl rfl rfl) ?_
        refine g_nil ⟨by kernel_rfl, ?_⟩
        refine normal_thn ?_
        refine aw_cond_true rfl ?_
        refine aw_seq ?_
        refine aw_region ?_
        refine g_u (s_as_imm rfl rfl) ?_
        refine g_nil ?_
        refine normal_thn ?_
        refine aw_ret ?_
        refine ret_thn ?_
        exact ⟨⟨(rfl : toAV (Al.look _ _) = some _).trans (congrArg some (by (first | rfl | (exfalso; rcases F with ⟨F1, F2⟩ | ⟨F1, A, B, F2, F3, F4, F5, F6, F7, F8, F9, F10⟩ <;> simp_all <;> omega)))), rfl⟩, trivial⟩
      · rw [hb4]
        refine g_run rfl rfl (s_load_agg rfl rfl rfl tA24 tS24 rfl rfl) ?_
        refine g_run rfl rfl (s_call1 (Begun_c ⟨_, _⟩) rfl rfl) ?_
        refine g_run rfl rfl (s_load_agg rfl rfl rfl tA24 tS24 rfl rfl) ?_
        refine g_run rfl rfl (s_call1 (Begun_c ⟨_, _⟩) rfl rfl) ?_
        refine g_run rfl rfl (s_neI rfl rfl rfl) ?_
        refine g_u (s_pick_f rfl rfl rfl) ?_
        refine g_u (s_mv_imm rfl rfl) ?_
        refine g_case (t := 39) rfl ?_
        rintro (hb5 | hb5)
        · rw [hb5]
          refine g_skip rfl rfl rfl ?_
          refine g_skip rfl rfl rfl ?_
          refine g_skip rfl rfl rfl ?_
          refine g_skip rfl rfl rfl ?_
          refine g_skip rfl rfl rfl ?_
          refine g_u (s_pick_t rfl rfl rfl) ?_
          refine g_u (s_mv_imm rfl rfl) ?_
          refine g_skip rfl rfl rfl ?_
          refine g_skip rfl rfl rfl ?_
          refine g_skip rfl rfl rfl ?_
          refine g_skip rfl rfl rfl ?_
          refine g_u (s_pick_t rfl rfl rfl) ?_
          refine g_u (s_mv_imm rfl rfl) ?_
          refine g_skip rfl rfl rfl ?_
          refine g_skip rfl rfl rfl ?_
          refine g_skip rfl rfl rfl ?_
          refine g_skip rfl rfl rfl ?_
          refine g_u (s_pick_t rfl rfl rfl) ?_
          refine g_nil ⟨by kernel_rfl, ?_⟩
          refine normal_thn ?_
          refine aw_cond_true rfl ?_
          refine aw_seq ?_
          refine aw_region ?_
          refine g_u (s_as_imm rfl rfl) ?_
          refine g_nil ?_
          refine normal_thn ?_
          refine aw_ret ?_
          refine ret_thn ?_
          exact ⟨⟨(rfl : toAV (Al.look _ _) = some _).trans (congrArg some (by (first | rfl | (exfalso; rcases F with ⟨F1, F2⟩ | ⟨F1, A, B, F2, F3, F4, F5, F6, F7, F8, F9, F10⟩ <;> simp_all <;> omega)))), rfl⟩, trivial⟩
        · rw [hb5]
          refine g_run rfl rfl (s_load_agg rfl rfl rfl tA24 tS24 rfl rfl) ?_
          refine g_run rfl rfl (s_call1 (Lasts_c ⟨_, _⟩) rfl rfl) ?_
          refine g_run rfl rfl (s_load_agg rfl rfl rfl tA24 tS24 rfl rfl) ?_
          refine g_run rfl rfl (s_call1 (Lasts_c ⟨_, _⟩) rfl rfl) ?_
          refine g_run rfl rfl (s_neI rfl rfl rfl) ?_
          refine g_u (s_pick_f rfl rfl rfl) ?_
          refine g_u (s_mv_imm rfl rfl) ?_
          refine g_case (t := 46) rfl ?_
          rintro (hb6 | hb6)
          · rw [hb6]
            refine g_skip rfl rfl rfl ?_
            refine g_skip rfl rfl rfl ?_
            refine g_skip rfl rfl rfl ?_
            refine g_skip rfl rfl rfl ?_
            refine g_u (s_pick_t rfl rfl rfl) ?_
            refine g_u (s_mv_imm rfl rfl) ?_
            refine g_skip rfl rfl rfl ?_
            refine g_skip rfl rfl rfl ?_
            refine g_skip rfl rfl rfl ?_
            refine g_skip rfl rfl rfl ?_
            refine g_u (s_pick_t rfl rfl rfl) ?_
            refine g_nil ⟨by kernel_rfl, ?_⟩
            refine normal_thn ?_
            refine aw_cond_true rfl ?_
            refine aw_seq ?_
            refine aw_region ?_
            refine g_u (s_as_imm rfl rfl) ?_
            refine g_nil ?_
            refine normal_thn ?_
            refine aw_ret ?_
            refine ret_thn ?_
            exact ⟨⟨(rfl : toAV (Al.look _ _) = some _).trans (congrArg some (by (first | rfl | (exfalso; rcases F with ⟨F1, F2⟩ | ⟨F1, A, B, F2, F3, F4, F5, F6, F7, F8, F9, F10⟩ <;> simp_all <;> omega)))), rfl⟩, trivial⟩
          · rw [hb6]
            refine g_run rfl rfl (s_fieldAddr rfl rfl fa24_0 rfl) ?_
            refine g_run rfl rfl (s_load_imm rfl rfl rfl tA22 tS22 rfl rfl) ?_
            refine g_run rfl rfl (s_mv_imm rfl rfl) ?_
            refine g_run rfl rfl (s_gtI rfl rfl rfl) ?_
            refine g_u (s_pick_f rfl rfl rfl) ?_
            refine g_u (s_mv_imm rfl rfl) ?_
            refine g_case (t := 52) rfl ?_
            rintro (hb7 | hb7)
            · rw [hb7]
              refine g_skip rfl rfl rfl ?_
              refine g_skip rfl rfl rfl ?_
              refine g_skip rfl rfl rfl ?_
              refine g_skip rfl rfl rfl ?_
              refine g_u (s_pick_t rfl rfl rfl) ?_
              refine g_nil ⟨by kernel_rfl, ?_⟩
              refine normal_thn ?_
              refine aw_cond_true rfl ?_
              refine aw_seq ?_
              refine aw_region ?_
              refine g_u (s_as_imm rfl rfl) ?_
              refine g_nil ?_
              refine normal_thn ?_
              refine aw_ret ?_
              refine ret_thn ?_
              exact ⟨⟨(rfl : toAV (Al.look _ _) = some _).trans (congrArg some (by (first | rfl | (exfalso; rcases F with ⟨F1, F2⟩ | ⟨F1, A, B, F2, F3, F4, F5, F6, F7, F8, F9, F10⟩ <;> simp_all <;> omega)))), rfl⟩, trivial⟩
            · rw [hb7]
              refine g_run rfl rfl (s_fieldAddr rfl rfl fa24_1 rfl) ?_
              refine g_run rfl rfl (s_load_imm rfl rfl rfl tA22 tS22 rfl rfl) ?_
              refine g_run rfl rfl (s_mv_imm rfl rfl) ?_
              refine g_run rfl rfl (s_gtI rfl rfl rfl) ?_
              refine g_u (s_pick_f rfl rfl rfl) ?_
              refine g_nil ⟨by kernel_rfl, ?_⟩
              refine normal_thn ?_
              refine aw_cond rfl (fun hb8 => ?_) (fun hb8 => ?_)
              · skip
                refine aw_seq ?_
                refine aw_region ?_
                refine g_u (s_as_imm rfl rfl) ?_
                refine g_nil ?_
                refine normal_thn ?_
                refine aw_ret ?_
                refine ret_thn ?_
                exact ⟨⟨(rfl : toAV (Al.look _ _) = some _).trans (congrArg some (by (first | rfl | (exfalso; rcases F with ⟨F1, F2⟩ | ⟨F1, A, B, F2, F3, F4, F5, F6, F7, F8, F9, F10⟩ <;> simp_all <;> omega)))), rfl⟩, trivial⟩
              · skip
                refine aw_skip ?_
                refine normal_thn ?_
                refine aw_seq ?_
                refine aw_region ?_
                refine g_u (s_mv_imm rfl rfl) ?_
                refine g_u (s_fieldAddr rfl rfl fa24_0 rfl) ?_
                refine g_u (s_load_imm rfl rfl rfl tA22 tS22 rfl rfl) ?_
                refine g_u (s_sub rfl rfl rfl) ?_
                refine g_u (s_ltI rfl rfl rfl) ?_
                refine g_u (s_mv_imm rfl rfl) ?_
                refine g_case (t := 63) rfl ?_
                rintro (hb9 | hb9)
                · rw [hb9]
                  refine g_run rfl rfl (s_mv_imm rfl rfl) ?_
                  refine g_run rfl rfl (s_mv_imm rfl rfl) ?_
                  refine g_run rfl rfl (s_sub rfl rfl rfl) ?_
                  refine g_run rfl rfl (s_fieldAddr rfl rfl fa24_1 rfl) ?_
                  refine g_run rfl rfl (s_load_imm rfl rfl rfl tA22 tS22 rfl rfl) ?_
                  refine g_run rfl rfl (s_fieldAddr rfl rfl fa24_0 rfl) ?_
                  refine g_run rfl rfl (s_load_imm rfl rfl rfl tA22 tS22 rfl rfl) ?_
                  refine g_run rfl rfl (s_sub rfl rfl rfl) ?_
                  refine g_run rfl rfl (s_sub rfl rfl rfl) ?_
                  refine g_run rfl rfl (s_ltI rfl rfl rfl) ?_
                  refine g_u (s_pick_t rfl rfl rfl) ?_
                  refine g_u (s_mv_imm rfl rfl) ?_
                  refine g_case (t := 75) rfl ?_
                  rintro (hb10 | hb10)
                  · rw [hb10]
                    refine g_run rfl rfl (s_call1 (works08_c) rfl rfl) ?_
                    refine g_u (s_pick_t rfl rfl rfl) ?_
                    refine g_u (s_as_imm rfl rfl) ?_
                    refine g_nil ?_
                    refine normal_thn ?_
                    refine aw_ret ?_
                    exact ⟨⟨(rfl : toAV (Al.look _ _) = some _).trans (congrArg some (by (first | rfl | (exfalso; rcases F with ⟨F1, F2⟩ | ⟨F1, A, B, F2, F3, F4, F5, F6, F7, F8, F9, F10⟩ <;> simp_all <;> omega)))), rfl⟩, trivial⟩
                  · rw [hb10]
                    refine g_skip rfl rfl rfl ?_
                    refine g_u (s_pick_f rfl rfl rfl) ?_
                    refine g_u (s_as_imm rfl rfl) ?_
                    refine g_nil ?_
                    refine normal_thn ?_
                    refine aw_ret ?_
                    exact ⟨⟨(rfl : toAV (Al.look _ _) = some _).trans (congrArg some (by (first | rfl | (exfalso; rcases F with ⟨F1, F2⟩ | ⟨F1, A, B, F2, F3, F4, F5, F6, F7, F8, F9, F10⟩ <;> simp_all <;> omega)))), rfl⟩, trivial⟩
                · rw [hb9]
                  refine g_skip rfl rfl rfl ?_
                  refine g_skip rfl rfl rfl ?_
                  refine g_skip rfl rfl rfl ?_
                  refine g_skip rfl rfl rfl ?_
                  refine g_skip rfl rfl rfl ?_
                  refine g_skip rfl rfl rfl ?_
                  refine g_skip rfl rfl rfl ?_
                  refine g_skip rfl rfl rfl ?_
                  refine g_skip rfl rfl rfl ?_
                  refine g_skip rfl rfl rfl ?_
                  refine g_u (s_pick_f rfl rfl rfl) ?_
                  refine g_u (s_mv_imm rfl rfl) ?_
                  refine g_skip rfl rfl rfl ?_
                  refine g_u (s_pick_f rfl rfl rfl) ?_
                  refine g_u (s_as_imm rfl rfl) ?_
                  refine g_nil ?_
                  refine normal_thn ?_
                  refine aw_ret ?_
                  exact ⟨⟨(rfl : toAV (Al.look _ _) = some _).trans (congrArg some (by (first | rfl | (exfalso; rcases F with ⟨F1, F2⟩ | ⟨F1, A, B, F2, F3, F4, F5, F6, F7, F8, F9, F10⟩ <;> simp_all <;> omega)))), rfl⟩, trivial⟩

set_option maxHeartbeats 400000 in
theorem of_law_c (b l n : Int) (b0 : -9223372036854775808 ≤ b) (b1 : b < 9223372036854775808) (l0 : -9223372036854775808 ≤ l) (l1 : l < 9223372036854775808) : PCall Try.prog 5 [iv b, iv l, uv n] [bv true] := by
  obtain ⟨F1, F2, F3, F4, F5⟩ := of_facts b l b0 b1 l0 l1
  refine pcall_of Try.func5 rfl Try.ntmps5 (by kernel_rfl) rfl fun w0 I0 => ?_
  refine aw_seq ?_
  refine aw_region ?_
  refine g_u (s_as_imm rfl rfl) ?_
  refine g_nil ?_
  refine normal_thn ?_
  refine aw_seq ?_
  refine aw_region ?_
  refine g_u (s_mv_imm rfl rfl) ?_
  refine g_u (s_mv_imm rfl rfl) ?_
  refine g_u (s_call2 (of_c _ _) rfl rfl) ?_
  refine g_u (s_mv_tup rfl rfl) ?_
  refine g_u (s_extract rfl rfl rfl rfl) ?_
  refine g_u (s_extract rfl rfl rfl rfl) ?_
  refine g_uG (s_alloc' 1007 rfl rfl tZ24) rfl ?_
  refine g_u (s_store_imm rfl rfl rfl tS24 rfl rfl) ?_
  refine g_u (s_as_imm rfl rfl) ?_
  refine g_nil ?_
  refine normal_thn ?_
  refine aw_seq ?_
  refine aw_region ?_
  refine g_u (s_mv_imm rfl rfl) ?_
  refine g_u (s_mv_imm rfl rfl) ?_
  refine g_u (s_call3 (rof_c _ _) rfl rfl) ?_
  refine g_u (s_mv_tup rfl rfl) ?_
  refine g_u (s_extract rfl rfl rfl rfl) ?_
  refine g_u (s_extract rfl rfl rfl rfl) ?_
  refine g_u (s_extract rfl rfl rfl rfl) ?_
  refine g_u (s_as_imm rfl rfl) ?_
  refine g_u (s_as_imm rfl rfl) ?_
  refine g_u (s_as_imm rfl rfl) ?_
  refine g_nil ?_
  refine normal_thn ?_
  refine aw_seq ?_
  refine aw_region ?_
  refine g_u (s_mv_imm rfl rfl) ?_
  refine g_u (s_call2 (nano_c _) rfl rfl) ?_
  refine g_u (s_mv_tup rfl rfl) ?_
  refine g_u (s_extract rfl rfl rfl rfl) ?_
  refine g_u (s_extract rfl rfl rfl rfl) ?_
  refine g_u (s_as_imm rfl rfl) ?_
  refine g_u (s_as_imm rfl rfl) ?_
  refine g_nil ?_
  refine normal_thn ?_
  refine aw_seq ?_
  refine aw_region ?_
  refine g_u (s_mv_imm rfl rfl) ?_
  refine g_u (s_call2 (rnano_c _) rfl rfl) ?_
  refine g_u (s_mv_tup rfl rfl) ?_
  refine g_u (s_extract rfl rfl rfl rfl) ?_
  refine g_u (s_extract rfl rfl rfl rfl) ?_
  refine g_u (s_as_imm rfl rfl) ?_
  refine g_u (s_as_imm rfl rfl) ?_
  refine g_nil ?_
  refine normal_thn ?_
  refine aw_seq ?_
  refine aw_seq ?_
  refine aw_region ?_
  refine g_u (s_fieldAddr rfl rfl fa24_0 rfl) ?_
  refine g_u (s_load_imm rfl rfl rfl tA22 tS22 rfl rfl) ?_
  refine g_u (s_mv_imm rfl rfl) ?_
  refine g_u (s_neI rfl rfl rfl) ?_
  refine g_u (s_mv_imm rfl rfl) ?_
  refine g_case (t := 43) rfl ?_
  rintro (hb1 | hb1)
  · rw [hb1]
    refine g_skip rfl rfl rfl ?_
    refine g_skip rfl rfl rfl ?_
    refine g_skip rfl rfl rfl ?_
    refine g_skip rfl rfl rfl ?_
    refine g_u (s_pick_t rfl rfl rfl) ?_
    refine g_u (s_mv_imm rfl rfl) ?_
    refine g_skip rfl rfl rfl ?_
    refine g_skip rfl rfl rfl ?_
    refine g_skip rfl rfl rfl ?_
    refine g_u (s_pick_t rfl rfl rfl) ?_
    refine g_u (s_mv_imm rfl rfl) ?_
    refine g_skip rfl rfl rfl ?_
    refine g_skip rfl rfl rfl ?_
    refine g_skip rfl rfl rfl ?_
    refine g_u (s_pick_t rfl rfl rfl) ?_
    refine g_u (s_mv_imm rfl rfl) ?_
    refine g_skip rfl rfl rfl ?_
    refine g_skip rfl rfl rfl ?_
    refine g_skip rfl rfl rfl ?_
    refine g_u (s_pick_t rfl rfl rfl) ?_
    refine g_u (s_mv_imm rfl rfl) ?_
    refine g_skip rfl rfl rfl ?_
    refine g_skip rfl rfl rfl ?_
    refine g_skip rfl rfl rfl ?_
    refine g_skip rfl rfl rfl ?_
    refine g_skip rfl rfl rfl ?_
    refine g_u (s_pick_t rfl rfl rfl) ?_
    refine g_nil ?_
    refine normal_thn ?_
    refine aw_cond_true rfl ?_
    refine aw_seq ?_
    refine aw_region ?_
    refine g_u (s_as_imm rfl rfl) ?_
    refine g_nil ?_
    refine normal_thn ?_
    refine aw_ret ?_
    refine ret_thn ?_
    exact ⟨⟨(rfl : toAV (Al.look _ _) = some _).trans (congrArg some (by (first | rfl | (exfalso; simp_all; done) | (exfalso; simp only [beq_iff_eq, bne_iff_ne, ne_eq, beq_eq_false_iff_ne, bne_eq_false_iff_eq, Decidable.not_not] at *; first | (exact absurd (F5 (by assumption)).1 (by assumption)) | (exact absurd (F5 (by assumption)).2.1 (by assumption)) | (exact absurd (F5 (by assumption)).2.2 (by assumption)))))), rfl⟩, trivial⟩
  · rw [hb1]
    refine g_run rfl rfl (s_fieldAddr rfl rfl fa24_1 rfl) ?_
    refine g_run rfl rfl (s_load_imm rfl rfl rfl tA22 tS22 rfl rfl) ?_
    refine g_run rfl rfl (s_mv_imm rfl rfl) ?_
    refine g_run rfl rfl (s_neI rfl rfl rfl) ?_
    refine g_u (s_pick_f rfl rfl rfl) ?_
    refine g_u (s_mv_imm rfl rfl) ?_
    refine g_case (t := 49) rfl ?_
    rintro (hb2 | hb2)
    · rw [hb2]
      refine g_skip rfl rfl rfl ?_
      refine g_skip rfl rfl rfl ?_
      refine g_skip rfl rfl rfl ?_
      refine g_u (s_pick_t rfl rfl rfl) ?_
      refine g_u (s_mv_imm rfl rfl) ?_
      refine g_skip rfl rfl rfl ?_
      refine g_skip rfl rfl rfl ?_
      refine g_skip rfl rfl rfl ?_
      refine g_u (s_pick_t rfl rfl rfl) ?_
      refine g_u (s_mv_imm rfl rfl) ?_
      refine g_skip rfl rfl rfl ?_
      refine g_skip rfl rfl rfl ?_
      refine g_skip rfl rfl rfl ?_
      refine g_u (s_pick_t rfl rfl rfl) ?_
      refine g_u (s_mv_imm rfl rfl) ?_
      refine g_skip rfl rfl rfl ?_
      refine g_skip rfl rfl rfl ?_
      refine g_skip rfl rfl rfl ?_
      refine g_skip rfl rfl rfl ?_
      refine g_skip rfl rfl rfl ?_
      refine g_u (s_pick_t rfl rfl rfl) ?_
      refine g_nil ?_
      refine normal_thn ?_
      refine aw_cond_true rfl ?_
      refine aw_seq ?_
      refine aw_region ?_
      refine g_u (s_as_imm rfl rfl) ?_
      refine g_nil ?_
      refine normal_thn ?_
      refine aw_ret ?_
      refine ret_thn ?_
      exact ⟨⟨(rfl : toAV (Al.look _ _) = some _).trans (congrArg some (by (first | rfl | (exfalso; simp_all; done) | (exfalso; simp only [beq_iff_eq, bne_iff_ne, ne_eq, beq_eq_false_iff_ne, bne_eq_false_iff_eq, Decidable.not_not] at *; first | (exact absurd (F5 (by assumption)).1 (by assumption)) | (exact absurd (F5 (by assumption)).2.1 (by assumption)) | (exact absurd (F5 (by assumption)).2.2 (by assumption)))))), rfl⟩, trivial⟩
    · rw [hb2]
      refine g_run rfl rfl (s_mv_imm rfl rfl) ?_
      refine g_run rfl rfl (s_mv_imm rfl rfl) ?_
      refine g_run rfl rfl (s_neI rfl rfl rfl) ?_
      refine g_u (s_pick_f rfl rfl rfl) ?_
      refine g_u (s_mv_imm rfl rfl) ?_
      refine g_case (t := 54) rfl ?_
      rintro (hb3 | hb3)
      · rw [hb3]
        refine g_skip rfl rfl rfl ?_
        refine g_skip rfl rfl rfl ?_
        refine g_skip rfl rfl rfl ?_
        refine g_u (s_pick_t rfl rfl rfl) ?_
        refine g_u (s_mv_imm rfl rfl) ?_
        refine g_skip rfl rfl rfl ?_
        refine g_skip rfl rfl rfl ?_
        refine g_skip rfl rfl rfl ?_
        refine g_u (s_pick_t rfl rfl rfl) ?_
        refine g_u (s_mv_imm rfl rfl) ?_
        refine g_skip rfl rfl rfl ?_
        refine g_skip rfl rfl rfl ?_
        refine g_skip rfl rfl rfl ?_
        refine g_skip rfl rfl rfl ?_
        refine g_skip rfl rfl rfl ?_
        refine g_u (s_pick_t rfl rfl rfl) ?_
        refine g_nil ?_
        refine normal_thn ?_
        refine aw_cond_true rfl ?_
        refine aw_seq ?_
        refine aw_region ?_
        refine g_u (s_as_imm rfl rfl) ?_
        refine g_nil ?_
        refine normal_thn ?_
        refine aw_ret ?_
        refine ret_thn ?_
        exact ⟨⟨(rfl : toAV (Al.look _ _) = some _).trans (congrArg some (by (first | rfl | (exfalso; simp_all; done) | (exfalso; simp only [beq_iff_eq, bne_iff_ne, ne_eq, beq_eq_false_iff_ne, bne_eq_false_iff_eq, Decidable.not_not] at *; first | (exact absurd (F5 (by assumption)).1 (by assumption)) | (exact absurd (F5 (by assumption)).2.1 (by assumption)) | (exact absurd (F5 (by assumption)).2.2 (by assumption)))))), rfl⟩, trivial⟩
      · rw [hb3]
        refine g_run rfl rfl (s_mv_imm rfl rfl) ?_
        refine g_run rfl rfl (s_mv_imm rfl rfl) ?_
        refine g_run rfl rfl (s_neI rfl rfl rfl) ?_
        refine g_u (s_pick_f rfl rfl rfl) ?_
        refine g_u (s_mv_imm rfl rfl) ?_
        refine g_case (t := 59) rfl ?_
        rintro (hb4 | hb4)
        · rw [hb4]
          refine g_skip rfl rfl rfl ?_
          refine g_skip rfl rfl rfl ?_
          refine g_skip rfl rfl rfl ?_
          refine g_u (s_pick_t rfl rfl rfl) ?_
          refine g_u (s_mv_imm rfl rfl) ?_
          refine g_skip rfl rfl rfl ?_
          refine g_skip rfl rfl rfl ?_
          refine g_skip rfl rfl rfl ?_
          refine g_skip rfl rfl rfl ?_
          refine g_skip rfl rfl rfl ?_
          refine g_u (s_pick_t rfl rfl rfl) ?_
          refine g_nil ?_
          refine normal_thn ?_
          refine aw_cond_true rfl ?_
          refine aw_seq ?_
          refine aw_region ?_
          refine g_u (s_as_imm rfl rfl) ?_
          refine g_nil ?_
          refine normal_thn ?_
          refine aw_ret ?_
          refine ret_thn ?_
          exact ⟨⟨(rfl : toAV (Al.look _ _) = some _).trans (congrArg some (by (first | rfl | (exfalso; simp_all; done) | (exfalso; simp only [beq_iff_eq, bne_iff_ne, ne_eq, beq_eq_false_iff_ne, bne_eq_false_iff_eq, Decidable.not_not] at *; first | (exact absurd (F5 (by assumption)).1 (by assumption)) | (exact absurd (F5 (by assumption)).2.1 (by assumption)) | (exact absurd (F5 (by assumption)).2.2 (by assumption)))))), rfl⟩, trivial⟩
        · rw [hb4]
          refine g_run rfl rfl (s_mv_imm rfl rfl) ?_
          refine g_run rfl rfl (s_mv_imm rfl rfl) ?_
          refine g_run rfl rfl (s_neI rfl rfl rfl) ?_
          refine g_u (s_pick_f rfl rfl rfl) ?_
          refine g_u (s_mv_imm rfl rfl) ?_
          refine g_case (t := 64) rfl ?_
          rintro (hb5 | hb5)
          · rw [hb5]
            refine g_skip rfl rfl rfl ?_
            refine g_skip rfl rfl rfl ?_
            refine g_skip rfl rfl rfl ?_
            refine g_skip rfl rfl rfl ?_
            refine g_skip rfl rfl rfl ?_
            refine g_u (s_pick_t rfl rfl rfl) ?_
            refine g_nil ?_
            refine normal_thn ?_
            refine aw_cond_true rfl ?_
            refine aw_seq ?_
            refine aw_region ?_
            refine g_u (s_as_imm rfl rfl) ?_
            refine g_nil ?_
            refine normal_thn ?_
            refine aw_ret ?_
            refine ret_thn ?_
            exact ⟨⟨(rfl : toAV (Al.look _ _) = some _).trans (congrArg some (by (first | rfl | (exfalso; simp_all; done) | (exfalso; simp only [beq_iff_eq, bne_iff_ne, ne_eq, beq_eq_false_iff_ne, bne_eq_false_iff_eq, Decidable.not_not] at *; first | (exact absurd (F5 (by assumption)).1 (by assumption)) | (exact absurd (F5 (by assumption)).2.1 (by assumption)) | (exact absurd (F5 (by assumption)).2.2 (by assumption)))))), rfl⟩, trivial⟩
          · rw [hb5]
            refine g_run rfl rfl (s_mv_imm rfl rfl) ?_
            refine g_run rfl rfl (s_call1 (micro_c _) rfl rfl) ?_
            refine g_run rfl rfl (s_mv_imm rfl rfl) ?_
            refine g_run rfl rfl (s_call1 (rmicro_c _) rfl rfl) ?_
            refine g_run rfl rfl (s_neI rfl rfl rfl) ?_
            refine g_u (s_pick_f rfl rfl rfl) ?_
            refine g_nil ?_
            refine normal_thn ?_
            refine aw_cond rfl (fun hb6 => ?_) (fun hb6 => ?_)
            · skip
              refine aw_seq ?_
              refine aw_region ?_
              refine g_u (s_as_imm rfl rfl) ?_
              refine g_nil ?_
              refine normal_thn ?_
              refine aw_ret ?_
              refine ret_thn ?_
              exact ⟨⟨(rfl : toAV (Al.look _ _) = some _).trans (congrArg some (by (first | rfl | (exfalso; simp_all; done) | (exfalso; simp only [beq_iff_eq, bne_iff_ne, ne_eq, beq_eq_false_iff_ne, bne_eq_false_iff_eq, Decidable.not_not] at *; first | (exact absurd (F5 (by assumption)).1 (by assumption)) | (exact absurd (F5 (by assumption)).2.1 (by assumption)) | (exact absurd (F5 (by assumption)).2.2 (by assumption)))))), rfl⟩, trivial⟩
            · skip
              refine aw_skip ?_
              refine normal_thn ?_
              refine aw_seq ?_
              refine aw_region ?_
              refine g_u (s_mv_imm rfl rfl) ?_
              refine g_u (s_neI rfl rfl rfl) ?_
              refine g_u (s_mv_imm rfl rfl) ?_
              refine g_case (t := 73) rfl ?_
              rintro (hb7 | hb7)
              · rw [hb7]
                refine g_skip rfl rfl rfl ?_
                refine g_skip rfl rfl rfl ?_
                refine g_skip rfl rfl rfl ?_
                refine g_skip rfl rfl rfl ?_
                refine g_skip rfl rfl rfl ?_
                refine g_skip' rfl rfl rfl ?_
                refine g_skip' rfl rfl rfl ?_
                refine g_skip' rfl rfl rfl ?_
                refine g_skip' rfl rfl rfl ?_
                refine g_skip rfl rfl rfl ?_
                refine g_skip rfl rfl rfl ?_
                refine g_skip' rfl rfl rfl ?_
                refine g_skip' rfl rfl rfl ?_
                refine g_skip' rfl rfl rfl ?_
                refine g_skip rfl rfl rfl ?_
                refine g_u (s_pick_t rfl rfl rfl) ?_
                refine g_u (s_mv_imm rfl rfl) ?_
                refine g_run rfl rfl (s_call1 (works08_c) rfl rfl) ?_
                refine g_u (s_pick_t rfl rfl rfl) ?_
                refine g_u (s_as_imm rfl rfl) ?_
                refine g_nil ?_
                refine normal_thn ?_
                refine aw_ret ?_
                exact ⟨⟨(rfl : toAV (Al.look _ _) = some _).trans (congrArg some (by (first | rfl | (exfalso; simp_all; done) | (exfalso; simp only [beq_iff_eq, bne_iff_ne, ne_eq, beq_eq_false_iff_ne, bne_eq_false_iff_eq, Decidable.not_not] at *; first | (exact absurd (F5 (by assumption)).1 (by assumption)) | (exact absurd (F5 (by assumption)).2.1 (by assumption)) | (exact absurd (F5 (by assumption)).2.2 (by assumption)))))), rfl⟩, trivial⟩
              · rw [hb7]
                refine g_run rfl rfl (s_load_agg rfl rfl rfl tA24 tS24 rfl rfl) ?_
                refine g_run rfl rfl (s_call1 (Begun_c ⟨_, _⟩) rfl rfl) ?_
                refine g_run rfl rfl (s_mv_imm rfl rfl) ?_
                refine g_run rfl rfl (s_eqI rfl rfl rfl) ?_
                refine g_run rfl rfl (s_mv_imm rfl rfl) ?_
                refine g_case (t := 78) rfl ?_
                rintro (hb8 | hb8)
                · rw [hb8]
                  refine g_run rfl rfl (s_load_agg rfl rfl rfl tA24 tS24 rfl rfl) ?_
                  refine g_run rfl rfl (s_call1 (Lasts_c ⟨_, _⟩) rfl rfl) ?_
                  refine g_run rfl rfl (s_mv_imm rfl rfl) ?_
                  refine g_run rfl rfl (s_eqI rfl rfl rfl) ?_
                  refine g_run rfl rfl (s_pick_t rfl rfl rfl) ?_
                  refine g_run rfl rfl (s_mv_imm rfl rfl) ?_
                  refine g_case (t := 84) rfl ?_
                  rintro (hb9 | hb9)
                  · rw [hb9]
                    refine g_run rfl rfl (s_load_agg rfl rfl rfl tA24 tS24 rfl rfl) ?_
                    refine g_run rfl rfl (s_call1 (check_c ⟨_, _⟩) rfl rfl) ?_
                    refine g_run rfl rfl (s_eqI rfl rfl rfl) ?_
                    refine g_run rfl rfl (s_pick_t rfl rfl rfl) ?_
                    refine g_u (s_pick_f rfl rfl rfl) ?_
                    refine g_u (s_mv_imm rfl rfl) ?_
                    refine g_case (t := 90) rfl ?_
                    rintro (hb10 | hb10)
                    · rw [hb10]
                      refine g_run rfl rfl (s_call1 (works08_c) rfl rfl) ?_
                      refine g_u (s_pick_t rfl rfl rfl) ?_
                      refine g_u (s_as_imm rfl rfl) ?_
                      refine g_nil ?_
                      refine normal_thn ?_
                      refine aw_ret ?_
                      exact ⟨⟨(rfl : toAV (Al.look _ _) = some _).trans (congrArg some (by (first | rfl | (exfalso; simp_all; done) | (exfalso; simp only [beq_iff_eq, bne_iff_ne, ne_eq, beq_eq_false_iff_ne, bne_eq_false_iff_eq, Decidable.not_not] at *; first | (exact absurd (F5 (by assumption)).1 (by assumption)) | (exact absurd (F5 (by assumption)).2.1 (by assumption)) | (exact absurd (F5 (by assumption)).2.2 (by assumption)))))), rfl⟩, trivial⟩
                    · rw [hb10]
                      refine g_skip rfl rfl rfl ?_
                      refine g_u (s_pick_f rfl rfl rfl) ?_
                      refine g_u (s_as_imm rfl rfl) ?_
                      refine g_nil ?_
                      refine normal_thn ?_
                      refine aw_ret ?_
                      exact ⟨⟨(rfl : toAV (Al.look _ _) = some _).trans (congrArg some (by (first | rfl | (exfalso; simp_all; done) | (exfalso; simp only [beq_iff_eq, bne_iff_ne, ne_eq, beq_eq_false_iff_ne, bne_eq_false_iff_eq, Decidable.not_not] at *; first | (exact absurd (F5 (by assumption)).1 (by assumption)) | (exact absurd (F5 (by assumption)).2.1 (by assumption)) | (exact absurd (F5 (by assumption)).2.2 (by assumption)))))), rfl⟩, trivial⟩
                  · rw [hb9]
                    refine g_skip rfl rfl rfl ?_
                    refine g_skip rfl rfl rfl ?_
                    refine g_skip rfl rfl rfl ?_
                    refine g_run rfl rfl (s_pick_f rfl rfl rfl) ?_
                    refine g_u (s_pick_f rfl rfl rfl) ?_
                    refine g_u (s_mv_imm rfl rfl) ?_
                    refine g_skip rfl rfl rfl ?_
                    refine g_u (s_pick_f rfl rfl rfl) ?_
                    refine g_u (s_as_imm rfl rfl) ?_
                    refine g_nil ?_
                    refine normal_thn ?_
                    refine aw_ret ?_
                    exact ⟨⟨(rfl : toAV (Al.look _ _) = some _).trans (congrArg some (by (first | rfl | (exfalso; simp_all; done) | (exfalso; simp only [beq_iff_eq, bne_iff_ne, ne_eq, beq_eq_false_iff_ne, bne_eq_false_iff_eq, Decidable.not_not] at *; first | (exact absurd (F5 (by assumption)).1 (by assumption)) | (exact absurd (F5 (by assumption)).2.1 (by assumption)) | (exact absurd (F5 (by assumption)).2.2 (by assumption)))))), rfl⟩, trivial⟩
                · rw [hb8]
                  refine g_skip rfl rfl rfl ?_
                  refine g_skip rfl rfl rfl ?_
                  refine g_skip rfl rfl rfl ?_
                  refine g_skip rfl rfl rfl ?_
                  refine g_run rfl rfl (s_pick_f rfl rfl rfl) ?_
                  refine g_run rfl rfl (s_mv_imm rfl rfl) ?_
                  refine g_skip rfl rfl rfl ?_
                  refine g_skip rfl rfl rfl ?_
                  refine g_skip rfl rfl rfl ?_
                  refine g_run rfl rfl (s_pick_f rfl rfl rfl) ?_
                  refine g_u (s_pick_f rfl rfl rfl) ?_
                  refine g_u (s_mv_imm rfl rfl) ?_
                  refine g_skip rfl rfl rfl ?_
                  refine g_u (s_pick_f rfl rfl rfl) ?_
                  refine g_u (s_as_imm rfl rfl) ?_
                  refine g_nil ?_
                  refine normal_thn ?_
                  refine aw_ret ?_
                  exact ⟨⟨(rfl : toAV (Al.look _ _) = some _).trans (congrArg some (by (first | rfl | (exfalso; simp_all; done) | (exfalso; simp only [beq_iff_eq, bne_iff_ne, ne_eq, beq_eq_false_iff_ne, bne_eq_false_iff_eq, Decidable.not_not] at *; first | (exact absurd (F5 (by assumption)).1 (by assumption)) | (exact absurd (F5 (by assumption)).2.1 (by assumption)) | (exact absurd (F5 (by assumption)).2.2 (by assumption)))))), rfl⟩, trivial⟩

end Go.Proofs
