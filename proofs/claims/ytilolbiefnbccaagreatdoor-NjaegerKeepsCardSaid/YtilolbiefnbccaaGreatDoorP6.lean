/- Texts that the proofs of this claim share, part 6: the abstract logic, plain Lean on values and batches, and walks. No condition but those typed in each lemma. -/
import Derived.Maps.RangeRun
import Derived.Sort.OwnSorted
import Derived.Shelf.Sort.Plain
import Derived.Shelf.Slices.In.SortNone
import Derived.RangeFuncLeaves
import Derived.RangeFuncRecord
import Derived.RangeFuncSeq
import Derived.Test.YtilolbiefnbccaaGreatDoorP5
set_option linter.unusedSimpArgs false
set_option linter.unusedVariables false
namespace Go.Proofs
open Go Go.Al
set_option maxRecDepth 10000
set_option maxHeartbeats 400000 in
theorem rgCheck_c (r : Rg) : PCall Tryz.prog Γ0 124 [r.av] [iv (rgCheckM r)] := by
  refine pcall_of Tryz.func124 rfl Tryz.ntmps124 (by kernel_rfl) rfl fun w0 I0 G0 => ?_
  refine aw_seq ?_
  refine aw_region ?_
  refine g_uG (s_box_imm 1001 rfl rfl rfl rfl) rfl ?_
  refine g_u (s_as_imm rfl rfl) ?_
  refine g_nil ?_
  refine normal_thn ?_
  refine aw_seq ?_
  refine aw_seq ?_
  refine aw_region ?_
  refine g_u (s_fieldAddr rfl rfl fa181_1 rfl) ?_
  refine g_u (s_load_imm rfl rfl rfl tA45 tS45 rfl rfl) ?_
  refine g_u (s_gtI rfl rfl rfl) ?_
  refine g_u (s_mv_imm rfl rfl) ?_
  refine g_case (t := 6) rfl ?_
  rintro (hb1 | hb1)
  · rw [hb1]
    refine g_skip rfl rfl rfl ?_
    refine g_skip rfl rfl rfl ?_
    refine g_skip rfl rfl rfl ?_
    refine g_skip rfl rfl rfl ?_
    refine g_skip rfl rfl rfl ?_
    refine g_u (s_pick_t rfl rfl rfl) ?_
    refine g_nil ?_
    refine normal_thn ?_
    refine aw_cond_true rfl ?_
    refine aw_seq ?_
    refine aw_region ?_
    refine g_u (s_as_imm rfl rfl) ?_
    refine g_nil ?_
    refine normal_thn ?_
    refine aw_ret ?_
    refine ret_thn ?_
    exact ⟨⟨(rfl : toAV (Al.look _ _) = some _).trans (congrArg some (by (simp only [decide_eq_true_eq, decide_eq_false_iff_not, bne_iff_ne, ne_eq, beq_iff_eq, bne_eq_false_iff_eq, beq_eq_false_iff_ne] at *; simp only [iv, rgCheckM]; first | rw [if_pos (by omega)] | rw [if_neg (by omega)]))), rfl⟩, trivial⟩
  · rw [hb1]
    refine g_run rfl rfl (s_fieldAddr rfl rfl fa181_0 rfl) ?_
    refine g_run rfl rfl (s_load_imm rfl rfl rfl tA45 tS45 rfl rfl) ?_
    refine g_run rfl rfl (s_fieldAddr rfl rfl fa181_1 rfl) ?_
    refine g_run rfl rfl (s_load_imm rfl rfl rfl tA45 tS45 rfl rfl) ?_
    refine g_run rfl rfl (s_gtI rfl rfl rfl) ?_
    refine g_u (s_pick_f rfl rfl rfl) ?_
    refine g_nil ?_
    refine normal_thn ?_
    refine aw_cond rfl (fun hb2 => ?_) (fun hb2 => ?_)
    · skip
      refine aw_seq ?_
      refine aw_region ?_
      refine g_u (s_as_imm rfl rfl) ?_
      refine g_nil ?_
      refine normal_thn ?_
      refine aw_ret ?_
      refine ret_thn ?_
      exact ⟨⟨(rfl : toAV (Al.look _ _) = some _).trans (congrArg some (by (simp only [decide_eq_true_eq, decide_eq_false_iff_not, bne_iff_ne, ne_eq, beq_iff_eq, bne_eq_false_iff_eq, beq_eq_false_iff_ne] at *; simp only [iv, rgCheckM]; first | rw [if_pos (by omega)] | rw [if_neg (by omega)]))), rfl⟩, trivial⟩
    · skip
      refine aw_skip ?_
      refine normal_thn ?_
      refine aw_seq ?_
      refine aw_region ?_
      refine g_u (s_as_imm rfl rfl) ?_
      refine g_nil ?_
      refine normal_thn ?_
      refine aw_ret ?_
      exact ⟨⟨(rfl : toAV (Al.look _ _) = some _).trans (congrArg some (by (simp only [decide_eq_true_eq, decide_eq_false_iff_not, bne_iff_ne, ne_eq, beq_iff_eq, bne_eq_false_iff_eq, beq_eq_false_iff_ne] at *; simp only [iv, rgCheckM]; first | rw [if_pos (by omega)] | rw [if_neg (by omega)]))), rfl⟩, trivial⟩

set_option maxHeartbeats 400000 in
theorem begun_c (r : Rg) : PCall Tryz.prog Γ0 201 [r.av] [uv (begunM r)] := by
  refine pcall_of Tryz.func201 rfl Tryz.ntmps201 (by kernel_rfl) rfl fun w0 I0 G0 => ?_
  refine aw_seq ?_
  refine aw_region ?_
  refine g_uG (s_box_imm 1001 rfl rfl rfl rfl) rfl ?_
  refine g_u (s_as_imm rfl rfl) ?_
  refine g_nil ?_
  refine normal_thn ?_
  refine aw_seq ?_
  refine aw_region ?_
  refine g_u (s_fieldAddr rfl rfl fa181_0 rfl) ?_
  refine g_u (s_load_imm rfl rfl rfl tA45 tS45 rfl rfl) ?_
  refine g_u (s_quo rfl rfl rfl (by first | decide | omega | (((try simp only [decide_eq_true_eq, decide_eq_false_iff_not, bne_iff_ne, ne_eq, beq_iff_eq, bne_eq_false_iff_eq, beq_eq_false_iff_ne, Bool.not_eq_true', Bool.not_eq_false', gt_iff_lt, ge_iff_le] at *); (repeat simp (disch := omega) only [wrap64, wrap32] at *)); omega))) ?_
  refine g_u (s_as_imm rfl rfl) ?_
  refine g_nil ?_
  refine normal_thn ?_
  refine aw_ret ?_
  exact ⟨⟨(rfl : toAV (Al.look _ _) = some _).trans (congrArg some (by rfl)), rfl⟩, trivial⟩

set_option maxHeartbeats 400000 in
theorem lasts_c (r : Rg) : PCall Tryz.prog Γ0 202 [r.av] [uv (lastsM r)] := by
  refine pcall_of Tryz.func202 rfl Tryz.ntmps202 (by kernel_rfl) rfl fun w0 I0 G0 => ?_
  refine aw_seq ?_
  refine aw_region ?_
  refine g_uG (s_box_imm 1001 rfl rfl rfl rfl) rfl ?_
  refine g_u (s_as_imm rfl rfl) ?_
  refine g_nil ?_
  refine normal_thn ?_
  refine aw_seq ?_
  refine aw_region ?_
  refine g_u (s_fieldAddr rfl rfl fa181_1 rfl) ?_
  refine g_u (s_load_imm rfl rfl rfl tA45 tS45 rfl rfl) ?_
  refine g_u (s_fieldAddr rfl rfl fa181_0 rfl) ?_
  refine g_u (s_load_imm rfl rfl rfl tA45 tS45 rfl rfl) ?_
  refine g_u (s_sub rfl rfl rfl) ?_
  refine g_u (s_quo rfl rfl rfl (by first | decide | omega | (((try simp only [decide_eq_true_eq, decide_eq_false_iff_not, bne_iff_ne, ne_eq, beq_iff_eq, bne_eq_false_iff_eq, beq_eq_false_iff_ne, Bool.not_eq_true', Bool.not_eq_false', gt_iff_lt, ge_iff_le] at *); (repeat simp (disch := omega) only [wrap64, wrap32] at *)); omega))) ?_
  refine g_u (s_as_imm rfl rfl) ?_
  refine g_nil ?_
  refine normal_thn ?_
  refine aw_ret ?_
  exact ⟨⟨(rfl : toAV (Al.look _ _) = some _).trans (congrArg some (by rfl)), rfl⟩, trivial⟩

set_option maxHeartbeats 400000 in
theorem micros_c (r : Rg) (f : Nat) (m : Int) (hf : PCall Tryz.prog Γ0 f [r.av] [uv m]) : PCall Tryz.prog Γ0 200 [r.av, .fn (.func f) [] []] [iv (microsM m r)] := by
  refine pcall_of Tryz.func200 rfl Tryz.ntmps200 (by kernel_rfl) rfl fun w0 I0 G0 => ?_
  refine aw_seq ?_
  refine aw_region ?_
  refine g_uG (s_box_imm 1002 rfl rfl rfl rfl) rfl ?_
  refine g_u (s_as_imm rfl rfl) ?_
  refine g_nil ?_
  refine normal_thn ?_
  refine aw_seq ?_
  refine aw_seq ?_
  refine aw_region ?_
  refine g_u (s_load_imm rfl rfl rfl tA181 tS181 rfl rfl) ?_
  refine g_u (s_call1 (rgCheck_c ⟨_, _⟩) rfl rfl) ?_
  refine g_u (s_neI rfl rfl rfl) ?_
  refine g_nil ?_
  refine normal_thn ?_
  refine aw_cond rfl (fun hb1 => ?_) (fun hb1 => ?_)
  · skip
    refine aw_seq ?_
    refine aw_region ?_
    refine g_u (s_as_imm rfl rfl) ?_
    refine g_nil ?_
    refine normal_thn ?_
    refine aw_ret ?_
    refine ret_thn ?_
    exact ⟨⟨(rfl : toAV (Al.look _ _) = some _).trans (congrArg some (by (simp only [decide_eq_true_eq, decide_eq_false_iff_not, bne_iff_ne, ne_eq, beq_iff_eq, bne_eq_false_iff_eq, beq_eq_false_iff_ne] at *; simp only [iv, microsM]; first | rw [if_pos (by omega)] | rw [if_neg (by omega)]))), rfl⟩, trivial⟩
  · skip
    refine aw_skip ?_
    refine normal_thn ?_
    refine aw_seq ?_
    refine aw_region ?_
    refine g_u (s_mv_imm rfl rfl) ?_
    refine g_u (s_load_imm rfl rfl rfl tA181 tS181 rfl rfl) ?_
    refine g_u (s_callv1 (hf) rfl rfl rfl) ?_
    refine g_u (s_cvII rfl rfl Tryz.underlying45 Tryz.underlying3) ?_
    refine g_u (s_as_imm rfl rfl) ?_
    refine g_nil ?_
    refine normal_thn ?_
    refine aw_ret ?_
    exact ⟨⟨(rfl : toAV (Al.look _ _) = some _).trans (congrArg some (by (simp only [decide_eq_true_eq, decide_eq_false_iff_not, bne_iff_ne, ne_eq, beq_iff_eq, bne_eq_false_iff_eq, beq_eq_false_iff_ne] at *; simp only [iv, microsM]; first | rw [if_pos (by omega)] | rw [if_neg (by omega)]))), rfl⟩, trivial⟩

set_option maxHeartbeats 400000 in
theorem Begun_c (r : Rg) : PCall Tryz.prog Γ0 154 [r.av] [iv (BegunM r)] := by
  refine pcall_of Tryz.func154 rfl Tryz.ntmps154 (by kernel_rfl) rfl fun w0 I0 G0 => ?_
  refine aw_seq ?_
  refine aw_region ?_
  refine g_uG (s_box_imm 1001 rfl rfl rfl rfl) rfl ?_
  refine g_u (s_as_imm rfl rfl) ?_
  refine g_nil ?_
  refine normal_thn ?_
  refine aw_seq ?_
  refine aw_region ?_
  refine g_u (s_load_imm rfl rfl rfl tA181 tS181 rfl rfl) ?_
  refine g_u (s_call1 (micros_c _ _ _ (begun_c _)) rfl rfl) ?_
  refine g_u (s_as_imm rfl rfl) ?_
  refine g_nil ?_
  refine normal_thn ?_
  refine aw_ret ?_
  exact ⟨⟨(rfl : toAV (Al.look _ _) = some _).trans (congrArg some (by rfl)), rfl⟩, trivial⟩

set_option maxHeartbeats 400000 in
theorem Lasts_c (r : Rg) : PCall Tryz.prog Γ0 155 [r.av] [iv (LastsM r)] := by
  refine pcall_of Tryz.func155 rfl Tryz.ntmps155 (by kernel_rfl) rfl fun w0 I0 G0 => ?_
  refine aw_seq ?_
  refine aw_region ?_
  refine g_uG (s_box_imm 1001 rfl rfl rfl rfl) rfl ?_
  refine g_u (s_as_imm rfl rfl) ?_
  refine g_nil ?_
  refine normal_thn ?_
  refine aw_seq ?_
  refine aw_region ?_
  refine g_u (s_load_imm rfl rfl rfl tA181 tS181 rfl rfl) ?_
  refine g_u (s_call1 (micros_c _ _ _ (lasts_c _)) rfl rfl) ?_
  refine g_u (s_as_imm rfl rfl) ?_
  refine g_nil ?_
  refine normal_thn ?_
  refine aw_ret ?_
  exact ⟨⟨(rfl : toAV (Al.look _ _) = some _).trans (congrArg some (by rfl)), rfl⟩, trivial⟩

set_option maxHeartbeats 400000 in
theorem nano_c (us : Int) : PCall Tryz.prog Γ0 199 [iv us] [uv (nanoV us), iv (nanoC us)] := by
  refine pcall_of Tryz.func199 rfl Tryz.ntmps199 (by kernel_rfl) rfl fun w0 I0 G0 => ?_
  refine aw_seq ?_
  refine aw_region ?_
  refine g_u (s_as_imm rfl rfl) ?_
  refine g_u (s_as_imm rfl rfl) ?_
  refine g_nil ?_
  refine normal_thn ?_
  refine aw_seq ?_
  refine aw_seq ?_
  refine aw_region ?_
  refine g_u (s_mv_imm rfl rfl) ?_
  refine g_u (s_ltI rfl rfl rfl) ?_
  refine g_u (s_mv_imm rfl rfl) ?_
  refine g_case (t := 6) rfl ?_
  rintro (hb1 | hb1)
  · rw [hb1]
    refine g_skip rfl rfl rfl ?_
    refine g_skip rfl rfl rfl ?_
    refine g_u (s_pick_t rfl rfl rfl) ?_
    refine g_nil ?_
    refine normal_thn ?_
    refine aw_cond_true rfl ?_
    refine aw_seq ?_
    refine aw_region ?_
    refine g_u (s_as_imm rfl rfl) ?_
    refine g_u (s_as_imm rfl rfl) ?_
    refine g_nil ?_
    refine normal_thn ?_
    refine aw_ret ?_
    refine ret_thn ?_
    exact ⟨⟨(rfl : toAV (Al.look _ _) = some _).trans (congrArg some (by (simp only [decide_eq_true_eq, decide_eq_false_iff_not, bne_iff_ne, ne_eq, beq_iff_eq, bne_eq_false_iff_eq, beq_eq_false_iff_ne] at *; simp only [iv, uv, nanoV, nanoC, rNanoV]; first | rw [if_pos (by omega)] | rw [if_neg (by omega)]))), rfl⟩, ⟨(rfl : toAV (Al.look _ _) = some _).trans (congrArg some (by (simp only [decide_eq_true_eq, decide_eq_false_iff_not, bne_iff_ne, ne_eq, beq_iff_eq, bne_eq_false_iff_eq, beq_eq_false_iff_ne] at *; simp only [iv, uv, nanoV, nanoC, rNanoV]; first | rw [if_pos (by omega)] | rw [if_neg (by omega)]))), rfl⟩, trivial⟩
  · rw [hb1]
    refine g_run rfl rfl (s_mv_imm rfl rfl) ?_
    refine g_run rfl rfl (s_gtI rfl rfl rfl) ?_
    refine g_u (s_pick_f rfl rfl rfl) ?_
    refine g_nil ?_
    refine normal_thn ?_
    refine aw_cond rfl (fun hb2 => ?_) (fun hb2 => ?_)
    · skip
      refine aw_seq ?_
      refine aw_region ?_
      refine g_u (s_as_imm rfl rfl) ?_
      refine g_u (s_as_imm rfl rfl) ?_
      refine g_nil ?_
      refine normal_thn ?_
      refine aw_ret ?_
      refine ret_thn ?_
      exact ⟨⟨(rfl : toAV (Al.look _ _) = some _).trans (congrArg some (by (simp only [decide_eq_true_eq, decide_eq_false_iff_not, bne_iff_ne, ne_eq, beq_iff_eq, bne_eq_false_iff_eq, beq_eq_false_iff_ne] at *; simp only [iv, uv, nanoV, nanoC, rNanoV]; first | rw [if_pos (by omega)] | rw [if_neg (by omega)]))), rfl⟩, ⟨(rfl : toAV (Al.look _ _) = some _).trans (congrArg some (by (simp only [decide_eq_true_eq, decide_eq_false_iff_not, bne_iff_ne, ne_eq, beq_iff_eq, bne_eq_false_iff_eq, beq_eq_false_iff_ne] at *; simp only [iv, uv, nanoV, nanoC, rNanoV]; first | rw [if_pos (by omega)] | rw [if_neg (by omega)]))), rfl⟩, trivial⟩
    · skip
      refine aw_skip ?_
      refine normal_thn ?_
      refine aw_seq ?_
      refine aw_region ?_
      refine g_u (s_mv_imm rfl rfl) ?_
      refine g_u (s_cvII rfl rfl Tryz.underlying3 Tryz.underlying45) ?_
      refine g_u (s_mul rfl rfl rfl) ?_
      refine g_u (s_as_imm rfl rfl) ?_
      refine g_u (s_as_imm rfl rfl) ?_
      refine g_nil ?_
      refine normal_thn ?_
      refine aw_ret ?_
      exact ⟨⟨(rfl : toAV (Al.look _ _) = some _).trans (congrArg some (by (simp only [decide_eq_true_eq, decide_eq_false_iff_not, bne_iff_ne, ne_eq, beq_iff_eq, bne_eq_false_iff_eq, beq_eq_false_iff_ne] at *; simp only [iv, uv, nanoV, nanoC, rNanoV]; first | rw [if_pos (by omega)] | rw [if_neg (by omega)]))), rfl⟩, ⟨(rfl : toAV (Al.look _ _) = some _).trans (congrArg some (by (simp only [decide_eq_true_eq, decide_eq_false_iff_not, bne_iff_ne, ne_eq, beq_iff_eq, bne_eq_false_iff_eq, beq_eq_false_iff_ne] at *; simp only [iv, uv, nanoV, nanoC, rNanoV]; first | rw [if_pos (by omega)] | rw [if_neg (by omega)]))), rfl⟩, trivial⟩

set_option maxHeartbeats 400000 in
theorem micro_c (ns : Int) : PCall Tryz.prog Γ0 203 [uv ns] [iv (microM ns)] := by
  refine pcall_of Tryz.func203 rfl Tryz.ntmps203 (by kernel_rfl) rfl fun w0 I0 G0 => ?_
  refine aw_seq ?_
  refine aw_region ?_
  refine g_u (s_as_imm rfl rfl) ?_
  refine g_nil ?_
  refine normal_thn ?_
  refine aw_seq ?_
  refine aw_region ?_
  refine g_u (s_mv_imm rfl rfl) ?_
  refine g_u (s_quo rfl rfl rfl (by first | decide | omega | (((try simp only [decide_eq_true_eq, decide_eq_false_iff_not, bne_iff_ne, ne_eq, beq_iff_eq, bne_eq_false_iff_eq, beq_eq_false_iff_ne, Bool.not_eq_true', Bool.not_eq_false', gt_iff_lt, ge_iff_le] at *); (repeat simp (disch := omega) only [wrap64, wrap32] at *)); omega))) ?_
  refine g_u (s_cvII rfl rfl Tryz.underlying45 Tryz.underlying3) ?_
  refine g_u (s_as_imm rfl rfl) ?_
  refine g_nil ?_
  refine normal_thn ?_
  refine aw_ret ?_
  exact ⟨⟨(rfl : toAV (Al.look _ _) = some _).trans (congrArg some (by rfl)), rfl⟩, trivial⟩

set_option maxHeartbeats 400000 in
theorem rmicro_c (ns : Int) : PCall Tryz.prog Γ0 105 [uv ns] [iv (microM ns)] := by
  refine pcall_of Tryz.func105 rfl Tryz.ntmps105 (by kernel_rfl) rfl fun w0 I0 G0 => ?_
  refine aw_seq ?_
  refine aw_region ?_
  refine g_u (s_as_imm rfl rfl) ?_
  refine g_nil ?_
  refine normal_thn ?_
  refine aw_seq ?_
  refine aw_region ?_
  refine g_u (s_mv_imm rfl rfl) ?_
  refine g_u (s_quo rfl rfl rfl (by first | decide | omega | (((try simp only [decide_eq_true_eq, decide_eq_false_iff_not, bne_iff_ne, ne_eq, beq_iff_eq, bne_eq_false_iff_eq, beq_eq_false_iff_ne, Bool.not_eq_true', Bool.not_eq_false', gt_iff_lt, ge_iff_le] at *); (repeat simp (disch := omega) only [wrap64, wrap32] at *)); omega))) ?_
  refine g_u (s_cvII rfl rfl Tryz.underlying45 Tryz.underlying3) ?_
  refine g_u (s_as_imm rfl rfl) ?_
  refine g_nil ?_
  refine normal_thn ?_
  refine aw_ret ?_
  exact ⟨⟨(rfl : toAV (Al.look _ _) = some _).trans (congrArg some (by rfl)), rfl⟩, trivial⟩

set_option maxHeartbeats 400000 in
theorem of_c (b l : Int) : PCall Tryz.prog Γ0 153 [iv b, iv l] [(ofR b l).av, iv (ofC b l)] := by
  refine pcall_of Tryz.func153 rfl Tryz.ntmps153 (by kernel_rfl) rfl fun w0 I0 G0 => ?_
  refine aw_seq ?_
  refine aw_region ?_
  refine g_uG (s_alloc' 1004 rfl rfl rfl tZ181) rfl ?_
  refine g_u (s_as_imm rfl rfl) ?_
  refine g_nil ?_
  refine normal_thn ?_
  refine aw_seq ?_
  refine aw_region ?_
  refine g_u (s_mv_imm rfl rfl) ?_
  refine g_u (s_call2 (nano_c _) rfl rfl) ?_
  refine g_u (s_mv_tup rfl rfl) ?_
  refine g_u (s_extract rfl rfl rfl rfl) ?_
  refine g_u (s_extract rfl rfl rfl rfl) ?_
  refine g_u (s_as_imm rfl rfl) ?_
  refine g_u (s_as_imm rfl rfl) ?_
  refine g_nil ?_
  refine normal_thn ?_
  refine aw_seq ?_
  refine aw_region ?_
  refine g_u (s_mv_imm rfl rfl) ?_
  refine g_u (s_call2 (nano_c _) rfl rfl) ?_
  refine g_u (s_mv_tup rfl rfl) ?_
  refine g_u (s_extract rfl rfl rfl rfl) ?_
  refine g_u (s_extract rfl rfl rfl rfl) ?_
  refine g_u (s_as_imm rfl rfl) ?_
  refine g_u (s_as_imm rfl rfl) ?_
  refine g_nil ?_
  refine normal_thn ?_
  refine aw_seq ?_
  refine aw_seq ?_
  refine aw_region ?_
  refine g_u (s_mv_imm rfl rfl) ?_
  refine g_u (s_neI rfl rfl rfl) ?_
  refine g_u (s_mv_imm rfl rfl) ?_
  refine g_case (t := 22) rfl ?_
  rintro (hb1 | hb1)
  · rw [hb1]
    refine g_skip rfl rfl rfl ?_
    refine g_skip rfl rfl rfl ?_
    refine g_u (s_pick_t rfl rfl rfl) ?_
    refine g_u (s_mv_imm rfl rfl) ?_
    refine g_skip rfl rfl rfl ?_
    refine g_skip rfl rfl rfl ?_
    refine g_skip rfl rfl rfl ?_
    refine g_skip rfl rfl rfl ?_
    refine g_u (s_pick_t rfl rfl rfl) ?_
    refine g_nil ?_
    refine normal_thn ?_
    refine aw_cond_true rfl ?_
    refine aw_seq ?_
    refine aw_region ?_
    refine g_u (s_build rfl tU181 us181 pl181 rfl rfl rfl rfl) ?_
    refine g_u (s_store_imm rfl rfl rfl tS181 rfl rfl) ?_
    refine g_u (s_as_imm rfl rfl) ?_
    refine g_nil ?_
    refine normal_thn ?_
    refine aw_ret ?_
    refine ret_thn ?_
    exact ⟨⟨_, _, _, _, _, _, _, rfl, rfl, tA181, tS181, rfl, rfl, (rfl : toAV _ = some _).trans (congrArg some (by (simp only [decide_eq_true_eq, decide_eq_false_iff_not, bne_iff_ne, ne_eq, beq_iff_eq, bne_eq_false_iff_eq, beq_eq_false_iff_ne] at *; simp only [iv, uv, Rg.av, ofR, ofC, rOfA, rOfB, rOfC]; first | (rw [if_pos (by unfold ofBad; omega)]; first | done | rfl) | (rw [if_neg (by unfold ofBad; omega)]; first | done | rfl) | (rw [if_pos (by unfold rBad; omega)]; first | done | rfl) | (rw [if_neg (by unfold rBad; omega)]; first | done | rfl))))⟩, ⟨(rfl : toAV (Al.look _ _) = some _).trans (congrArg some (by (simp only [decide_eq_true_eq, decide_eq_false_iff_not, bne_iff_ne, ne_eq, beq_iff_eq, bne_eq_false_iff_eq, beq_eq_false_iff_ne] at *; simp only [iv, uv, Rg.av, ofR, ofC, rOfA, rOfB, rOfC]; first | (rw [if_pos (by unfold ofBad; omega)]; first | done | rfl) | (rw [if_neg (by unfold ofBad; omega)]; first | done | rfl) | (rw [if_pos (by unfold rBad; omega)]; first | done | rfl) | (rw [if_neg (by unfold rBad; omega)]; first | done | rfl)))), rfl⟩, trivial⟩
  · rw [hb1]
    refine g_run rfl rfl (s_mv_imm rfl rfl) ?_
    refine g_run rfl rfl (s_neI rfl rfl rfl) ?_
    refine g_u (s_pick_f rfl rfl rfl) ?_
    refine g_u (s_mv_imm rfl rfl) ?_
    refine g_case (t := 26) rfl ?_
    rintro (hb2 | hb2)
    · rw [hb2]
      refine g_skip rfl rfl rfl ?_
      refine g_skip rfl rfl rfl ?_
      refine g_skip rfl rfl rfl ?_
      refine g_skip rfl rfl rfl ?_
      refine g_u (s_pick_t rfl rfl rfl) ?_
      refine g_nil ?_
      refine normal_thn ?_
      refine aw_cond_true rfl ?_
      refine aw_seq ?_
      refine aw_region ?_
      refine g_u (s_build rfl tU181 us181 pl181 rfl rfl rfl rfl) ?_
      refine g_u (s_store_imm rfl rfl rfl tS181 rfl rfl) ?_
      refine g_u (s_as_imm rfl rfl) ?_
      refine g_nil ?_
      refine normal_thn ?_
      refine aw_ret ?_
      refine ret_thn ?_
      exact ⟨⟨_, _, _, _, _, _, _, rfl, rfl, tA181, tS181, rfl, rfl, (rfl : toAV _ = some _).trans (congrArg some (by (simp only [decide_eq_true_eq, decide_eq_false_iff_not, bne_iff_ne, ne_eq, beq_iff_eq, bne_eq_false_iff_eq, beq_eq_false_iff_ne] at *; simp only [iv, uv, Rg.av, ofR, ofC, rOfA, rOfB, rOfC]; first | (rw [if_pos (by unfold ofBad; omega)]; first | done | rfl) | (rw [if_neg (by unfold ofBad; omega)]; first | done | rfl) | (rw [if_pos (by unfold rBad; omega)]; first | done | rfl) | (rw [if_neg (by unfold rBad; omega)]; first | done | rfl))))⟩, ⟨(rfl : toAV (Al.look _ _) = some _).trans (congrArg some (by (simp only [decide_eq_true_eq, decide_eq_false_iff_not, bne_iff_ne, ne_eq, beq_iff_eq, bne_eq_false_iff_eq, beq_eq_false_iff_ne] at *; simp only [iv, uv, Rg.av, ofR, ofC, rOfA, rOfB, rOfC]; first | (rw [if_pos (by unfold ofBad; omega)]; first | done | rfl) | (rw [if_neg (by unfold ofBad; omega)]; first | done | rfl) | (rw [if_pos (by unfold rBad; omega)]; first | done | rfl) | (rw [if_neg (by unfold rBad; omega)]; first | done | rfl)))), rfl⟩, trivial⟩
    · rw [hb2]
      refine g_run rfl rfl (s_mv_imm rfl rfl) ?_
      refine g_run rfl rfl (s_mv_imm rfl rfl) ?_
      refine g_run rfl rfl (s_sub rfl rfl rfl) ?_
      refine g_run rfl rfl (s_gtI rfl rfl rfl) ?_
      refine g_u (s_pick_f rfl rfl rfl) ?_
      refine g_nil ?_
      refine normal_thn ?_
      refine aw_cond rfl (fun hb3 => ?_) (fun hb3 => ?_)
      · skip
        refine aw_seq ?_
        refine aw_region ?_
        refine g_u (s_build rfl tU181 us181 pl181 rfl rfl rfl rfl) ?_
        refine g_u (s_store_imm rfl rfl rfl tS181 rfl rfl) ?_
        refine g_u (s_as_imm rfl rfl) ?_
        refine g_nil ?_
        refine normal_thn ?_
        refine aw_ret ?_
        refine ret_thn ?_
        exact ⟨⟨_, _, _, _, _, _, _, rfl, rfl, tA181, tS181, rfl, rfl, (rfl : toAV _ = some _).trans (congrArg some (by (simp only [decide_eq_true_eq, decide_eq_false_iff_not, bne_iff_ne, ne_eq, beq_iff_eq, bne_eq_false_iff_eq, beq_eq_false_iff_ne] at *; simp only [iv, uv, Rg.av, ofR, ofC, rOfA, rOfB, rOfC]; first | (rw [if_pos (by unfold ofBad; omega)]; first | done | rfl) | (rw [if_neg (by unfold ofBad; omega)]; first | done | rfl) | (rw [if_pos (by unfold rBad; omega)]; first | done | rfl) | (rw [if_neg (by unfold rBad; omega)]; first | done | rfl))))⟩, ⟨(rfl : toAV (Al.look _ _) = some _).trans (congrArg some (by (simp only [decide_eq_true_eq, decide_eq_false_iff_not, bne_iff_ne, ne_eq, beq_iff_eq, bne_eq_false_iff_eq, beq_eq_false_iff_ne] at *; simp only [iv, uv, Rg.av, ofR, ofC, rOfA, rOfB, rOfC]; first | (rw [if_pos (by unfold ofBad; omega)]; first | done | rfl) | (rw [if_neg (by unfold ofBad; omega)]; first | done | rfl) | (rw [if_pos (by unfold rBad; omega)]; first | done | rfl) | (rw [if_neg (by unfold rBad; omega)]; first | done | rfl)))), rfl⟩, trivial⟩
      · skip
        refine aw_skip ?_
        refine normal_thn ?_
        refine aw_seq ?_
        refine aw_region ?_
        refine g_u (s_mv_imm rfl rfl) ?_
        refine g_u (s_mv_imm rfl rfl) ?_
        refine g_u (s_mv_imm rfl rfl) ?_
        refine g_u (s_add rfl rfl rfl) ?_
        refine g_u (s_build rfl tU181 us181 pl181 rfl rfl rfl rfl) ?_
        refine g_u (s_store_imm rfl rfl rfl tS181 rfl rfl) ?_
        refine g_u (s_as_imm rfl rfl) ?_
        refine g_nil ?_
        refine normal_thn ?_
        refine aw_ret ?_
        exact ⟨⟨_, _, _, _, _, _, _, rfl, rfl, tA181, tS181, rfl, rfl, (rfl : toAV _ = some _).trans (congrArg some (by (simp only [decide_eq_true_eq, decide_eq_false_iff_not, bne_iff_ne, ne_eq, beq_iff_eq, bne_eq_false_iff_eq, beq_eq_false_iff_ne] at *; simp only [iv, uv, Rg.av, ofR, ofC, rOfA, rOfB, rOfC]; first | (rw [if_pos (by unfold ofBad; omega)]; first | done | rfl) | (rw [if_neg (by unfold ofBad; omega)]; first | done | rfl) | (rw [if_pos (by unfold rBad; omega)]; first | done | rfl) | (rw [if_neg (by unfold rBad; omega)]; first | done | rfl))))⟩, ⟨(rfl : toAV (Al.look _ _) = some _).trans (congrArg some (by (simp only [decide_eq_true_eq, decide_eq_false_iff_not, bne_iff_ne, ne_eq, beq_iff_eq, bne_eq_false_iff_eq, beq_eq_false_iff_ne] at *; simp only [iv, uv, Rg.av, ofR, ofC, rOfA, rOfB, rOfC]; first | (rw [if_pos (by unfold ofBad; omega)]; first | done | rfl) | (rw [if_neg (by unfold ofBad; omega)]; first | done | rfl) | (rw [if_pos (by unfold rBad; omega)]; first | done | rfl) | (rw [if_neg (by unfold rBad; omega)]; first | done | rfl)))), rfl⟩, trivial⟩

set_option maxHeartbeats 400000 in
theorem whole_c (r : Rg) : PCall Tryz.prog Γ0 100 [r.av] [(wholeM r).av] := by
  refine pcall_of Tryz.func100 rfl Tryz.ntmps100 (by kernel_rfl) rfl fun w0 I0 G0 => ?_
  refine aw_seq ?_
  refine aw_region ?_
  refine g_uG (s_box_imm 1001 rfl rfl rfl rfl) rfl ?_
  refine g_uG (s_alloc' 1002 rfl rfl rfl tZ181) rfl ?_
  refine g_nil ?_
  refine normal_thn ?_
  refine aw_seq ?_
  refine aw_draw mixed ?_
  refine g_u (s_load_imm rfl rfl rfl tA181 tS181 rfl rfl) ?_
  refine g_u (s_call1 (Begun_c _) rfl rfl) ?_
  refine g_u (s_load_imm rfl rfl rfl tA181 tS181 rfl rfl) ?_
  refine g_u (s_call1 (Lasts_c _) rfl rfl) ?_
  refine g_u (s_call2 (of_c _ _) rfl rfl) ?_
  refine g_u (s_mv_tup rfl rfl) ?_
  refine g_u (s_extract rfl rfl rfl rfl) ?_
  refine g_u (s_extract rfl rfl rfl rfl) ?_
  refine g_uG (s_alloc' 1003 rfl rfl rfl tZ181) rfl ?_
  refine g_u (s_store_imm rfl rfl rfl tS181 rfl rfl) ?_
  refine g_u (s_as_imm rfl rfl) ?_
  refine g_nil ⟨by kernel_rfl, ?_⟩
  refine normal_thn ?_
  refine aw_seq ?_
  refine aw_region ?_
  refine g_u (s_load_agg rfl rfl rfl tA181 tS181 rfl rfl) ?_
  refine g_u (s_store_imm rfl rfl rfl tS181 rfl rfl) ?_
  refine g_nil ?_
  refine normal_thn ?_
  refine aw_ret ?_
  exact ⟨⟨_, _, _, _, _, _, _, rfl, rfl, tA181, tS181, rfl, rfl, (rfl : toAV _ = some _).trans (congrArg some (by rfl))⟩, trivial⟩

attribute [local irreducible] wholeM ofR

set_option maxHeartbeats 400000 in
theorem rfine_c (s e : Int) : PCall Tryz.prog Γ0 104 [uv s, uv e] [bv (rFine s e)] := by
  refine pcall_of Tryz.func104 rfl Tryz.ntmps104 (by kernel_rfl) rfl fun w0 I0 G0 => ?_
  refine aw_seq ?_
  refine aw_region ?_
  refine g_u (s_as_imm rfl rfl) ?_
  refine g_nil ?_
  refine normal_thn ?_
  refine aw_seq ?_
  refine aw_region ?_
  refine g_u (s_mv_imm rfl rfl) ?_
  refine g_u (s_mv_imm rfl rfl) ?_
  refine g_u (s_leI rfl rfl rfl) ?_
  refine g_u (s_mv_imm rfl rfl) ?_
  refine g_case (t := 8) rfl ?_
  rintro (hb1 | hb1)
  · rw [hb1]
    refine g_run rfl rfl (s_mv_imm rfl rfl) ?_
    refine g_run rfl rfl (s_leI rfl rfl rfl) ?_
    refine g_u (s_pick_t rfl rfl rfl) ?_
    refine g_u (s_as_imm rfl rfl) ?_
    refine g_nil ?_
    refine normal_thn ?_
    refine aw_ret ?_
    exact ⟨⟨(rfl : toAV (Al.look _ _) = some _).trans (congrArg some (by (simp only [bv, rFine, *]; rfl))), rfl⟩, trivial⟩
  · rw [hb1]
    refine g_skip rfl rfl rfl ?_
    refine g_skip rfl rfl rfl ?_
    refine g_u (s_pick_f rfl rfl rfl) ?_
    refine g_u (s_as_imm rfl rfl) ?_
    refine g_nil ?_
    refine normal_thn ?_
    refine aw_ret ?_
    exact ⟨⟨(rfl : toAV (Al.look _ _) = some _).trans (congrArg some (by (simp only [bv, rFine, *]; rfl))), rfl⟩, trivial⟩

set_option maxHeartbeats 400000 in
theorem rbegun_c (s e : Int) : PCall Tryz.prog Γ0 73 [uv s, uv e] [iv (rBegun s e)] := by
  refine pcall_of Tryz.func73 rfl Tryz.ntmps73 (by kernel_rfl) rfl fun w0 I0 G0 => ?_
  refine aw_seq ?_
  refine aw_region ?_
  refine g_u (s_as_imm rfl rfl) ?_
  refine g_nil ?_
  refine normal_thn ?_
  refine aw_seq ?_
  refine aw_seq ?_
  refine aw_region ?_
  refine g_u (s_mv_imm rfl rfl) ?_
  refine g_u (s_mv_imm rfl rfl) ?_
  refine g_u (s_call1 (rfine_c _ _) rfl rfl) ?_
  refine g_u (s_not rfl rfl) ?_
  refine g_nil ?_
  refine normal_thn ?_
  refine aw_cond rfl (fun hb1 => ?_) (fun hb1 => ?_)
  · skip
    refine aw_seq ?_
    refine aw_region ?_
    refine g_u (s_as_imm rfl rfl) ?_
    refine g_nil ?_
    refine normal_thn ?_
    refine aw_ret ?_
    refine ret_thn ?_
    exact ⟨⟨(rfl : toAV (Al.look _ _) = some _).trans (congrArg some (by (simp only [iv, rBegun, rLasts]; simp only [Bool.not_eq_true', Bool.not_eq_false'] at *; simp only [*]; rfl))), rfl⟩, trivial⟩
  · skip
    refine aw_skip ?_
    refine normal_thn ?_
    refine aw_seq ?_
    refine aw_region ?_
    refine g_u (s_mv_imm rfl rfl) ?_
    refine g_u (s_call1 (rmicro_c _) rfl rfl) ?_
    refine g_u (s_as_imm rfl rfl) ?_
    refine g_nil ?_
    refine normal_thn ?_
    refine aw_ret ?_
    exact ⟨⟨(rfl : toAV (Al.look _ _) = some _).trans (congrArg some (by (simp only [iv, rBegun, rLasts]; simp only [Bool.not_eq_true', Bool.not_eq_false'] at *; simp only [*]; rfl))), rfl⟩, trivial⟩

set_option maxHeartbeats 400000 in
theorem rlasts_c (s e : Int) : PCall Tryz.prog Γ0 74 [uv s, uv e] [iv (rLasts s e)] := by
  refine pcall_of Tryz.func74 rfl Tryz.ntmps74 (by kernel_rfl) rfl fun w0 I0 G0 => ?_
  refine aw_seq ?_
  refine aw_region ?_
  refine g_u (s_as_imm rfl rfl) ?_
  refine g_nil ?_
  refine normal_thn ?_
  refine aw_seq ?_
  refine aw_seq ?_
  refine aw_region ?_
  refine g_u (s_mv_imm rfl rfl) ?_
  refine g_u (s_mv_imm rfl rfl) ?_
  refine g_u (s_call1 (rfine_c _ _) rfl rfl) ?_
  refine g_u (s_not rfl rfl) ?_
  refine g_nil ?_
  refine normal_thn ?_
  refine aw_cond rfl (fun hb1 => ?_) (fun hb1 => ?_)
  · skip
    refine aw_seq ?_
    refine aw_region ?_
    refine g_u (s_as_imm rfl rfl) ?_
    refine g_nil ?_
    refine normal_thn ?_
    refine aw_ret ?_
    refine ret_thn ?_
    exact ⟨⟨(rfl : toAV (Al.look _ _) = some _).trans (congrArg some (by (simp only [iv, rBegun, rLasts]; simp only [Bool.not_eq_true', Bool.not_eq_false'] at *; simp only [*]; rfl))), rfl⟩, trivial⟩
  · skip
    refine aw_skip ?_
    refine normal_thn ?_
    refine aw_seq ?_
    refine aw_region ?_
    refine g_u (s_mv_imm rfl rfl) ?_
    refine g_u (s_mv_imm rfl rfl) ?_
    refine g_u (s_sub rfl rfl rfl) ?_
    refine g_u (s_call1 (rmicro_c _) rfl rfl) ?_
    refine g_u (s_as_imm rfl rfl) ?_
    refine g_nil ?_
    refine normal_thn ?_
    refine aw_ret ?_
    exact ⟨⟨(rfl : toAV (Al.look _ _) = some _).trans (congrArg some (by (simp only [iv, rBegun, rLasts]; simp only [Bool.not_eq_true', Bool.not_eq_false'] at *; simp only [*]; rfl))), rfl⟩, trivial⟩

end Go.Proofs

namespace Go.Proofs
open Go Go.Al
set_option maxRecDepth 10000
theorem nil2nd {P : Program} {Γ : List (Nat × AV)} {f : FuncId} {n : Nat} {x : AV} {xs rs : List AV} (c : PCall P Γ f (x :: .sl n [] :: xs) rs) : PCall P Γ f (x :: .v (.slice none 0 0) :: xs) rs := c.args ⟨Up.refl _, Up.nil n, Ups.refl xs⟩

set_option maxHeartbeats 400000 in
theorem kept_c (l : List GA) (ks : List ByteArray) (ho : ∀ a ∈ l, a.ok) (hw : wtAs l ≤ 9000000) (hk : ks.length ≤ 1000000000) : PCall Tryz.prog Γ0 67 [(.sl 7 (l.map avA)), (.sl 1 (ks.map fun x => sv x))] [.sl 7 ((keptA ks l).map avA)] := by
  have hl := len_wtAs l
  refine pcall_of Tryz.func67 rfl Tryz.ntmps67 (by kernel_rfl) rfl fun w0 I0 G0 => ?_
  refine aw_seq ?_
  refine aw_region ?_
  refine g_u (s_as_imm rfl rfl) ?_
  refine g_nil ?_
  refine normal_thn ?_
  refine aw_seq ?_
  refine aw_region ?_
  refine g_u (s_mv_imm rfl rfl) ?_
  refine g_u (s_buildSlice (X0 := z5) rfl Tryz.underlying85 tS5 tZ5 rfl rfl rfl rfl rfl rfl rfl rfl) ?_
  refine g_u (s_call1 (plainAs_c l nJ ho (by omega) (by decide)) rfl rfl) ?_
  refine g_u (s_mv_imm rfl rfl) ?_
  refine g_u (s_call1 (drop_c (l.map (plainA nJ)) ks (by rw [List.length_map]; omega) hk) rfl rfl) ?_
  refine g_u (s_as_imm rfl rfl) ?_
  refine g_nil ?_
  refine normal_thn ?_
  refine aw_ret ?_
  exact ⟨⟨(rfl : toAV (Al.look _ _) = some _).trans (congrArg some (by rfl)), rfl⟩, trivial⟩

set_option maxHeartbeats 400000 in
theorem wholeN_c (n : Int) : PCall Tryz.prog Γ0 156 [uv n] [uv (wholeN n)] := by
  refine pcall_of Tryz.func156 rfl Tryz.ntmps156 (by kernel_rfl) rfl fun w0 I0 G0 => ?_
  refine aw_seq ?_
  refine aw_region ?_
  refine g_u (s_as_imm rfl rfl) ?_
  refine g_nil ?_
  refine normal_thn ?_
  refine aw_seq ?_
  refine aw_region ?_
  refine g_u (s_mv_imm rfl rfl) ?_
  refine g_u (s_call1 (micro_c _) rfl rfl) ?_
  refine g_u (s_call2 (nano_c _) rfl rfl) ?_
  refine g_u (s_mv_tup rfl rfl) ?_
  refine g_u (s_extract rfl rfl rfl rfl) ?_
  refine g_u (s_extract rfl rfl rfl rfl) ?_
  refine g_u (s_as_imm rfl rfl) ?_
  refine g_u (s_as_imm rfl rfl) ?_
  refine g_nil ?_
  refine normal_thn ?_
  refine aw_seq ?_
  refine aw_region ?_
  refine g_u (s_mv_imm rfl rfl) ?_
  refine g_u (s_as_imm rfl rfl) ?_
  refine g_nil ?_
  refine normal_thn ?_
  refine aw_ret ?_
  exact ⟨⟨(rfl : toAV (Al.look _ _) = some _).trans (congrArg some (by rfl)), rfl⟩, trivial⟩

set_option maxHeartbeats 400000 in
theorem njE_c (e : GE) (ho : e.ok) (hw : e.wt ≤ 9000000) : PCall Tryz.prog Γ0 101 [e.av] [(njE e).av] := by
  have q : e.wt = 1 + e.name.size + wtAs e.attrs := rfl
  refine pcall_of Tryz.func101 rfl Tryz.ntmps101 (by kernel_rfl) rfl fun w0 I0 G0 => ?_
  refine aw_seq ?_
  refine aw_region ?_
  refine g_uG (s_box_imm 1001 rfl rfl rfl rfl) rfl ?_
  refine g_uG (s_alloc' 1002 rfl rfl rfl tZ95) rfl ?_
  refine g_nil ?_
  refine normal_thn ?_
  refine aw_seq ?_
  refine aw_draw mixed ?_
  refine g_u (s_fieldAddr rfl rfl fa95_0 rfl) ?_
  refine g_u (s_load_imm rfl rfl rfl tA45 tS45 rfl rfl) ?_
  refine g_u (s_call1 (wholeN_c _) rfl rfl) ?_
  refine g_u (s_fieldAddr rfl rfl fa95_1 rfl) ?_
  refine g_u (s_load_imm rfl rfl rfl tA9 tS9 rfl rfl) ?_
  refine g_u (s_fieldAddr rfl rfl fa95_2 rfl) ?_
  refine g_u (s_load_imm rfl rfl rfl tA46 tS46 rfl rfl) ?_
  refine g_u (s_buildSlice (X0 := z9) rfl Tryz.underlying31 tS9 tZ9 rfl rfl rfl rfl rfl rfl rfl rfl) ?_
  refine g_u (s_call1 (kept_c e.attrs [k_event] ho.2.2 (by omega) (by decide)) rfl rfl) ?_
  refine g_u (s_build rfl tU95 us95 pl95 rfl rfl rfl rfl) ?_
  refine g_u (s_store_imm rfl rfl rfl tS95 rfl rfl) ?_
  refine g_nil ⟨by kernel_rfl, ?_⟩
  refine normal_thn ?_
  refine aw_ret ?_
  exact ⟨⟨_, _, _, _, _, _, _, rfl, rfl, tA95, tS95, rfl, rfl, (rfl : toAV _ = some _).trans (congrArg some (by rfl))⟩, trivial⟩

set_option maxHeartbeats 8000000 in
theorem njS_c (s : GSpan) (ho : s.ok) (hw : s.wt ≤ 9000000) : PCall Tryz.prog Γ0 69 [s.av] [(njS s).av] := by
  have qw : s.wt = 1 + s.state.size + s.name.size + s.note.size + wtAs s.attrs + sumBy GE.wt s.events + sumBy GL.wt s.links := rfl
  have ql := sumBy_len GE.wt (fun e => by unfold GE.wt; omega) s.events
  have qm := sumBy_len GL.wt (fun e => by unfold GL.wt; omega) s.links
  refine pcall_of Tryz.func69 rfl Tryz.ntmps69 (by kernel_rfl) rfl fun w0 I0 G0 => ?_
  refine aw_seq ?_
  refine aw_region ?_
  refine g_uG (s_box_imm 1001 rfl rfl rfl rfl) rfl ?_
  refine g_uG (s_alloc' 1002 rfl rfl rfl tZ52) rfl ?_
  refine g_nil ?_
  refine normal_thn ?_
  refine aw_seq ?_
  refine aw_region ?_
  refine g_u (s_fieldAddr rfl rfl fa52_6 rfl) ?_
  refine g_u (s_load_imm rfl rfl rfl tA45 tS45 rfl rfl) ?_
  refine g_u (s_fieldAddr rfl rfl fa52_7 rfl) ?_
  refine g_u (s_load_imm rfl rfl rfl tA45 tS45 rfl rfl) ?_
  refine g_u (s_build rfl tU181 us181 pl181 rfl rfl rfl rfl) ?_
  refine g_u (s_call1 (whole_c ⟨_, _⟩) rfl rfl) ?_
  refine g_uG (s_alloc' 1003 rfl rfl rfl tZ181) rfl ?_
  refine g_u (s_store_imm rfl rfl rfl tS181 rfl rfl) ?_
  refine g_nil ?_
  refine normal_thn ?_
  refine aw_seq ?_
  refine aw_region ?_
  refine g_u (s_load_imm rfl rfl rfl tA52 tS52 rfl (by first | exact getS_w (GSpan.width _) rfl | rfl)) ?_
  refine g_uG (s_alloc' 1004 rfl rfl rfl tZ52) rfl ?_
  refine g_u (s_store_imm rfl rfl rfl tS52 (by first | exact beqW (GSpan.width _) | rfl) (by first | exact setS_w (z52_w.trans (GSpan.width _).symm) rfl | rfl)) ?_
  refine g_nil ?_
  refine normal_thn ?_
  refine aw_seq ?_
  refine aw_draw mixed ?_
  refine g_u (s_fieldAddr rfl rfl fa181_0 rfl) ?_
  refine g_u (s_load_imm rfl rfl rfl tA45 tS45 rfl rfl) ?_
  refine g_u (s_fieldAddr rfl rfl fa181_1 rfl) ?_
  refine g_u (s_load_imm rfl rfl rfl tA45 tS45 rfl rfl) ?_
  refine g_u (s_fieldAddr rfl rfl fa52_3 rfl) ?_
  refine g_u (s_store_imm rfl rfl rfl tS9 rfl rfl) ?_
  refine g_u (s_fieldAddr rfl rfl fa52_6 rfl) ?_
  refine g_u (s_store_imm rfl rfl rfl tS45 rfl rfl) ?_
  refine g_u (s_fieldAddr rfl rfl fa52_7 rfl) ?_
  refine g_u (s_store_imm rfl rfl rfl tS45 rfl rfl) ?_
  refine g_nil ⟨by kernel_rfl, ?_⟩
  refine normal_thn ?_
  refine aw_seq ?_
  refine aw_region ?_
  refine g_u (s_fieldAddr rfl rfl fa52_8 rfl) ?_
  refine g_u (s_load_imm rfl rfl rfl tA46 tS46 rfl rfl) ?_
  refine g_u (s_buildSlice (X0 := z9) rfl Tryz.underlying31 tS9 tZ9 rfl rfl rfl rfl rfl rfl rfl rfl) ?_
  refine g_u (s_call1 (kept_c s.attrs k4 ho.2.2.2.1 (by omega) (by decide)) rfl rfl) ?_
  refine g_u (s_fieldAddr rfl rfl fa52_8 rfl) ?_
  refine g_u (s_store_imm rfl rfl rfl tS46 rfl rfl) ?_
  refine g_nil ?_
  refine normal_thn ?_
  refine aw_seq ?_
  refine aw_region ?_
  refine g_u (s_fieldAddr rfl rfl fa52_9 rfl) ?_
  refine g_u (s_store_imm rfl rfl rfl tS47 rfl rfl) ?_
  refine g_u (s_fieldAddr rfl rfl fa52_10 rfl) ?_
  refine g_u (s_store_imm rfl rfl rfl tS48 rfl rfl) ?_
  refine g_nil ?_
  refine normal_thn ?_
  refine aw_seq ?_
  refine aw_seq ?_
  refine aw_newtokB 3009 1004 3 38 rfl rfl rfl rfl rfl rfl rfl ?_
  refine aw_region ?_
  refine g_u (s_fieldAddr rfl rfl fa52_9 rfl) ?_
  refine g_u (s_load_imm rfl rfl rfl tA47 tS47 rfl rfl) ?_
  refine g_u (s_lenL rfl rfl Tryz.underlying47) ?_
  refine g_u (s_mv_imm rfl rfl) ?_
  refine g_nil ?_
  refine normal_thn ?_
  refine aw_block ?_
  refine aw_loop' (fun i : Nat => [(1, .ptr 1001 0), (1001, .box 52 (.imm s.av)), (2, .ptr 1002 0), (1002, .box 52 (.imm z52)), (4, .ptr 1004 0), (1004, .box 52 (.agg [.imm (.arr 16 s.trace), .imm (.arr 8 s.id), .imm (.arr 8 s.parent), .imm (sv ⟨#[]⟩), .imm (sv s.name), .imm (iv s.kind), .imm (uv (wholeM ⟨s.start, s.fin⟩).lo), .imm (uv (wholeM ⟨s.start, s.fin⟩).hi), .imm (.sl 7 ((keptA k4 s.attrs).map avA)), .slg 3009 3 ((s.events.take i).map fun e => (njE e).av), .imm (.v (.slice none 0 0)), .imm (.agg [iv s.code, sv s.note])])), (3009, .tok 3 ((s.events.take i).map fun e => (njE e).av)), (31, .imm (.sl 3 (s.events.map GE.av))), (32, .imm (iv (s.events.length : Int))), (33, .imm (iv (i : Int)))]) (fun i => i ≤ s.events.length) (fun i => s.events.length - i) (0) ?_ ⟨rfl, rfl, rfl, rfl, rfl, rfl, rfl, rfl, look_int rfl (by rw [List.length_map]), rfl, trivial⟩ ?_
  · exact Nat.zero_le _
  · rintro i h1; have h1 : i ≤ s.events.length := h1
    refine aw_seq ?_
    refine aw_region ?_
    refine g_u (s_ltI rfl rfl rfl) ?_
    refine g_nil ?_
    refine normal_thn ?_
    refine aw_seq ?_
    refine aw_cond rfl (fun hb1 => ?_) (fun hb1 => ?_)
    · skip
      have hi : i < s.events.length := by have := of_decide_eq_true hb1; (try simp only [List.length_map] at this); omega
      have hex := sumBy_mem GE.wt (nthE_mem hi)
      have heq : (nthE s.events i).wt = 1 + (nthE s.events i).name.size + wtAs (nthE s.events i).attrs := rfl
      have heo := ho.2.2.2.2.1 _ (nthE_mem hi)
      refine aw_skip ?_
      refine normal_thn ?_
      refine aw_seq ?_
      refine aw_block ?_
      refine aw_seq ?_
      refine aw_region ?_
      refine g_u (s_indexAddr rfl rfl rfl Tryz.underlying47 tS95 (by omega) (ixE hi)) ?_
      refine g_u (s_load_cp rfl rfl tA95 tS95 rfl rfl) ?_
      refine g_uG (s_alloc' 1006 rfl rfl rfl tZ95) rfl ?_
      refine g_u (s_store_imm rfl rfl rfl tS95 rfl rfl) ?_
      refine g_nil ?_
      refine normal_thn ?_
      refine aw_draw mixed ?_
      refine g_u (s_fieldAddr rfl rfl fa52_9 rfl) ?_
      refine g_u (s_load_slg rfl rfl rfl tA47 tS47 rfl rfl) ?_
      refine g_u (s_load_agg rfl rfl rfl tA95 tS95 rfl rfl) ?_
      refine g_u (s_call1 (njE_c (nthE s.events i) heo (by omega)) rfl rfl) ?_
      refine g_u (s_buildSlice (X0 := z95) rfl Tryz.underlying47 tS95 tZ95 rfl rfl rfl rfl rfl rfl rfl rfl) ?_
      refine g_u (s_append rfl rfl rfl rfl rfl Tryz.underlying47 Tryz.underlying47 tS95 zv95 rfl (by decide) by95 (by (try dsimp only); simp only [List.length_append, List.length_cons, List.length_nil, List.length_map, List.length_take, List.length_drop]; omega) (by (try dsimp only); simp only [List.length_append, List.length_cons, List.length_nil, List.length_map, List.length_take, List.length_drop]; omega)) ?_
      refine g_u (s_fieldAddr rfl rfl fa52_9 rfl) ?_
      refine g_u (s_store rfl rfl rfl rfl tS47 rfl rfl) ?_
      refine g_nil ⟨by kernel_rfl, ?_⟩
      refine normal_blk ?_
      refine normal_thn ?_
      refine aw_region ?_
      refine g_u (s_add rfl rfl rfl) ?_
      refine g_u (s_mv_imm rfl rfl) ?_
      refine g_nil ?_
      refine normal_thn ?_
      have et : ((s.events.take (i + 1)).map fun e => (njE e).av) = ((s.events.take i).map fun e => (njE e).av) ++ [(njE (nthE s.events i)).av] := by rw [take_snoc (nth_get (d := ge0) hi), List.map_append]; rfl
      refine ⟨i + 1, hi, ⟨rfl, rfl, rfl, rfl, rfl, (by rw [et]; rfl), look_tok rfl et.symm, rfl, rfl, look_int rfl (by rw [wrap64 (by omega) (by omega)]; rfl), trivial⟩, by (try dsimp only); omega⟩
    · skip
      have hin : i = s.events.length := by have := of_decide_eq_false hb1; (try simp only [List.length_map] at this); omega
      refine aw_exit ?_
      refine exit_thn ?_
      refine exit_thn ?_
      refine exit_blk ?_
      refine normal_thn ?_
      refine aw_seq ?_
      refine aw_seq ?_
      refine aw_newtokB 3010 1004 26 39 rfl rfl rfl rfl rfl rfl rfl ?_
      refine aw_region ?_
      refine g_u (s_fieldAddr rfl rfl fa52_10 rfl) ?_
      refine g_u (s_load_imm rfl rfl rfl tA48 tS48 rfl rfl) ?_
      refine g_u (s_lenL rfl rfl Tryz.underlying48) ?_
      refine g_u (s_mv_imm rfl rfl) ?_
      refine g_nil ?_
      refine normal_thn ?_
      refine aw_block ?_
      refine aw_loop' (fun j : Nat => [(1, .ptr 1001 0), (1001, .box 52 (.imm s.av)), (2, .ptr 1002 0), (1002, .box 52 (.imm z52)), (4, .ptr 1004 0), (1004, .box 52 (.agg [.imm (.arr 16 s.trace), .imm (.arr 8 s.id), .imm (.arr 8 s.parent), .imm (sv ⟨#[]⟩), .imm (sv s.name), .imm (iv s.kind), .imm (uv (wholeM ⟨s.start, s.fin⟩).lo), .imm (uv (wholeM ⟨s.start, s.fin⟩).hi), .imm (.sl 7 ((keptA k4 s.attrs).map avA)), .slg 3009 3 (s.events.map fun e => (njE e).av), .slg 3010 26 ((s.links.take j).map fun e => (njL e).av), .imm (.agg [iv s.code, sv s.note])])), (3010, .tok 26 ((s.links.take j).map fun e => (njL e).av)), (46, .imm (.sl 26 (s.links.map GL.av))), (47, .imm (iv (s.links.length : Int))), (48, .imm (iv (j : Int)))]) (fun j => j ≤ s.links.length) (fun j => s.links.length - j) (0) ?_ ⟨rfl, rfl, rfl, rfl, rfl, (by rw [hin, List.take_length]; rfl), rfl, rfl, look_int rfl (by rw [List.length_map]), rfl, trivial⟩ ?_
      · exact Nat.zero_le _
      · rintro j h1; have h1 : j ≤ s.links.length := h1
        refine aw_seq ?_
        refine aw_region ?_
        refine g_u (s_ltI rfl rfl rfl) ?_
        refine g_nil ?_
        refine normal_thn ?_
        refine aw_seq ?_
        refine aw_cond rfl (fun hb2 => ?_) (fun hb2 => ?_)
        · skip
          have hj : j < s.links.length := by have := of_decide_eq_true hb2; (try simp only [List.length_map] at this); omega
          refine aw_skip ?_
          refine normal_thn ?_
          refine aw_seq ?_
          refine aw_block ?_
          refine aw_seq ?_
          refine aw_region ?_
          refine g_u (s_indexAddr rfl rfl rfl Tryz.underlying48 tS107 (by omega) (ixL hj)) ?_
          refine g_u (s_load_cp rfl rfl tA107 tS107 rfl (by first | exact getS_w (GL.width _) rfl | rfl)) ?_
          refine g_uG (s_alloc' 1008 rfl rfl rfl tZ107) rfl ?_
          refine g_u (s_store_imm rfl rfl rfl tS107 (by first | exact beqW (GL.width _) | rfl) (by first | exact setS_w (z107_w.trans (GL.width _).symm) rfl | rfl)) ?_
          refine g_nil ?_
          refine normal_thn ?_
          refine aw_region ?_
          refine g_u (s_fieldAddr rfl rfl fa52_10 rfl) ?_
          refine g_u (s_load_slg rfl rfl rfl tA48 tS48 rfl rfl) ?_
          refine g_u (s_fieldAddr rfl rfl fa107_0 rfl) ?_
          refine g_u (s_load_agg rfl rfl rfl tA42 tS42 rfl rfl) ?_
          refine g_u (s_fieldAddr rfl rfl fa107_1 rfl) ?_
          refine g_u (s_load_imm rfl rfl rfl tA44 tS44 rfl rfl) ?_
          refine g_u (s_build rfl tU107 us107 pl107 rfl rfl rfl rfl) ?_
          refine g_u (s_buildSlice (X0 := z107) rfl Tryz.underlying48 tS107 tZ107 rfl rfl rfl rfl rfl rfl rfl rfl) ?_
          refine g_u (s_append rfl rfl rfl rfl rfl Tryz.underlying48 Tryz.underlying48 tS107 zv107 rfl (by decide) by107 (by (try dsimp only); simp only [List.length_append, List.length_cons, List.length_nil, List.length_map, List.length_take, List.length_drop]; omega) (by (try dsimp only); simp only [List.length_append, List.length_cons, List.length_nil, List.length_map, List.length_take, List.length_drop]; omega)) ?_
          refine g_u (s_fieldAddr rfl rfl fa52_10 rfl) ?_
          refine g_u (s_store rfl rfl rfl rfl tS48 rfl rfl) ?_
          refine g_nil ?_
          refine normal_blk ?_
          refine normal_thn ?_
          refine aw_region ?_
          refine g_u (s_add rfl rfl rfl) ?_
          refine g_u (s_mv_imm rfl rfl) ?_
          refine g_nil ?_
          refine normal_thn ?_
          have et : ((s.links.take (j + 1)).map fun e => (njL e).av) = ((s.links.take j).map fun e => (njL e).av) ++ [(njL (nthL s.links j)).av] := by rw [take_snoc (nth_get (d := gl0) hj), List.map_append]; rfl
          refine ⟨j + 1, hj, ⟨rfl, rfl, rfl, rfl, rfl, (by rw [et]; rfl), look_tok rfl et.symm, rfl, rfl, look_int rfl (by rw [wrap64 (by omega) (by omega)]; rfl), trivial⟩, by (try dsimp only); omega⟩
        · skip
          have hjn : j = s.links.length := by have := of_decide_eq_false hb2; (try simp only [List.length_map] at this); omega
          refine aw_exit ?_
          refine exit_thn ?_
          refine exit_thn ?_
          refine exit_blk ?_
          refine normal_thn ?_
          refine aw_seq ?_
          refine aw_region ?_
          refine g_u (s_load_agg rfl rfl rfl tA52 tS52 rfl rfl) ?_
          refine g_u (s_store_imm rfl rfl rfl tS52 (by first | exact beqW (GSpan.width _) | rfl) (by first | exact setS_w (z52_w.trans (GSpan.width _).symm) rfl | rfl)) ?_
          refine g_nil ?_
          refine normal_thn ?_
          refine aw_ret ?_
          exact ⟨⟨_, _, _, _, _, _, _, rfl, rfl, tA52, tS52, rfl, rfl, (rfl : toAV _ = some _).trans (congrArg some (by (rw [hjn, List.take_length]; show _ = GSpan.av (njS s); simp only [GSpan.av, njS, List.map_map]; rfl)))⟩, trivial⟩

set_option maxHeartbeats 400000 in
theorem named_c (l : List GA) (t : ByteArray) (hr : risA none l) (hl : l.length ≤ 10000000) : PCall Tryz.prog Γ0 39 [(.sl 7 (l.map avA)), sv t] [.sl 7 ((namedM l t).map avA)] := by
  refine pcall_of Tryz.func39 rfl Tryz.ntmps39 (by kernel_rfl) rfl fun w0 I0 G0 => ?_
  refine aw_seq ?_
  refine aw_region ?_
  refine g_u (s_as_imm rfl rfl) ?_
  refine g_nil ?_
  refine normal_thn ?_
  refine aw_seq ?_
  refine aw_seq ?_
  refine aw_region ?_
  refine g_u (s_mv_imm rfl rfl) ?_
  refine g_u (s_eqS rfl rfl rfl) ?_
  refine g_nil ?_
  refine normal_thn ?_
  refine aw_cond rfl (fun hb1 => ?_) (fun hb1 => ?_)
  · skip
    have q : t = ⟨#[]⟩ := by have e := hb1; rw [str_beq] at e; exact of_decide_eq_true e
    refine aw_seq ?_
    refine aw_region ?_
    refine g_u (s_mv_imm rfl rfl) ?_
    refine g_u (s_buildSlice (X0 := z9) rfl Tryz.underlying31 tS9 tZ9 rfl rfl rfl rfl rfl rfl rfl rfl) ?_
    refine g_u (s_call1 (drop_c l [skey] hl (by decide)) rfl rfl) ?_
    refine g_u (s_as_imm rfl rfl) ?_
    refine g_nil ?_
    refine normal_thn ?_
    refine aw_ret ?_
    refine ret_thn ?_
    exact ⟨⟨(rfl : toAV (Al.look _ _) = some _).trans (congrArg some (by (exact congrArg (fun x : List GA => AV.sl 7 (x.map avA)) (by unfold namedM; first | rw [if_pos q] | (rw [if_neg q]; done) | rw [if_neg q, into_drop hr])))), rfl⟩, trivial⟩
  · skip
    have q : ¬ t = ⟨#[]⟩ := by have e := hb1; rw [str_beq] at e; exact of_decide_eq_false e
    refine aw_skip ?_
    refine normal_thn ?_
    refine aw_seq ?_
    refine aw_region ?_
    refine g_u (s_mv_imm rfl rfl) ?_
    refine g_u (s_mv_imm rfl rfl) ?_
    refine g_u (s_build rfl tU91 us91 pl91 rfl rfl rfl rfl) ?_
    refine g_u (s_call1 (putA_c l skey (tv t) hr hl) rfl rfl) ?_
    refine g_u (s_as_imm rfl rfl) ?_
    refine g_nil ?_
    refine normal_thn ?_
    refine aw_ret ?_
    exact ⟨⟨(rfl : toAV (Al.look _ _) = some _).trans (congrArg some (by (exact congrArg (fun x : List GA => AV.sl 7 (x.map avA)) (by unfold namedM; first | rw [if_pos q] | (rw [if_neg q]; done) | rw [if_neg q, into_drop hr])))), rfl⟩, trivial⟩

set_option maxHeartbeats 4000000 in
theorem njR_c (r : GRes) (ho : r.ok) (hw : r.wt ≤ 9000000) (hr : risA none r.attrs) : PCall Tryz.prog Γ0 40 [r.av] [(njR r).av] := by
  have qw : r.wt = 1 + wtAs r.attrs + sumBy GScope.wt r.scopes := rfl
  have qc := sumBy_len GScope.wt (fun e => by unfold GScope.wt; omega) r.scopes
  have qa := len_wtAs r.attrs
  have hkr := ris_kept [] hr
  have hkl : (keptA [] r.attrs).length ≤ r.attrs.length := by unfold keptA; have := dropA_len [] (r.attrs.map (plainA nJ)); rw [List.length_map] at this; exact this
  have qsp := spansOf_len r.scopes
  refine pcall_of Tryz.func40 rfl Tryz.ntmps40 (by kernel_rfl) rfl fun w0 I0 G0 => ?_
  refine aw_seq ?_
  refine aw_region ?_
  refine g_uG (s_box_imm 1001 rfl rfl rfl rfl) rfl ?_
  refine g_uG (s_alloc' 1002 rfl rfl rfl tZ58) rfl ?_
  refine g_nil ?_
  refine normal_thn ?_
  refine aw_seq ?_
  refine aw_draw mixed ?_
  refine g_u (s_fieldAddr rfl rfl fa58_0 rfl) ?_
  refine g_u (s_load_imm rfl rfl rfl tA46 tS46 rfl rfl) ?_
  refine g_u (s_call1 (nil2nd (n := 1) (kept_c r.attrs [] ho.1 (by omega) (by decide))) rfl rfl) ?_
  refine g_u (s_load_imm rfl rfl rfl tA58 tS58 rfl rfl) ?_
  refine g_u (s_call1 (service_c r ho.1 (by omega) hr) rfl rfl) ?_
  refine g_u (s_call1 (named_c (keptA [] r.attrs) (serviceM r) hkr (by omega)) rfl rfl) ?_
  refine g_u (s_build rfl tU58 us58 pl58 rfl rfl rfl rfl) ?_
  refine g_uG (s_alloc' 1003 rfl rfl rfl tZ58) rfl ?_
  refine g_u (s_store_imm rfl rfl rfl tS58 rfl rfl) ?_
  refine g_nil ⟨by kernel_rfl, ?_⟩
  refine normal_thn ?_
  refine aw_seq ?_
  refine aw_region ?_
  refine g_u (s_as_imm rfl rfl) ?_
  refine g_nil ?_
  refine normal_thn ?_
  refine aw_seq ?_
  refine aw_seq ?_
  refine aw_newtok 3004 4 42 rfl rfl rfl rfl ?_
  refine aw_region ?_
  refine g_u (s_fieldAddr rfl rfl fa58_1 rfl) ?_
  refine g_u (s_load_imm rfl rfl rfl tA56 tS56 rfl rfl) ?_
  refine g_u (s_lenL rfl rfl Tryz.underlying56) ?_
  refine g_u (s_mv_imm rfl rfl) ?_
  refine g_nil ?_
  refine normal_thn ?_
  refine aw_block ?_
  refine aw_loop' (fun i : Nat => [(2, .ptr 1002 0), (1002, .box 58 (.imm z58)), (3, .ptr 1003 0), (1003, .box 58 (.imm (.agg [.sl 7 ((namedM (keptA [] r.attrs) (serviceM r)).map avA), .sl 3 []]))), (17, .imm (.sl 3 (r.scopes.map GScope.av))), (18, .imm (iv (r.scopes.length : Int))), (4, .slg 3004 42 ((spansOf (r.scopes.take i)).map fun x => (njS x).av)), (3004, .tok 42 ((spansOf (r.scopes.take i)).map fun x => (njS x).av)), (19, .imm (iv (i : Int)))]) (fun i => i ≤ r.scopes.length) (fun i => r.scopes.length - i) (0) ?_ ⟨rfl, rfl, rfl, rfl, rfl, look_int rfl (by rw [List.length_map]), rfl, rfl, rfl, trivial⟩ ?_
  · exact Nat.zero_le _
  · rintro i h1; have h1 : i ≤ r.scopes.length := h1
    refine aw_seq ?_
    refine aw_region ?_
    refine g_u (s_ltI rfl rfl rfl) ?_
    refine g_nil ?_
    refine normal_thn ?_
    refine aw_seq ?_
    refine aw_cond rfl (fun hb1 => ?_) (fun hb1 => ?_)
    · skip
      have hi : i < r.scopes.length := by have := of_decide_eq_true hb1; (try simp only [List.length_map] at this); omega
      have hcx := sumBy_mem GScope.wt (nthC_mem hi)
      have hcq : (nthC r.scopes i).wt = 1 + (nthC r.scopes i).name.size + (nthC r.scopes i).version.size + sumBy GSpan.wt (nthC r.scopes i).spans := rfl
      have hco := ho.2 _ (nthC_mem hi)
      have hcl := sumBy_len GSpan.wt (fun e => by unfold GSpan.wt; omega) (nthC r.scopes i).spans
      have hst : (spansOf (r.scopes.take i)).length + (nthC r.scopes i).spans.length ≤ (spansOf r.scopes).length := by have := congrArg List.length (spansOf_take hi); rw [List.length_append] at this; have h3 := spansOf_append (r.scopes.take (i + 1)) (r.scopes.drop (i + 1)); rw [List.take_append_drop] at h3; have h4 := congrArg List.length h3; rw [List.length_append] at h4; omega
      refine aw_skip ?_
      refine normal_thn ?_
      refine aw_seq ?_
      refine aw_block ?_
      refine aw_seq ?_
      refine aw_region ?_
      refine g_u (s_indexAddr rfl rfl rfl Tryz.underlying56 tS55 (by omega) (ixC hi)) ?_
      refine g_u (s_load_cp rfl rfl tA55 tS55 rfl rfl) ?_
      refine g_uG (s_alloc' 1006 rfl rfl rfl tZ55) rfl ?_
      refine g_u (s_store_imm rfl rfl rfl tS55 rfl rfl) ?_
      refine g_nil ?_
      refine normal_thn ?_
      refine aw_seq ?_
      refine aw_region ?_
      refine g_u (s_fieldAddr rfl rfl fa55_2 rfl) ?_
      refine g_u (s_load_imm rfl rfl rfl tA53 tS53 rfl rfl) ?_
      refine g_u (s_lenL rfl rfl Tryz.underlying53) ?_
      refine g_u (s_mv_imm rfl rfl) ?_
      refine g_nil ?_
      refine normal_thn ?_
      refine aw_block ?_
      refine aw_loop' (fun j : Nat => [(2, .ptr 1002 0), (1002, .box 58 (.imm z58)), (3, .ptr 1003 0), (1003, .box 58 (.imm (.agg [.sl 7 ((namedM (keptA [] r.attrs) (serviceM r)).map avA), .sl 3 []]))), (17, .imm (.sl 3 (r.scopes.map GScope.av))), (18, .imm (iv (r.scopes.length : Int))), (4, .slg 3004 42 (((spansOf (r.scopes.take i)).map fun x => (njS x).av) ++ (((nthC r.scopes i).spans.take j).map fun x => (njS x).av))), (3004, .tok 42 (((spansOf (r.scopes.take i)).map fun x => (njS x).av) ++ (((nthC r.scopes i).spans.take j).map fun x => (njS x).av))), (19, .imm (iv (i : Int))), (24, .imm (.sl 42 ((nthC r.scopes i).spans.map GSpan.av))), (25, .imm (iv ((nthC r.scopes i).spans.length : Int))), (26, .imm (iv (j : Int)))]) (fun j => j ≤ (nthC r.scopes i).spans.length) (fun j => (nthC r.scopes i).spans.length - j) (0) ?_ ⟨rfl, rfl, rfl, rfl, rfl, rfl, look_slg rfl (by simp), look_tok rfl (by simp), rfl, rfl, look_int rfl (by rw [List.length_map]), rfl, trivial⟩ ?_
      · exact Nat.zero_le _
      · rintro j g1; have g1 : j ≤ (nthC r.scopes i).spans.length := g1
        refine aw_seq ?_
        refine aw_region ?_
        refine g_u (s_ltI rfl rfl rfl) ?_
        refine g_nil ?_
        refine normal_thn ?_
        refine aw_seq ?_
        refine aw_cond rfl (fun hb2 => ?_) (fun hb2 => ?_)
        · skip
          have hj : j < (nthC r.scopes i).spans.length := by have := of_decide_eq_true hb2; (try simp only [List.length_map] at this); omega
          have hsx := sumBy_mem GSpan.wt (nthS_mem hj)
          have hso := hco.2.2 _ (nthS_mem hj)
          refine aw_skip ?_
          refine normal_thn ?_
          refine aw_seq ?_
          refine aw_block ?_
          refine aw_seq ?_
          refine aw_region ?_
          refine g_u (s_indexAddr rfl rfl rfl Tryz.underlying53 tS52 (by omega) (ixS hj)) ?_
          refine g_u (s_load_cp rfl rfl tA52 tS52 rfl (by first | exact getS_w (GSpan.width _) rfl | rfl)) ?_
          refine g_uG (s_alloc' 1008 rfl rfl rfl tZ52) rfl ?_
          refine g_u (s_store_imm rfl rfl rfl tS52 (by first | exact beqW (GSpan.width _) | rfl) (by first | exact setS_w (z52_w.trans (GSpan.width _).symm) rfl | rfl)) ?_
          refine g_nil ?_
          refine normal_thn ?_
          refine aw_region ?_
          refine g_u (s_mv_slg rfl rfl) ?_
          refine g_u (s_load_imm rfl rfl rfl tA52 tS52 rfl (by first | exact getS_w (GSpan.width _) rfl | rfl)) ?_
          refine g_u (s_call1 (njS_c _ hso (by omega)) rfl rfl) ?_
          refine g_u (s_buildSlice (X0 := z52) rfl Tryz.underlying53 tS52 tZ52 rfl rfl rfl rfl rfl rfl rfl rfl) ?_
          refine g_u (s_append rfl rfl rfl rfl rfl Tryz.underlying53 Tryz.underlying53 tS52 zv52 rfl (by decide) by52 (by (try dsimp only); simp only [List.length_append, List.length_cons, List.length_nil, List.length_map, List.length_take, List.length_drop]; omega) (by (try dsimp only); simp only [List.length_append, List.length_cons, List.length_nil, List.length_map, List.length_take, List.length_drop]; omega)) ?_
          refine g_u (s_as_slg rfl rfl) ?_
          refine g_nil ?_
          refine normal_blk ?_
          refine normal_thn ?_
          refine aw_region ?_
          refine g_u (s_add rfl rfl rfl) ?_
          refine g_u (s_mv_imm rfl rfl) ?_
          refine g_nil ?_
          refine normal_thn ?_
          have et : (((spansOf (r.scopes.take i)).map fun x => (njS x).av) ++ (((nthC r.scopes i).spans.take (j + 1)).map fun x => (njS x).av)) = (((spansOf (r.scopes.take i)).map fun x => (njS x).av) ++ (((nthC r.scopes i).spans.take j).map fun x => (njS x).av)) ++ [(njS (nthS (nthC r.scopes i).spans j)).av] := by rw [take_snoc (nth_get (d := gs0) hj), List.map_append, List.append_assoc]; rfl
          refine ⟨j + 1, hj, ⟨rfl, rfl, rfl, rfl, rfl, rfl, look_slg rfl et.symm, look_tok rfl et.symm, rfl, rfl, rfl, look_int rfl (by rw [wrap64 (by omega) (by omega)]; rfl), trivial⟩, by (try dsimp only); omega⟩
        · skip
          have hjn : j = (nthC r.scopes i).spans.length := by have := of_decide_eq_false hb2; (try simp only [List.length_map] at this); omega
          refine aw_exit ?_
          refine exit_thn ?_
          refine exit_thn ?_
          refine exit_blk ?_
          refine normal_blk ?_
          refine normal_thn ?_
          refine aw_region ?_
          refine g_u (s_add rfl rfl rfl) ?_
          refine g_u (s_mv_imm rfl rfl) ?_
          refine g_nil ?_
          refine normal_thn ?_
          have et : ((spansOf (r.scopes.take (i + 1))).map fun x => (njS x).av) = (((spansOf (r.scopes.take i)).map fun x => (njS x).av) ++ (((nthC r.scopes i).spans.take j).map fun x => (njS x).av)) := by rw [spansOf_take hi, List.map_append, hjn, List.take_length]
          refine ⟨i + 1, hi, ⟨rfl, rfl, rfl, rfl, rfl, rfl, look_slg rfl et.symm, look_tok rfl et.symm, look_int rfl (by rw [wrap64 (by omega) (by omega)]; rfl), trivial⟩, by (try dsimp only); omega⟩
    · skip
      have hin : i = r.scopes.length := by have := of_decide_eq_false hb1; (try simp only [List.length_map] at this); omega
      refine aw_exit ?_
      refine exit_thn ?_
      refine exit_thn ?_
      refine exit_blk ?_
      refine normal_thn ?_
      refine aw_seq ?_
      refine aw_seq ?_
      refine aw_region ?_
      refine g_u (s_mv_slg rfl rfl) ?_
      refine g_u (s_lenL rfl rfl Tryz.underlying53) ?_
      refine g_u (s_gtI rfl rfl rfl) ?_
      refine g_nil ?_
      refine normal_thn ?_
      refine aw_cond rfl (fun hb3 => ?_) (fun hb3 => ?_)
      · skip
        have q : ((spansOf (r.scopes.take i)).length : Int) > 0 := by have e := of_decide_eq_true hb3; simp only [List.length_map] at e; omega
        refine aw_region ?_
        refine g_u (s_mv_slg rfl rfl) ?_
        refine g_u (s_build rfl tU55 us55 pl55 rfl rfl rfl rfl) ?_
        refine g_u (s_buildSlice (X0 := z55) rfl Tryz.underlying56 tS55 tZ55 rfl rfl rfl rfl rfl rfl rfl rfl) ?_
        refine g_u (s_fieldAddr rfl rfl fa58_1 rfl) ?_
        refine g_u (s_store rfl rfl rfl rfl tS56 rfl rfl) ?_
        refine g_nil ?_
        refine normal_thn ?_
        refine aw_seq ?_
        refine aw_region ?_
        refine g_u (s_load_agg rfl rfl rfl tA58 tS58 rfl rfl) ?_
        refine g_u (s_store_imm rfl rfl rfl tS58 rfl rfl) ?_
        refine g_nil ?_
        refine normal_thn ?_
        refine aw_ret ?_
        exact ⟨⟨_, _, _, _, _, _, _, rfl, rfl, tA58, tS58, rfl, rfl, (rfl : toAV _ = some _).trans (congrArg some (by (rw [hin, List.take_length] at *; show _ = GRes.av (njR r); unfold njR scopeJ; first | (rw [if_pos (by rw [List.length_map]; omega)]; simp only [GRes.av, GScope.av, List.map_cons, List.map_nil, List.map_map]; rfl) | (rw [if_neg (by rw [List.length_map]; omega)]; rfl))))⟩, trivial⟩
      · skip
        have q : ¬ ((spansOf (r.scopes.take i)).length : Int) > 0 := by have e := of_decide_eq_false hb3; simp only [List.length_map] at e; omega
        refine aw_skip ?_
        refine normal_thn ?_
        refine aw_seq ?_
        refine aw_region ?_
        refine g_u (s_load_imm rfl rfl rfl tA58 tS58 rfl rfl) ?_
        refine g_u (s_store_imm rfl rfl rfl tS58 rfl rfl) ?_
        refine g_nil ?_
        refine normal_thn ?_
        refine aw_ret ?_
        exact ⟨⟨_, _, _, _, _, _, _, rfl, rfl, tA58, tS58, rfl, rfl, (rfl : toAV _ = some _).trans (congrArg some (by (rw [hin, List.take_length] at *; show _ = GRes.av (njR r); unfold njR scopeJ; first | (rw [if_pos (by rw [List.length_map]; omega)]; simp only [GRes.av, GScope.av, List.map_cons, List.map_nil, List.map_map]; rfl) | (rw [if_neg (by rw [List.length_map]; omega)]; rfl))))⟩, trivial⟩

end Go.Proofs

namespace Go.Proofs
open Go Go.Al

/-! ### What Jaeger's format keeps: sizes, ranges, and that it stays -/
theorem wholeN_rg (n : Int) : u64 (wholeN n) := by have := nano_rg (microM n); unfold u64 wholeN; omega
theorem ofR_rg (b l : Int) : u64 (ofR b l).lo ∧ u64 (ofR b l).hi := by
  have h := nano_rg b
  unfold ofR
  split
  · unfold u64; simp
  · refine ⟨by unfold u64; dsimp only; omega, ?_⟩
    unfold u64
    dsimp only
    simp only [IntKind.wrap, IntKind.bits, IntKind.signed, Bool.false_and, Bool.false_eq_true, if_false]
    omega
theorem mapP_idem (ks : List Int) (l : List GA) : (l.map (plainA ks)).map (plainA ks) = l.map (plainA ks) := by
  rw [List.map_map]; exact List.map_congr_left fun a _ => plainA_idem ks a
theorem map_into (ks : List Int) (a : GA) : ∀ l : List GA, (intoA l a).map (plainA ks) = intoA (l.map (plainA ks)) (plainA ks a)
  | [] => rfl
  | x :: l => by
    rw [intoA, List.map_cons, intoA, plainA_key, plainA_key]
    split
    · rw [List.map_cons, map_into ks a l]
    · split <;> rfl
theorem getA_dropped (k : ByteArray) : ∀ l : List GA, getA (dropA [k] l) k = none
  | [] => rfl
  | x :: l => by
    rw [dropA]
    split
    · exact getA_dropped k l
    · rename_i h
      rw [getA, if_neg (by rintro rfl; simp at h), getA_dropped k l]
theorem textM_zero : textM zeroV = ⟨#[]⟩ := by rw [textE (by decide), simp6 (by decide)]; rfl
theorem textM_tv (t : ByteArray) : textM (tv t) = t := by rw [textE (v := tv t) (by rintro (h | h) <;> cases h), simp1 (v := tv t) rfl]; rfl
theorem plainA_tv (k t : ByteArray) : plainA nJ (.mk k (tv t)) = .mk k (tv t) := by unfold plainA; rw [if_neg]; show ¬ (nJ.any fun x => x == (1 : Int)) = true; decide
theorem spansOf_scopeJ (l : List GSpan) : spansOf (scopeJ l) = l := by
  unfold scopeJ; split
  · simp [spansOf]
  · rename_i h; have : l = [] := List.eq_nil_of_length_eq_zero (by omega); rw [this]; rfl
theorem kept_none (l : List GA) : keptA [] l = l.map (plainA nJ) := dropA_nil _
theorem named_stays {l : List GA} (hr : risA none l) (t : ByteArray) : keptA [] (namedM (keptA [] l) t) = namedM (keptA [] l) t ∧ textA (namedM (keptA [] l) t) skey = t := by
  have hk := ris_kept [] hr
  rw [kept_none (namedM _ _), kept_none l]
  rw [kept_none] at hk
  unfold namedM
  split
  · rename_i ht
    exact ⟨by rw [← drop_plain, mapP_idem], by unfold textA; rw [getA_dropped, Option.getD_none, textM_zero, ht]⟩
  · exact ⟨by rw [map_into, plainA_tv, mapP_idem], by unfold textA; rw [getA_into _ _ _ none hk, Option.getD_some, textM_tv]⟩
theorem e0_ok : (⟨#[]⟩ : ByteArray).size ≤ maxLen := by decide
theorem skey_ok : skey.size ≤ maxLen := by decide
theorem tv_ok {t : ByteArray} (ht : t.size ≤ maxLen) : (tv t).ok := by
  rw [GV.ok_iff]
  exact ⟨by show (0 : Int) ≤ 1 ∧ (1 : Int) < 256; decide, ht, by show (-9223372036854775808 : Int) ≤ 0 ∧ (0 : Int) < 9223372036854775808; decide, by show (0 : Int) ≤ 0 ∧ (0 : Int) < 18446744073709551616; decide, (fun x h => by cases h), (fun x h => by cases h)⟩
theorem keptA_ok (but : List ByteArray) {l : List GA} (ho : ∀ a ∈ l, a.ok) (hw : wtAs l ≤ 1000000) : ∀ a ∈ keptA but l, a.ok := fun a h => by
  obtain ⟨x, hx, rfl⟩ := List.mem_map.1 (dropA_mem h).1
  exact plainA_ok (ho x hx) (Nat.le_trans (wtAs_mem hx) hw)
theorem namedM_ok {l : List GA} {t : ByteArray} (ho : ∀ a ∈ l, a.ok) (ht : t.size ≤ maxLen) : ∀ a ∈ namedM l t, a.ok := fun a h => by
  unfold namedM at h
  split at h
  · exact ho a (dropA_mem h).1
  · rcases mem_intoA h with rfl | h
    · exact (GA.ok_iff _).2 ⟨skey_ok, tv_ok ht⟩
    · exact ho a h
theorem njE_ok {e : GE} (h : e.ok) (hw : e.wt ≤ 1000000) : (njE e).ok := ⟨wholeN_rg _, h.2.1, keptA_ok _ h.2.2 (by have : e.wt = 1 + e.name.size + wtAs e.attrs := rfl; omega)⟩
theorem njS_ok {s : GSpan} (h : s.ok) (hw : s.wt ≤ 1000000) : (njS s).ok := by
  have qw : s.wt = 1 + s.state.size + s.name.size + s.note.size + wtAs s.attrs + sumBy GE.wt s.events + sumBy GL.wt s.links := rfl
  have hr := ofR_rg (BegunM ⟨s.start, s.fin⟩) (LastsM ⟨s.start, s.fin⟩)
  refine ⟨h.1, ⟨e0_ok, h.2.1.2.1, h.2.1.2.2⟩, ⟨h.2.2.1.1, hr.1, hr.2, h.2.2.1.2.2.2⟩, keptA_ok _ h.2.2.2.1 (by omega), fun e he => ?_, fun e he => ?_⟩
  · obtain ⟨x, hx, rfl⟩ := List.mem_map.1 he
    exact njE_ok (h.2.2.2.2.1 x hx) (by have := sumBy_mem GE.wt hx; omega)
  · obtain ⟨x, hx, rfl⟩ := List.mem_map.1 he
    have := h.2.2.2.2.2 x hx
    exact ⟨this.1, this.2.1, e0_ok, fun a ha => by cases ha⟩
theorem njR_ok {r : GRes} (h : r.ok) (hw : r.wt ≤ 1000000) : (njR r).ok := by
  have qw : r.wt = 1 + wtAs r.attrs + sumBy GScope.wt r.scopes := rfl
  have hs := serviceM_le r
  refine ⟨namedM_ok (keptA_ok _ h.1 (by omega)) (by unfold maxLen; omega), fun c hc => ?_⟩
  have hc : c ∈ scopeJ ((spansOf r.scopes).map njS) := hc
  unfold scopeJ at hc
  split at hc
  · cases List.mem_singleton.1 hc
    refine ⟨e0_ok, e0_ok, fun x hx => ?_⟩
    obtain ⟨s, hs, rfl⟩ := List.mem_map.1 hx
    obtain ⟨c, hc, hs⟩ := spansOf_mem hs
    have h1 := sumBy_mem GScope.wt hc
    have h2 : c.wt = 1 + c.name.size + c.version.size + sumBy GSpan.wt c.spans := rfl
    have h3 := sumBy_mem GSpan.wt hs
    exact njS_ok ((h.2 c hc).2.2 s hs) (by omega)
  · cases hc
theorem njB_ok {b : List GRes} (h : okB b) (hw : wtB b ≤ 1000000) : okB (njB b) := fun r hr => by
  obtain ⟨x, hx, rfl⟩ := List.mem_map.1 hr
  exact njR_ok (h x hx) (by have := sumBy_mem GRes.wt hx; unfold wtB at hw; omega)
theorem sumBy_map_le2 {α : Type} {f : α → α} {g : α → Nat} (k : Nat) (h : ∀ x, g (f x) ≤ k * g x) : ∀ l : List α, sumBy g (l.map f) ≤ k * sumBy g l
  | [] => by simp [sumBy]
  | x :: l => by simp only [List.map_cons, sumBy, Nat.mul_add]; have := h x; have := sumBy_map_le2 k h l; omega
theorem njS_wt (s : GSpan) : (njS s).wt ≤ 151 * s.wt := by
  have h1 := keptA_wt k4 s.attrs
  have h2 := sumBy_map_le2 (f := njE) (g := GE.wt) 151 (fun e => by
    have q : e.wt = 1 + e.name.size + wtAs e.attrs := rfl
    have q2 : (njE e).wt = 1 + e.name.size + wtAs (keptA [k_event] e.attrs) := rfl
    have := keptA_wt [k_event] e.attrs; omega) s.events
  have h3 := sumBy_map_le2 (f := njL) (g := GL.wt) 151 (fun e => by
    have q : e.wt = 1 + e.state.size + wtAs e.attrs := rfl
    have q2 : (njL e).wt = 1 := rfl
    omega) s.links
  have q1 : (njS s).wt = 1 + 0 + s.name.size + s.note.size + wtAs (keptA k4 s.attrs) + sumBy GE.wt (s.events.map njE) + sumBy GL.wt (s.links.map njL) := rfl
  have q2 : s.wt = 1 + s.state.size + s.name.size + s.note.size + wtAs s.attrs + sumBy GE.wt s.events + sumBy GL.wt s.links := rfl
  omega
theorem spansOf_wt : ∀ l : List GScope, sumBy GSpan.wt (spansOf l) ≤ sumBy GScope.wt l
  | [] => Nat.le_refl _
  | c :: l => by
    rw [spansOf, sumBy_append, sumBy]
    have := spansOf_wt l
    have h3 : c.wt = 1 + c.name.size + c.version.size + sumBy GSpan.wt c.spans := rfl
    omega
theorem namedM_wt (l : List GA) (t : ByteArray) : wtAs (namedM l t) ≤ wtAs l + 13 + t.size := by
  unfold namedM; split
  · have := dropA_wt [skey] l; omega
  · have h1 := wt_intoA l (.mk skey (tv t))
    have h2 : (GA.mk skey (tv t)).wt = 12 + (1 + t.size + 0 + 0) := by rw [GA.wt_eq, GV.wt_eq]; rfl
    omega
theorem njR_wt (r : GRes) : (njR r).wt ≤ 400 * r.wt := by
  have h1 := namedM_wt (keptA [] r.attrs) (serviceM r)
  have h2 := keptA_wt [] r.attrs
  have h3 := serviceM_le r
  have h4 := sumBy_map_le2 (f := njS) (g := GSpan.wt) 151 njS_wt (spansOf r.scopes)
  have h5 := spansOf_wt r.scopes
  have q1 : (njR r).wt = 1 + wtAs (namedM (keptA [] r.attrs) (serviceM r)) + sumBy GScope.wt (scopeJ ((spansOf r.scopes).map njS)) := rfl
  have q2 : r.wt = 1 + wtAs r.attrs + sumBy GScope.wt r.scopes := rfl
  have h6 : sumBy GScope.wt (scopeJ ((spansOf r.scopes).map njS)) ≤ 1 + sumBy GSpan.wt ((spansOf r.scopes).map njS) := by
    unfold scopeJ; split
    · simp only [sumBy, GScope.wt]
      show 1 + 0 + 0 + _ + 0 ≤ _
      omega
    · exact Nat.zero_le _
  omega
theorem njB_wt (b : List GRes) : wtB (njB b) ≤ 400 * wtB b := sumBy_map_le2 400 njR_wt b
end Go.Proofs

namespace Go.Proofs
open Go Go.Al
set_option maxRecDepth 10000
set_option maxHeartbeats 4000000 in
theorem njB_c (b : List GRes) (ho : okB b) (hw : wtB b ≤ 9000000) (hr : ∀ r ∈ b, risA none r.attrs) : PCall Tryz.prog Γ0 18 [batchAv b] [batchAv (njB b)] := by
  have ql := sumBy_len GRes.wt (fun e => by unfold GRes.wt; omega) b
  have qw : wtB b = sumBy GRes.wt b := rfl
  refine pcall_of Tryz.func18 rfl Tryz.ntmps18 (by kernel_rfl) rfl fun w0 I0 G0 => ?_
  refine aw_seq ?_
  refine aw_region ?_
  refine g_uG (s_box_imm 1001 rfl rfl rfl rfl) rfl ?_
  refine g_uG (s_alloc' 1002 rfl rfl rfl tZ24) rfl ?_
  refine g_nil ?_
  refine normal_thn ?_
  refine aw_seq ?_
  refine aw_region ?_
  refine g_uG (s_alloc' 1003 rfl rfl rfl tZ24) rfl ?_
  refine g_nil ?_
  refine normal_thn ?_
  refine aw_seq ?_
  refine aw_seq ?_
  refine aw_newtokB 3099 1003 2 0 rfl rfl rfl rfl rfl rfl rfl ?_
  refine aw_region ?_
  refine g_u (s_fieldAddr rfl rfl fa24_0 rfl) ?_
  refine g_u (s_load_imm rfl rfl rfl tA22 tS22 rfl rfl) ?_
  refine g_u (s_lenL rfl rfl Tryz.underlying22) ?_
  refine g_u (s_mv_imm rfl rfl) ?_
  refine g_nil ?_
  refine normal_thn ?_
  refine aw_block ?_
  refine aw_loop' (fun i : Nat => [(2, .ptr 1002 0), (1002, .box 24 (.imm z24)), (3, .ptr 1003 0), (1003, .box 24 (.agg [.slg 3099 2 ((b.take i).map fun r => (njR r).av)])), (3099, .tok 2 ((b.take i).map fun r => (njR r).av)), (7, .imm (.sl 2 (b.map GRes.av))), (8, .imm (iv (b.length : Int))), (9, .imm (iv (i : Int)))]) (fun i => i ≤ b.length) (fun i => b.length - i) (0) ?_ ⟨rfl, rfl, rfl, rfl, rfl, rfl, look_int rfl (by rw [List.length_map]), rfl, trivial⟩ ?_
  · exact Nat.zero_le _
  · rintro i h1; have h1 : i ≤ b.length := h1
    refine aw_seq ?_
    refine aw_region ?_
    refine g_u (s_ltI rfl rfl rfl) ?_
    refine g_nil ?_
    refine normal_thn ?_
    refine aw_seq ?_
    refine aw_cond rfl (fun hb1 => ?_) (fun hb1 => ?_)
    · skip
      have hi : i < b.length := by have := of_decide_eq_true hb1; (try simp only [List.length_map] at this); omega
      have hrx := sumBy_mem GRes.wt (nthR_mem hi)
      have hro := ho _ (nthR_mem hi)
      have hrr := hr _ (nthR_mem hi)
      refine aw_skip ?_
      refine normal_thn ?_
      refine aw_seq ?_
      refine aw_block ?_
      refine aw_seq ?_
      refine aw_region ?_
      refine g_u (s_indexAddr rfl rfl rfl Tryz.underlying22 tS58 (by omega) (ixR hi)) ?_
      refine g_u (s_load_cp rfl rfl tA58 tS58 rfl rfl) ?_
      refine g_uG (s_alloc' 1005 rfl rfl rfl tZ58) rfl ?_
      refine g_u (s_store_imm rfl rfl rfl tS58 rfl rfl) ?_
      refine g_nil ?_
      refine normal_thn ?_
      refine aw_draw mixed ?_
      refine g_u (s_fieldAddr rfl rfl fa24_0 rfl) ?_
      refine g_u (s_load_slg rfl rfl rfl tA22 tS22 rfl rfl) ?_
      refine g_u (s_load_agg rfl rfl rfl tA58 tS58 rfl rfl) ?_
      refine g_u (s_call1 (njR_c (nthR b i) hro (by omega) hrr) rfl rfl) ?_
      refine g_u (s_buildSlice (X0 := z58) rfl Tryz.underlying22 tS58 tZ58 rfl rfl rfl rfl rfl rfl rfl rfl) ?_
      refine g_u (s_append rfl rfl rfl rfl rfl Tryz.underlying22 Tryz.underlying22 tS58 zv58 rfl (by decide) by58 (by (try dsimp only); simp only [List.length_append, List.length_cons, List.length_nil, List.length_map, List.length_take, List.length_drop]; omega) (by (try dsimp only); simp only [List.length_append, List.length_cons, List.length_nil, List.length_map, List.length_take, List.length_drop]; omega)) ?_
      refine g_u (s_fieldAddr rfl rfl fa24_0 rfl) ?_
      refine g_u (s_store rfl rfl rfl rfl tS22 rfl rfl) ?_
      refine g_nil ⟨by kernel_rfl, ?_⟩
      refine normal_blk ?_
      refine normal_thn ?_
      refine aw_region ?_
      refine g_u (s_add rfl rfl rfl) ?_
      refine g_u (s_mv_imm rfl rfl) ?_
      refine g_nil ?_
      refine normal_thn ?_
      have et : ((b.take (i + 1)).map fun r => (njR r).av) = ((b.take i).map fun r => (njR r).av) ++ [(njR (nthR b i)).av] := by rw [take_snoc (nth_get (d := gr0) hi), List.map_append]; rfl
      refine ⟨i + 1, hi, ⟨rfl, rfl, rfl, (by rw [et]; rfl), look_tok rfl et.symm, rfl, rfl, look_int rfl (by rw [wrap64 (by omega) (by omega)]; rfl), trivial⟩, by (try dsimp only); omega⟩
    · skip
      have hin : i = b.length := by have := of_decide_eq_false hb1; (try simp only [List.length_map] at this); omega
      refine aw_exit ?_
      refine exit_thn ?_
      refine exit_thn ?_
      refine exit_blk ?_
      refine normal_thn ?_
      refine aw_seq ?_
      refine aw_region ?_
      refine g_u (s_load_agg rfl rfl rfl tA24 tS24 rfl rfl) ?_
      refine g_u (s_store_imm rfl rfl rfl tS24 rfl rfl) ?_
      refine g_nil ?_
      refine normal_thn ?_
      refine aw_ret ?_
      exact ⟨⟨_, _, _, _, _, _, _, rfl, rfl, tA24, tS24, rfl, rfl, (rfl : toAV _ = some _).trans (congrArg some (by (rw [hin, List.take_length]; show AV.agg [.sl 2 _] = AV.agg [.sl 2 ((b.map njR).map GRes.av)]; rw [List.map_map]; rfl)))⟩, trivial⟩

theorem plR_len : ∀ (i : Nat) (l : List GRes), (plR i l).length ≤ sumBy GRes.wt l
  | _, [] => Nat.le_refl _
  | i, r :: l => by
    rw [plR, List.length_append, plC_len, sumBy]
    have h1 := plR_len (i + 1) l
    have h2 := spansOf_len r.scopes
    have h3 : r.wt = 1 + wtAs r.attrs + sumBy GScope.wt r.scopes := rfl
    omega
def p00 : Nat × Nat × Nat := (0, 0, 0)
def nthP (l : List (Nat × Nat × Nat)) (i : Nat) : Nat × Nat × Nat := nth l i p00
theorem ixP {l : List (Nat × Nat × Nat)} {i : Nat} (h : i < l.length) : (l.map plav)[((i : Nat) : Int).toNat]? = some (plav (nthP l i)) := nth_map (d := p00) h
theorem nthP_mem {l : List (Nat × Nat × Nat)} {i : Nat} (h : i < l.length) : nthP l i ∈ l := nth_mem h

set_option maxHeartbeats 2000000 in
theorem places_c (b : List GRes) (hw : wtB b ≤ 9000000) : PCall Tryz.prog Γ0 33 [batchAv b] [.sl 3 ((plR 0 b).map plav)] := by
  have ql := sumBy_len GRes.wt (fun e => by unfold GRes.wt; omega) b
  have qw : wtB b = sumBy GRes.wt b := rfl
  refine pcall_of Tryz.func33 rfl Tryz.ntmps33 (by kernel_rfl) rfl fun w0 I0 G0 => ?_
  refine aw_seq ?_
  refine aw_region ?_
  refine g_uG (s_box_imm 1001 rfl rfl rfl rfl) rfl ?_
  refine g_u (s_as_imm rfl rfl) ?_
  refine g_nil ?_
  refine normal_thn ?_
  refine aw_seq ?_
  refine aw_region ?_
  refine g_u (s_as_imm rfl rfl) ?_
  refine g_nil ?_
  refine normal_thn ?_
  refine aw_seq ?_
  refine aw_seq ?_
  refine aw_newtok 3003 3 3 rfl rfl rfl rfl ?_
  refine aw_region ?_
  refine g_u (s_as_imm rfl rfl) ?_
  refine g_nil ?_
  refine normal_thn ?_
  refine aw_block ?_
  refine aw_loop' (fun i : Nat => [(1, .ptr 1001 0), (1001, .box 24 (.imm (batchAv b))), (3, .slg 3003 3 (((plR 0 (b.take i))).map plav)), (3003, .tok 3 (((plR 0 (b.take i))).map plav)), (4, .imm (iv (i : Int)))]) (fun i => i ≤ b.length) (fun i => b.length - i) (0) ?_ ⟨rfl, rfl, rfl, rfl, rfl, trivial⟩ ?_
  · exact Nat.zero_le _
  · rintro i h1; have h1 : i ≤ b.length := h1
    refine aw_seq ?_
    refine aw_seq ?_
    refine aw_region ?_
    refine g_u (s_mv_imm rfl rfl) ?_
    refine g_u (s_fieldAddr rfl rfl fa24_0 rfl) ?_
    refine g_u (s_load_imm rfl rfl rfl tA22 tS22 rfl rfl) ?_
    refine g_u (s_lenL rfl rfl Tryz.underlying22) ?_
    refine g_u (s_ltI rfl rfl rfl) ?_
    refine g_nil ?_
    refine normal_thn ?_
    refine aw_cond rfl (fun hb1 => ?_) (fun hb1 => ?_)
    · skip
      have hi : i < b.length := by have := of_decide_eq_true hb1; (try simp only [List.length_map] at this); omega
      have hrx := sumBy_mem GRes.wt (nthR_mem hi)
      have hrq : (nthR b i).wt = 1 + wtAs (nthR b i).attrs + sumBy GScope.wt (nthR b i).scopes := rfl
      have hcl := sumBy_len GScope.wt (fun e => by unfold GScope.wt; omega) (nthR b i).scopes
      have hl1 : (plR 0 (b.take i)).length ≤ 9000000 := by have h1 := plR_len 0 (b.take i); have h2 := sumBy_take GRes.wt b i; omega
      refine aw_skip ?_
      refine normal_thn ?_
      refine aw_seq ?_
      refine aw_block ?_
      refine aw_seq ?_
      refine aw_region ?_
      refine g_u (s_as_imm rfl rfl) ?_
      refine g_nil ?_
      refine normal_thn ?_
      refine aw_block ?_
      refine aw_loop' (fun k : Nat => [(1, .ptr 1001 0), (1001, .box 24 (.imm (batchAv b))), (3, .slg 3003 3 (((plR 0 (b.take i)) ++ (plC i 0 ((nthR b i).scopes.take k))).map plav)), (3003, .tok 3 (((plR 0 (b.take i)) ++ (plC i 0 ((nthR b i).scopes.take k))).map plav)), (4, .imm (iv (i : Int))), (5, .imm (iv (k : Int)))]) (fun k => k ≤ (nthR b i).scopes.length) (fun k => (nthR b i).scopes.length - k) (0) ?_ ⟨rfl, rfl, look_slg rfl (by simp [plC]), look_tok rfl (by simp [plC]), rfl, rfl, trivial⟩ ?_
      · exact Nat.zero_le _
      · rintro k g1; have g1 : k ≤ (nthR b i).scopes.length := g1
        refine aw_seq ?_
        refine aw_seq ?_
        refine aw_region ?_
        refine g_u (s_mv_imm rfl rfl) ?_
        refine g_u (s_fieldAddr rfl rfl fa24_0 rfl) ?_
        refine g_u (s_load_imm rfl rfl rfl tA22 tS22 rfl rfl) ?_
        refine g_u (s_mv_imm rfl rfl) ?_
        refine g_u (s_indexAddr rfl rfl rfl Tryz.underlying22 tS58 (by omega) (ixR hi)) ?_
        refine g_u (s_fieldAddr_cp rfl rfl fa58_1 rfl rfl) ?_
        refine g_u (s_load_cp rfl rfl tA56 tS56 rfl rfl) ?_
        refine g_u (s_lenL rfl rfl Tryz.underlying56) ?_
        refine g_u (s_ltI rfl rfl rfl) ?_
        refine g_nil ?_
        refine normal_thn ?_
        refine aw_cond rfl (fun hb2 => ?_) (fun hb2 => ?_)
        · skip
          have hk : k < (nthR b i).scopes.length := by have := of_decide_eq_true hb2; (try simp only [List.length_map] at this); omega
          have hcx := sumBy_mem GScope.wt (nthC_mem hk)
          have hcq : (nthC (nthR b i).scopes k).wt = 1 + (nthC (nthR b i).scopes k).name.size + (nthC (nthR b i).scopes k).version.size + sumBy GSpan.wt (nthC (nthR b i).scopes k).spans := rfl
          have hsl := sumBy_len GSpan.wt (fun e => by unfold GSpan.wt; omega) (nthC (nthR b i).scopes k).spans
          have hl2 : (plC i 0 ((nthR b i).scopes.take k)).length ≤ 9000000 := by have h1 := plC_len i 0 ((nthR b i).scopes.take k); have h2 := spansOf_len ((nthR b i).scopes.take k); have h3 := sumBy_take GScope.wt (nthR b i).scopes k; omega
          refine aw_skip ?_
          refine normal_thn ?_
          refine aw_seq ?_
          refine aw_block ?_
          refine aw_seq ?_
          refine aw_region ?_
          refine g_u (s_as_imm rfl rfl) ?_
          refine g_nil ?_
          refine normal_thn ?_
          refine aw_block ?_
          refine aw_loop' (fun m : Nat => [(1, .ptr 1001 0), (1001, .box 24 (.imm (batchAv b))), (3, .slg 3003 3 (((plR 0 (b.take i)) ++ (plC i 0 ((nthR b i).scopes.take k)) ++ ((List.range m).map fun m => (i, k, m))).map plav)), (3003, .tok 3 (((plR 0 (b.take i)) ++ (plC i 0 ((nthR b i).scopes.take k)) ++ ((List.range m).map fun m => (i, k, m))).map plav)), (4, .imm (iv (i : Int))), (5, .imm (iv (k : Int))), (6, .imm (iv (m : Int)))]) (fun m => m ≤ (nthC (nthR b i).scopes k).spans.length) (fun m => (nthC (nthR b i).scopes k).spans.length - m) (0) ?_ ⟨rfl, rfl, look_slg rfl (by simp), look_tok rfl (by simp), rfl, rfl, rfl, trivial⟩ ?_
          · exact Nat.zero_le _
          · rintro m f1; have f1 : m ≤ (nthC (nthR b i).scopes k).spans.length := f1
            refine aw_seq ?_
            refine aw_seq ?_
            refine aw_region ?_
            refine g_u (s_mv_imm rfl rfl) ?_
            refine g_u (s_fieldAddr rfl rfl fa24_0 rfl) ?_
            refine g_u (s_load_imm rfl rfl rfl tA22 tS22 rfl rfl) ?_
            refine g_u (s_mv_imm rfl rfl) ?_
            refine g_u (s_indexAddr rfl rfl rfl Tryz.underlying22 tS58 (by omega) (ixR hi)) ?_
            refine g_u (s_fieldAddr_cp rfl rfl fa58_1 rfl rfl) ?_
            refine g_u (s_load_cp rfl rfl tA56 tS56 rfl rfl) ?_
            refine g_u (s_mv_imm rfl rfl) ?_
            refine g_u (s_indexAddr rfl rfl rfl Tryz.underlying56 tS55 (by omega) (ixC hk)) ?_
            refine g_u (s_fieldAddr_cp rfl rfl fa55_2 rfl rfl) ?_
            refine g_u (s_load_cp rfl rfl tA53 tS53 rfl rfl) ?_
            refine g_u (s_lenL rfl rfl Tryz.underlying53) ?_
            refine g_u (s_ltI rfl rfl rfl) ?_
            refine g_nil ?_
            refine normal_thn ?_
            refine aw_cond rfl (fun hb3 => ?_) (fun hb3 => ?_)
            · skip
              have hm : m < (nthC (nthR b i).scopes k).spans.length := by have := of_decide_eq_true hb3; (try simp only [List.length_map] at this); omega
              refine aw_skip ?_
              refine normal_thn ?_
              refine aw_seq ?_
              refine aw_block ?_
              refine aw_region ?_
              refine g_u (s_mv_slg rfl rfl) ?_
              refine g_u (s_mv_imm rfl rfl) ?_
              refine g_u (s_mv_imm rfl rfl) ?_
              refine g_u (s_mv_imm rfl rfl) ?_
              refine g_u (s_build rfl tU67 us67 pl67 rfl rfl rfl rfl) ?_
              refine g_u (s_buildSlice (X0 := z67) rfl Tryz.underlying77 tS67 tZ67 rfl rfl rfl rfl rfl rfl rfl rfl) ?_
              refine g_u (s_append rfl rfl rfl rfl rfl Tryz.underlying77 Tryz.underlying77 tS67 zv67 rfl (by decide) by67 (by (try dsimp only); simp only [List.length_append, List.length_cons, List.length_nil, List.length_map, List.length_range]; omega) (by (try dsimp only); simp only [List.length_append, List.length_cons, List.length_nil, List.length_map, List.length_range]; omega)) ?_
              refine g_u (s_as_slg rfl rfl) ?_
              refine g_nil ?_
              refine normal_blk ?_
              refine normal_thn ?_
              refine aw_region ?_
              refine g_u (s_mv_imm rfl rfl) ?_
              refine g_u (s_add rfl rfl rfl) ?_
              refine g_u (s_as_imm rfl rfl) ?_
              refine g_nil ?_
              refine normal_thn ?_
              have et : (((plR 0 (b.take i)) ++ (plC i 0 ((nthR b i).scopes.take k)) ++ ((List.range (m + 1)).map fun m => (i, k, m))).map plav) = (((plR 0 (b.take i)) ++ (plC i 0 ((nthR b i).scopes.take k)) ++ ((List.range m).map fun m => (i, k, m))).map plav) ++ [plav (i, k, m)] := by rw [range_snoc, ← List.append_assoc, List.map_append]; rfl
              refine ⟨m + 1, hm, ⟨rfl, rfl, look_slg rfl et.symm, look_tok rfl et.symm, rfl, rfl, look_int rfl (by rw [wrap64 (by omega) (by omega)]; rfl), trivial⟩, by (try dsimp only); omega⟩
            · skip
              have hmn : m = (nthC (nthR b i).scopes k).spans.length := by have := of_decide_eq_false hb3; (try simp only [List.length_map] at this); omega
              refine aw_exit ?_
              refine exit_thn ?_
              refine exit_thn ?_
              refine exit_blk ?_
              refine normal_blk ?_
              refine normal_thn ?_
              refine aw_region ?_
              refine g_u (s_mv_imm rfl rfl) ?_
              refine g_u (s_add rfl rfl rfl) ?_
              refine g_u (s_as_imm rfl rfl) ?_
              refine g_nil ?_
              refine normal_thn ?_
              have et : (((plR 0 (b.take i)) ++ (plC i 0 ((nthR b i).scopes.take (k + 1)))).map plav) = (((plR 0 (b.take i)) ++ (plC i 0 ((nthR b i).scopes.take k)) ++ ((List.range m).map fun m => (i, k, m))).map plav) := by rw [plC_take hk, hmn, List.append_assoc]
              refine ⟨k + 1, hk, ⟨rfl, rfl, look_slg rfl et.symm, look_tok rfl et.symm, rfl, look_int rfl (by rw [wrap64 (by omega) (by omega)]; rfl), trivial⟩, by (try dsimp only); omega⟩
        · skip
          have hkn : k = (nthR b i).scopes.length := by have := of_decide_eq_false hb2; (try simp only [List.length_map] at this); omega
          refine aw_exit ?_
          refine exit_thn ?_
          refine exit_thn ?_
          refine exit_blk ?_
          refine normal_blk ?_
          refine normal_thn ?_
          refine aw_region ?_
          refine g_u (s_mv_imm rfl rfl) ?_
          refine g_u (s_add rfl rfl rfl) ?_
          refine g_u (s_as_imm rfl rfl) ?_
          refine g_nil ?_
          refine normal_thn ?_
          have et : ((plR 0 (b.take (i + 1))).map plav) = (((plR 0 (b.take i)) ++ (plC i 0 ((nthR b i).scopes.take k))).map plav) := by rw [plR_take hi, hkn, List.take_length]
          refine ⟨i + 1, hi, ⟨rfl, rfl, look_slg rfl et.symm, look_tok rfl et.symm, look_int rfl (by rw [wrap64 (by omega) (by omega)]; rfl), trivial⟩, by (try dsimp only); omega⟩
    · skip
      have hin : i = b.length := by have := of_decide_eq_false hb1; (try simp only [List.length_map] at this); omega
      refine aw_exit ?_
      refine exit_thn ?_
      refine exit_thn ?_
      refine exit_blk ?_
      refine normal_thn ?_
      refine aw_seq ?_
      refine aw_region ?_
      refine g_u (s_mv_slg rfl rfl) ?_
      refine g_u (s_as_slg rfl rfl) ?_
      refine g_nil ?_
      refine normal_thn ?_
      refine aw_ret ?_
      exact ⟨⟨(rfl : toAV (Al.look _ _) = some _).trans (congrArg some (by (rw [hin, List.take_length]))), rfl⟩, trivial⟩

end Go.Proofs

namespace Go.Proofs
open Go Go.Al
set_option maxRecDepth 10000
end Go.Proofs

namespace Go.Al
open Go.RowKit
/-- Bytes, one by one, are an array of bytes. -/
theorem up_bytes {l : List UInt8} {n : Nat} (h : l.length = n) : Up (.agg (bytesL l)) (.arr n l) := by
  have hw : ∀ x ∈ bytesL l, x.width = 1 := W1.bytes l
  refine ⟨rfl, ?_, fun w I c r => ?_⟩
  · have key : ∀ l : List UInt8, AV.widths (bytesL l) = l.length := by
      intro l
      induction l with
      | nil => rfl
      | cons b l ih => simp only [bytesL, List.map_cons, AV.widths, List.length_cons] at ih ⊢; rw [ih]; simp only [AV.width, byteV, Value.cells]; show 1 + _ = _; omega
    show n = AV.widths (bytesL l)
    rw [key, h]
  · simp only [RepC] at r ⊢
    exact ⟨repE_bytes_inv l c ((repCs_E (n := 1) hw).1 r), h⟩
end Go.Al

namespace Go.Proofs
open Go Go.Al
set_option maxRecDepth 10000
theorem tV42 : IsZero Tryz.prog 42 (.agg (List.replicate 16 (.v (.int .u8 0)))) := ⟨.agg #[.int .u8 0, .int .u8 0, .int .u8 0, .int .u8 0, .int .u8 0, .int .u8 0, .int .u8 0, .int .u8 0, .int .u8 0, .int .u8 0, .int .u8 0, .int .u8 0, .int .u8 0, .int .u8 0, .int .u8 0, .int .u8 0], by kernel_rfl, by kernel_rfl⟩
theorem tV44 : IsZero Tryz.prog 44 (.agg (List.replicate 8 (.v (.int .u8 0)))) := ⟨.agg #[.int .u8 0, .int .u8 0, .int .u8 0, .int .u8 0, .int .u8 0, .int .u8 0, .int .u8 0, .int .u8 0], by kernel_rfl, by kernel_rfl⟩
def kLib : ByteArray := ⟨#[108, 105, 98]⟩
def kShop : ByteArray := ⟨#[115, 104, 111, 112]⟩
def kKV : ByteArray := ⟨#[107, 61, 118]⟩
def L32 : List GA := [.mk kA zeroV, .mk k_error zeroV, .mk k_code zeroV, .mk k_note zeroV, .mk k_kind zeroV]
def gE32 : GE := ⟨0, ⟨#[]⟩, [.mk k_event zeroV]⟩
def gS32 : GSpan := ⟨1 :: List.replicate 15 0, 2 :: List.replicate 7 0, List.replicate 8 0, kKV, ⟨#[]⟩, 0, 1999, 4001, L32, [gE32], [], 0, ⟨#[]⟩⟩
def gR32 : GRes := ⟨[], [⟨kLib, ⟨#[]⟩, [gS32]⟩, ⟨⟨#[]⟩, ⟨#[]⟩, []⟩]⟩
theorem az_ok {k : ByteArray} (h : k.size ≤ maxLen) : (GA.mk k zeroV).ok := (GA.ok_iff _).2 ⟨h, zeroV_ok⟩
theorem L32_ok : ∀ a ∈ L32, a.ok := by
  intro a ha
  simp only [L32, List.mem_cons, List.not_mem_nil, or_false] at ha
  rcases ha with rfl | rfl | rfl | rfl | rfl <;> exact az_ok (by decide)
theorem gE32_ok : gE32.ok := ⟨⟨by decide, by decide⟩, by decide, fun a ha => by cases List.mem_singleton.1 ha; exact az_ok (by decide)⟩
theorem gS32_ok : gS32.ok := ⟨⟨by decide, by decide, by decide⟩, ⟨by decide, by decide, by decide⟩, ⟨by unfold i64; decide, by unfold u64; decide, by unfold u64; decide, by unfold i64; decide⟩, L32_ok, (fun a h => by cases List.mem_singleton.1 h; exact gE32_ok), (fun a h => by cases h)⟩
theorem gR32_ok : okB [gR32] := fun r hr => by
  cases List.mem_singleton.1 hr
  refine ⟨fun a h => (by cases h), fun c hc => ?_⟩
  rcases List.mem_cons.1 hc with rfl | hc
  · exact ⟨by decide, by decide, fun s hs => by cases List.mem_singleton.1 hs; exact gS32_ok⟩
  · cases List.mem_singleton.1 hc
    exact ⟨by decide, by decide, fun s hs => by cases hs⟩
def sAv32 : AV := .agg [.agg (bytesL gS32.trace), .agg (bytesL gS32.id), .arr 8 gS32.parent, sv kKV, sv ⟨#[]⟩, iv 0, uv 1999, uv 4001, .sl 7 (L32.map avA), .sl 3 [gE32.av], .sl 26 [], .agg [iv 0, sv ⟨#[]⟩]]
theorem up32 : Up sAv32 gS32.av := Up.agg ⟨up_bytes rfl, up_bytes rfl, Up.refl _, Up.refl _, Up.refl _, Up.refl _, Up.refl _, Up.refl _, Up.refl _, Up.refl _, Up.refl _, Up.refl _, trivial⟩
theorem of32 : PCall Tryz.prog Γ0 18 [.agg [.sl 2 [.agg [.sl 7 [], .sl 3 [.agg [sv kLib, sv ⟨#[]⟩, .sl 42 [sAv32]], .agg [sv ⟨#[]⟩, sv ⟨#[]⟩, .sl 42 []]]]]]] [batchAv (njB [gR32])] :=
  (njB_c [gR32] gR32_ok (by decide) (fun r hr => by cases List.mem_singleton.1 hr; trivial)).args ⟨Up.agg ⟨Up.sl ⟨Up.agg ⟨Up.refl _, Up.sl ⟨Up.agg ⟨Up.refl _, Up.refl _, Up.sl ⟨up32, trivial⟩, trivial⟩, Up.refl _, trivial⟩, trivial⟩, trivial⟩, trivial⟩, trivial⟩

set_option maxRecDepth 100000 in
set_option maxHeartbeats 4000000 in
theorem works32_c : PCall Tryz.prog Γ0 17 [] [bv true] := by
  refine pcall_of Tryz.func17 rfl Tryz.ntmps17 (by kernel_rfl) rfl fun w0 I0 G0 => ?_
  refine aw_seq ?_
  refine aw_region ?_
  refine g_u (s_as_imm rfl rfl) ?_
  refine g_nil ?_
  refine normal_thn ?_
  refine aw_seq ?_
  refine aw_region ?_
  refine g_u (s_build_arr rfl tV42 Tryz.underlying42 tS5 rfl rfl rfl rfl) ?_
  refine g_u (s_build_arr rfl tV44 Tryz.underlying44 tS5 rfl rfl rfl rfl) ?_
  refine g_u (s_build rfl tU93 us93 pl93 rfl rfl rfl rfl) ?_
  refine g_u (s_build rfl tU93 us93 pl93 rfl rfl rfl rfl) ?_
  refine g_u (s_build rfl tU93 us93 pl93 rfl rfl rfl rfl) ?_
  refine g_u (s_build rfl tU93 us93 pl93 rfl rfl rfl rfl) ?_
  refine g_u (s_build rfl tU93 us93 pl93 rfl rfl rfl rfl) ?_
  refine g_u (s_buildSlice (X0 := z93) rfl Tryz.underlying46 tS93 tZ93 rfl rfl rfl rfl rfl rfl rfl rfl) ?_
  refine g_u (s_build rfl tU93 us93 pl93 rfl rfl rfl rfl) ?_
  refine g_u (s_buildSlice (X0 := z93) rfl Tryz.underlying46 tS93 tZ93 rfl rfl rfl rfl rfl rfl rfl rfl) ?_
  refine g_u (s_build rfl tU95 us95 pl95 rfl rfl rfl rfl) ?_
  refine g_u (s_buildSlice (X0 := z95) rfl Tryz.underlying47 tS95 tZ95 rfl rfl rfl rfl rfl rfl rfl rfl) ?_
  refine g_u (s_build rfl tU52 us52 pl52 rfl rfl rfl rfl) ?_
  refine g_uG (s_alloc' 1001 rfl rfl rfl tZ52) rfl ?_
  refine g_u (s_store_imm rfl rfl rfl tS52 (by first | exact beqW (GSpan.width _) | rfl) (by first | exact setS_w (z52_w.trans (GSpan.width _).symm) rfl | rfl)) ?_
  refine g_nil ?_
  refine normal_thn ?_
  refine aw_seq ?_
  refine aw_region ?_
  refine g_u (s_load_imm rfl rfl rfl tA52 tS52 rfl (by first | exact getS_w (GSpan.width _) rfl | rfl)) ?_
  refine g_u (s_buildSlice (X0 := z52) rfl Tryz.underlying53 tS52 tZ52 rfl rfl rfl rfl rfl rfl rfl rfl) ?_
  refine g_u (s_build rfl tU55 us55 pl55 rfl rfl rfl rfl) ?_
  refine g_u (s_build rfl tU55 us55 pl55 rfl rfl rfl rfl) ?_
  refine g_u (s_buildSlice (X0 := z55) rfl Tryz.underlying56 tS55 tZ55 rfl rfl rfl rfl rfl rfl rfl rfl) ?_
  refine g_u (s_build rfl tU58 us58 pl58 rfl rfl rfl rfl) ?_
  refine g_u (s_buildSlice (X0 := z58) rfl Tryz.underlying22 tS58 tZ58 rfl rfl rfl rfl rfl rfl rfl rfl) ?_
  refine g_u (s_build rfl tU24 us24 pl24 rfl rfl rfl rfl) ?_
  refine g_u (s_call1 (of32) rfl rfl) ?_
  refine g_uG (s_alloc' 1002 rfl rfl rfl tZ24) rfl ?_
  refine g_u (s_store_imm rfl rfl rfl tS24 rfl rfl) ?_
  refine g_nil ?_
  refine normal_thn ?_
  refine aw_seq ?_
  refine aw_seq ?_
  refine aw_region ?_
  refine g_u (s_fieldAddr rfl rfl fa24_0 rfl) ?_
  refine g_u (s_load_imm rfl rfl rfl tA22 tS22 rfl rfl) ?_
  refine g_u (s_lenL rfl rfl Tryz.underlying22) ?_
  refine g_u (s_neI rfl rfl rfl) ?_
  refine g_u (s_mv_imm rfl rfl) ?_
  refine g_case (t := 30) rfl ?_
  rintro (hb1 | hb1)
  · exact killF hb1 (by first | rfl | decide +kernel)
  · rw [hb1]
    refine g_run rfl rfl (s_fieldAddr rfl rfl fa24_0 rfl) ?_
    refine g_run rfl rfl (s_load_imm rfl rfl rfl tA22 tS22 rfl rfl) ?_
    refine g_run rfl rfl (s_indexAddr rfl rfl rfl Tryz.underlying22 tS58 (by decide) (ixR (l := njB [gR32]) (i := 0) (by decide +kernel))) ?_
    refine g_run rfl rfl (s_fieldAddr_cp rfl rfl fa58_1 rfl rfl) ?_
    refine g_run rfl rfl (s_load_cp rfl rfl tA56 tS56 rfl rfl) ?_
    refine g_run rfl rfl (s_lenL rfl rfl Tryz.underlying56) ?_
    refine g_run rfl rfl (s_neI rfl rfl rfl) ?_
    refine g_u (s_pick_f rfl rfl rfl) ?_
    refine g_u (s_mv_imm rfl rfl) ?_
    refine g_case (t := 39) rfl ?_
    rintro (hb2 | hb2)
    · exact killF hb2 (by first | rfl | decide +kernel)
    · rw [hb2]
      refine g_run rfl rfl (s_fieldAddr rfl rfl fa24_0 rfl) ?_
      refine g_run rfl rfl (s_load_imm rfl rfl rfl tA22 tS22 rfl rfl) ?_
      refine g_run rfl rfl (s_indexAddr rfl rfl rfl Tryz.underlying22 tS58 (by decide) (ixR (l := njB [gR32]) (i := 0) (by decide +kernel))) ?_
      refine g_run rfl rfl (s_fieldAddr_cp rfl rfl fa58_1 rfl rfl) ?_
      refine g_run rfl rfl (s_load_cp rfl rfl tA56 tS56 rfl rfl) ?_
      refine g_run rfl rfl (s_indexAddr rfl rfl rfl Tryz.underlying56 tS55 (by decide) (ixC (l := (nthR (njB [gR32]) 0).scopes) (i := 0) (by decide +kernel))) ?_
      refine g_run rfl rfl (s_fieldAddr_cp rfl rfl fa55_2 rfl rfl) ?_
      refine g_run rfl rfl (s_load_cp rfl rfl tA53 tS53 rfl rfl) ?_
      refine g_run rfl rfl (s_lenL rfl rfl Tryz.underlying53) ?_
      refine g_run rfl rfl (s_neI rfl rfl rfl) ?_
      refine g_u (s_pick_f rfl rfl rfl) ?_
      refine g_nil ?_
      refine normal_thn ?_
      refine aw_cond rfl (fun hb3 => ?_) (fun hb3 => ?_)
      · exact killF hb3 (by first | rfl | decide +kernel)
      · skip
        refine aw_skip ?_
        refine normal_thn ?_
        refine aw_seq ?_
        refine aw_region ?_
        refine g_u (s_fieldAddr rfl rfl fa24_0 rfl) ?_
        refine g_u (s_load_imm rfl rfl rfl tA22 tS22 rfl rfl) ?_
        refine g_u (s_indexAddr rfl rfl rfl Tryz.underlying22 tS58 (by decide) (ixR (l := njB [gR32]) (i := 0) (by decide +kernel))) ?_
        refine g_u (s_fieldAddr_cp rfl rfl fa58_1 rfl rfl) ?_
        refine g_u (s_load_cp rfl rfl tA56 tS56 rfl rfl) ?_
        refine g_u (s_indexAddr rfl rfl rfl Tryz.underlying56 tS55 (by decide) (ixC (l := (nthR (njB [gR32]) 0).scopes) (i := 0) (by decide +kernel))) ?_
        refine g_u (s_fieldAddr_cp rfl rfl fa55_2 rfl rfl) ?_
        refine g_u (s_load_cp rfl rfl tA53 tS53 rfl rfl) ?_
        refine g_u (s_indexAddr rfl rfl rfl Tryz.underlying53 tS52 (by decide) (ixS (l := (nthC (nthR (njB [gR32]) 0).scopes 0).spans) (i := 0) (by decide +kernel))) ?_
        refine g_u (s_load_cp rfl rfl tA52 tS52 rfl (by first | exact getS_w (GSpan.width _) rfl | rfl)) ?_
        refine g_uG (s_alloc' 1003 rfl rfl rfl tZ52) rfl ?_
        refine g_u (s_store_imm rfl rfl rfl tS52 (by first | exact beqW (GSpan.width _) | rfl) (by first | exact setS_w (z52_w.trans (GSpan.width _).symm) rfl | rfl)) ?_
        refine g_nil ?_
        refine normal_thn ?_
        refine aw_seq ?_
        refine aw_region ?_
        refine g_u (s_fieldAddr rfl rfl fa52_6 rfl) ?_
        refine g_u (s_load_imm rfl rfl rfl tA45 tS45 rfl rfl) ?_
        refine g_u (s_eqI rfl rfl rfl) ?_
        refine g_u (s_mv_imm rfl rfl) ?_
        refine g_case (t := 64) rfl ?_
        rintro (hb4 | hb4)
        · rw [hb4]
          refine g_run rfl rfl (s_fieldAddr rfl rfl fa52_7 rfl) ?_
          refine g_run rfl rfl (s_load_imm rfl rfl rfl tA45 tS45 rfl rfl) ?_
          refine g_run rfl rfl (s_eqI rfl rfl rfl) ?_
          refine g_u (s_pick_t rfl rfl rfl) ?_
          refine g_u (s_mv_imm rfl rfl) ?_
          refine g_case (t := 69) rfl ?_
          rintro (hb5 | hb5)
          · rw [hb5]
            refine g_run rfl rfl (s_fieldAddr rfl rfl fa52_3 rfl) ?_
            refine g_run rfl rfl (s_load_imm rfl rfl rfl tA9 tS9 rfl rfl) ?_
            refine g_run rfl rfl (s_eqS rfl rfl rfl) ?_
            refine g_u (s_pick_t rfl rfl rfl) ?_
            refine g_u (s_mv_imm rfl rfl) ?_
            refine g_case (t := 74) rfl ?_
            rintro (hb6 | hb6)
            · rw [hb6]
              refine g_run rfl rfl (s_fieldAddr rfl rfl fa52_8 rfl) ?_
              refine g_run rfl rfl (s_load_imm rfl rfl rfl tA46 tS46 rfl rfl) ?_
              refine g_run rfl rfl (s_lenL rfl rfl Tryz.underlying46) ?_
              refine g_run rfl rfl (s_eqI rfl rfl rfl) ?_
              refine g_u (s_pick_t rfl rfl rfl) ?_
              refine g_u (s_mv_imm rfl rfl) ?_
              refine g_case (t := 80) rfl ?_
              rintro (hb7 | hb7)
              · rw [hb7]
                refine g_run rfl rfl (s_fieldAddr rfl rfl fa52_8 rfl) ?_
                refine g_run rfl rfl (s_load_imm rfl rfl rfl tA46 tS46 rfl rfl) ?_
                refine g_run rfl rfl (s_indexAddr rfl rfl rfl Tryz.underlying46 tS93 (by decide) (ixA (l := (nthS (nthC (nthR (njB [gR32]) 0).scopes 0).spans 0).attrs) (i := 0) (by decide +kernel))) ?_
                refine g_run rfl rfl (s_fieldAddr_cp rfl rfl fa93_1 rfl rfl) ?_
                refine g_run rfl rfl (s_fieldAddr_cp rfl rfl fa91_0 rfl rfl) ?_
                refine g_run rfl rfl (s_load_cp rfl rfl tA5 tS5 rfl rfl) ?_
                refine g_run rfl rfl (s_eqI rfl rfl rfl) ?_
                refine g_u (s_pick_t rfl rfl rfl) ?_
                refine g_u (s_mv_imm rfl rfl) ?_
                refine g_case (t := 89) rfl ?_
                rintro (hb8 | hb8)
                · rw [hb8]
                  refine g_run rfl rfl (s_fieldAddr rfl rfl fa52_9 rfl) ?_
                  refine g_run rfl rfl (s_load_imm rfl rfl rfl tA47 tS47 rfl rfl) ?_
                  refine g_run rfl rfl (s_lenL rfl rfl Tryz.underlying47) ?_
                  refine g_run rfl rfl (s_eqI rfl rfl rfl) ?_
                  refine g_u (s_pick_t rfl rfl rfl) ?_
                  refine g_u (s_mv_imm rfl rfl) ?_
                  refine g_case (t := 95) rfl ?_
                  rintro (hb9 | hb9)
                  · rw [hb9]
                    refine g_run rfl rfl (s_fieldAddr rfl rfl fa52_9 rfl) ?_
                    refine g_run rfl rfl (s_load_imm rfl rfl rfl tA47 tS47 rfl rfl) ?_
                    refine g_run rfl rfl (s_indexAddr rfl rfl rfl Tryz.underlying47 tS95 (by decide) (ixE (l := (nthS (nthC (nthR (njB [gR32]) 0).scopes 0).spans 0).events) (i := 0) (by decide +kernel))) ?_
                    refine g_run rfl rfl (s_fieldAddr_cp rfl rfl fa95_2 rfl rfl) ?_
                    refine g_run rfl rfl (s_load_cp rfl rfl tA46 tS46 rfl rfl) ?_
                    refine g_run rfl rfl (s_lenL rfl rfl Tryz.underlying46) ?_
                    refine g_run rfl rfl (s_eqI rfl rfl rfl) ?_
                    refine g_u (s_pick_t rfl rfl rfl) ?_
                    refine g_u (s_mv_imm rfl rfl) ?_
                    refine g_case (t := 104) rfl ?_
                    rintro (hb10 | hb10)
                    · rw [hb10]
                      refine g_run rfl rfl (s_fieldAddr rfl rfl fa24_0 rfl) ?_
                      refine g_run rfl rfl (s_load_imm rfl rfl rfl tA22 tS22 rfl rfl) ?_
                      refine g_run rfl rfl (s_indexAddr rfl rfl rfl Tryz.underlying22 tS58 (by decide) (ixR (l := njB [gR32]) (i := 0) (by decide +kernel))) ?_
                      refine g_run rfl rfl (s_fieldAddr_cp rfl rfl fa58_1 rfl rfl) ?_
                      refine g_run rfl rfl (s_load_cp rfl rfl tA56 tS56 rfl rfl) ?_
                      refine g_run rfl rfl (s_indexAddr rfl rfl rfl Tryz.underlying56 tS55 (by decide) (ixC (l := (nthR (njB [gR32]) 0).scopes) (i := 0) (by decide +kernel))) ?_
                      refine g_run rfl rfl (s_fieldAddr_cp rfl rfl fa55_0 rfl rfl) ?_
                      refine g_run rfl rfl (s_load_cp rfl rfl tA9 tS9 rfl rfl) ?_
                      refine g_run rfl rfl (s_eqS rfl rfl rfl) ?_
                      refine g_u (s_pick_t rfl rfl rfl) ?_
                      refine g_u (s_mv_imm rfl rfl) ?_
                      refine g_case (t := 115) rfl ?_
                      rintro (hb11 | hb11)
                      · rw [hb11]
                        refine g_run rfl rfl (s_call1 (nil1 (n := 7) (named_c [] kShop trivial (by decide))) rfl rfl) ?_
                        refine g_run rfl rfl (s_lenL rfl rfl Tryz.underlying46) ?_
                        refine g_run rfl rfl (s_eqI rfl rfl rfl) ?_
                        refine g_u (s_pick_t rfl rfl rfl) ?_
                        refine g_u (s_mv_imm rfl rfl) ?_
                        refine g_case (t := 120) rfl ?_
                        rintro (hb12 | hb12)
                        · rw [hb12]
                          refine g_run rfl rfl (s_call1 (nil1 (n := 7) (named_c [] ⟨#[]⟩ trivial (by decide))) rfl rfl) ?_
                          refine g_run rfl rfl (s_lenL rfl rfl Tryz.underlying46) ?_
                          refine g_run rfl rfl (s_eqI rfl rfl rfl) ?_
                          refine g_u (s_pick_t rfl rfl rfl) ?_
                          refine g_u (s_as_imm rfl rfl) ?_
                          refine g_nil ?_
                          refine normal_thn ?_
                          refine aw_ret ?_
                          exact ⟨⟨(rfl : toAV (Al.look _ _) = some _).trans (congrArg some (by rfl)), rfl⟩, trivial⟩
                        · exact killT hb12 (by first | rfl | decide +kernel)
                      · exact killT hb11 (by first | rfl | decide +kernel)
                    · exact killT hb10 (by first | rfl | decide +kernel)
                  · exact killT hb9 (by first | rfl | decide +kernel)
                · exact killT hb8 (by first | rfl | decide +kernel)
              · exact killT hb7 (by first | rfl | decide +kernel)
            · exact killT hb6 (by first | rfl | decide +kernel)
          · exact killT hb5 (by first | rfl | decide +kernel)
        · exact killT hb4 (by first | rfl | decide +kernel)


end Go.Proofs

namespace Go.Al
open Go.RowKit

/-! ### Maps of one's own, under texts -/

section
variable {C : Cx} {A : Nat → SV} {d : Nat} {ty : TypeId} {pos : String} {af : Array Edge} {gd : Option (Nat × Bool)} {x y z : Operand} {T T' : TypeId}

end
end Go.Al

namespace Go.Al
open Go.RowKit

/-! ### A row of texts of one's own, which the library's sort turns -/

/-- So many things of no width. -/
def units (n : Nat) : List AV := List.replicate n (.agg [])
@[simp] theorem units_length (n : Nat) : (units n).length = n := List.length_replicate

section
variable {C : Cx} {A : Nat → SV} {d : Nat} {ty : TypeId} {pos : String} {af : Array Edge} {gd : Option (Nat × Bool)} {x y z : Operand} {T T' : TypeId}

end
end Go.Al

namespace Go.Al
open Go.RowKit

/-! ### The library's sort of texts -/

structure SortC (P : Program) (Γ : List (Nat × AV)) (f : FuncId) : Prop where
  call : callable P f = true
  sorts : ∀ (blk cap : Nat) (ss : List (List UInt8)) (w : World), Sort.Holds Proofs.encStr w blk 0 ss.toArray → blk < w.heap.size → ss.length < 4611686018427387904 →
    Calls P f #[.slice (some ⟨blk, 0, none⟩) ss.length cap] w fun e w' =>
      e = .returned (.tuple #[]) ∧ ∃ n os, w' = Sort.grow (Sort.putRow Proofs.encStr (Sort.ahead w n) blk 0 (ss.mergeSort fun x y => decide (x ≤ y)).toArray) os
  empty : PCall P Γ f [.v (.slice none 0 0)] []

section
variable {C : Cx} {A : Nat → SV} {d : Nat} {ty : TypeId} {pos : String} {af : Array Edge} {gd : Option (Nat × Bool)} {x y z : Operand} {T T' : TypeId}

end
end Go.Al

namespace Go.Proofs
open Go Go.Al

/-! ### Keys collected in a map, sorted: the own form -/

/-! ### What stands under a key of the own form -/
/-! ### Sorted -/
end Go.Proofs

namespace Go.Al
open Go.RowKit

/-! ### The step of a range over a map -/

section
variable {C : Cx} {d : Nat} {ty : TypeId} {pos : String} {af : Array Edge} {x : Operand}

end
end Go.Al
namespace Go.Al
section
variable {C : Cx} {A : Nat → SV} {d : Nat} {ty : TypeId} {pos : String} {af : Array Edge} {gd : Option (Nat × Bool)} {x : Operand}
end
end Go.Al

namespace Go.Proofs
open Go Go.Al

/-! ### How deep -/

/-! ### Keys met so far -/
end Go.Proofs

namespace Go.Proofs
open Go Go.Al Go.Shelf
end Go.Proofs

namespace Go.Proofs
open Go Go.Al
set_option maxRecDepth 10000
end Go.Proofs

namespace Go.Proofs
open Go Go.Al
set_option maxRecDepth 10000


end Go.Proofs

namespace Go.Proofs
open Go Go.Al

/-! ### What may be is its own form -/
theorem orC_eq0 {a b : Int} (h : orC a b = 0) : a = 0 ∧ b = 0 := by unfold orC at h; split at h <;> omega
theorem checkVs_mem {d : Int} : ∀ {l : List GV}, checkVs d l = 0 → ∀ y ∈ l, checkV d y = 0
  | x :: l, h, y, hy => by
    rw [checkVs] at h
    obtain ⟨h1, h2⟩ := orC_eq0 h
    rcases List.mem_cons.1 hy with rfl | hy
    · exact h1
    · exact checkVs_mem h2 y hy
theorem checkV_parts {d : Int} {v : GV} (h : checkV d v = 0) : checkVs (d + 1) v.list = 0 ∧ entC (d + 1) none v.map = 0 := by
  rw [checkV_eq] at h
  split at h; · omega
  split at h; · omega
  split at h; · omega
  split at h; · omega
  split at h; · omega
  exact orC_eq0 h
/-! ### Lists within one another -/
end Go.Proofs

namespace Go.Proofs
open Go Go.Al
set_option maxRecDepth 10000

end Go.Proofs

namespace Go.Proofs
open Go Go.Al

/-! ### Whether spans may be -/
def firstC : List Int → Int
  | [] => 0
  | c :: cs => orC c (firstC cs)
theorem evC_drop {l : List GE} {i : Nat} (h : i < l.length) : evC (l.drop i) = if 9223372036854775807 < (nthE l i).time then 11 else orC (orC (nameC (nthE l i).name) (attrsC (nthE l i).attrs)) (evC (l.drop (i + 1))) := by
  rw [drop_nth (d := ge0) h, evC]; rfl
theorem lkC_drop {l : List GL} {i : Nat} (h : i < l.length) : lkC (l.drop i) = if zeros (nthL l i).trace || zeros (nthL l i).span then 10 else orC (orC (nameC (nthL l i).state) (attrsC (nthL l i).attrs)) (lkC (l.drop (i + 1))) := by
  rw [drop_nth (d := gl0) h, lkC]; rfl
/-- Whether a span may be, or what is wrong with it first. -/
def spanOk (s : GSpan) : Int :=
  firstC [if zeros s.trace || zeros s.id then 10 else 0, nameC s.state, nameC s.name, if s.kind < 0 ∨ 5 < s.kind then 7 else 0, rgCheckM ⟨s.start, s.fin⟩, attrsC s.attrs, evsC s.events, lksC s.links, if s.code < 0 ∨ 2 < s.code then 7 else 0, nameC s.note]
/-! ### The spans of law 27 -/
end Go.Proofs

namespace Go.Al
section
variable {P : Program} {b : Frame} {a : Act} {k : List Item} {cs : List Frame} {w : World}
end

/-! ### A labelled stretch that nobody jumps back into -/
end Go.Al

namespace Go.Proofs
open Go Go.Al
set_option maxRecDepth 10000
end Go.Proofs

namespace Go.Proofs
open Go Go.Al
set_option maxRecDepth 10000
end Go.Proofs

namespace Go.Proofs
open Go Go.Al
set_option maxRecDepth 10000
end Go.Proofs

namespace Go.Proofs
open Go Go.Al
set_option maxRecDepth 10000
end Go.Proofs

namespace Go.Al
open Go.RowKit

section
variable {C : Cx} {A : Nat → SV} {d : Nat} {ty : TypeId} {pos : String} {af : Array Edge} {gd : Option (Nat × Bool)} {x y : Operand} {T T' : TypeId}

/-- A byte out of a row of one's own. -/
theorem s_loadByte {g o n : Nat} {l : List UInt8} {T0 : TypeId} (hN : Nat.blt d C.N = true) (h : opS A x = .ptr g o) (hg : A g = .box T0 (.imm (.arr n l))) (hq : tyAgg C.P T = some false) (hn : tySize C.P T = some 1) (ho : o < n) :
    StepU C ⟨some d, .load T x, ty, pos, af, gd⟩ (g :: opR x) [] A [(d, .imm (.v (byteV (l.getD o 0))))] := by
  refine StepU.value rfl hN fun A' G a w hR S => ?_
  have hgA : A' g = .box T0 (.imm (.arr n l)) := (hR g List.mem_cons_self).trans hg
  obtain ⟨c, h1, h2⟩ := S.opS ((opS_congr (fun k hk => hR k (List.mem_cons_of_mem _ hk))).trans h) rfl
  simp only [RepS] at h1
  have hev : a.eval x = .pointer (some ⟨G.blk g, o, none⟩) := by rw [h2, h1]; rfl
  have hb := S.holds g
  rw [hgA] at hb
  simp only [Holds] at hb
  obtain ⟨how, ⟨cs, fr, hb0, hrep, huf⟩, hni⟩ := hb
  simp only [RepS, RepC] at hrep
  obtain ⟨e1, e2⟩ := hrep
  have hol : o < l.length := by omega
  have hcell : w.cell? ⟨G.blk g, o, none⟩ = some (byteV (l.getD o 0)) := by
    simp only [World.cell?, hb0, Option.isSome_none, Bool.false_eq_true, if_false]
    rw [← Array.getElem?_toList, e1, List.getElem?_map, List.getElem?_eq_getElem hol]
    simp [List.getD_eq_getElem?_getD, hol]
  refine ⟨byteV (l.getD o 0), ?_, valS_imm.2 (rep_p _ _ rfl)⟩
  simp only [execOp, Instr.loadAt, Instr.sureAddr, hev, Sem.run_bind, Sem.run_pure, Result.andThen_ok]
  rw [run_loadVar (cs := [byteV (l.getD o 0)]) hq (by simpa using hn) (fun _ => rfl) (fun j hj => by
    have : j = 0 := by simpa using hj
    subst this; simpa using hcell)]
  rfl
end
end Go.Al

namespace Go.Proofs
open Go Go.Al

theorem orC_assoc (a b c : Int) : orC (orC a b) c = orC a (orC b c) := by
  by_cases ha : a = 0
  · rw [orC_zero a b ha, orC_zero a (orC b c) ha]
  · rw [orC_pos a b ha, orC_pos a c ha, orC_pos a (orC b c) ha]
theorem spanOk_eq (s : GSpan) : spanOk s = orC (if zeros s.trace || zeros s.id then 10 else 0) (orC (orC (nameC s.state) (nameC s.name)) (orC (if s.kind < 0 ∨ 5 < s.kind then 7 else 0) (orC (rgCheckM ⟨s.start, s.fin⟩) (orC (orC (attrsC s.attrs) (orC (evsC s.events) (lksC s.links))) (orC (if s.code < 0 ∨ 2 < s.code then 7 else 0) (nameC s.note)))))) := by
  unfold spanOk
  simp only [firstC, orC_right, orC_assoc]
theorem zeros_snoc : ∀ (m : Bs) (x : UInt8), zeros (m ++ [x]) = (zeros m && (x == 0))
  | [], x => by simp [zeros]
  | y :: m, x => by
    have := zeros_snoc m x
    simp only [zeros, List.cons_append, List.all_cons] at this ⊢
    rw [this, Bool.and_assoc]
theorem byte0 (x : UInt8) : (((x.toNat : Nat) : Int) == 0) = (x == 0) := by
  rw [Bool.eq_iff_iff, beq_iff_eq, beq_iff_eq]
  constructor
  · intro h
    have h2 : x.toNat = (0 : UInt8).toNat := by show x.toNat = 0; omega
    exact UInt8.toNat_inj.1 h2
  · rintro rfl; rfl
theorem zeros_take {l : Bs} {i : Nat} (h : i < l.length) : zeros (l.take (i + 1)) = (zeros (l.take i) && ((((l.getD i 0).toNat : Nat) : Int) == 0)) := by
  rw [byte0, ← zeros_snoc]
  congr 1
  rw [List.take_succ_eq_append_getElem h]
  simp [List.getD_eq_getElem?_getD, h]
end Go.Proofs

namespace Go.Proofs
open Go Go.Al
set_option maxRecDepth 10000
set_option maxHeartbeats 400000 in
theorem rname_c (t : ByteArray) (ht : t.size < 9223372036854775808) : PCall Tryz.prog Γ0 92 [sv t] [iv (nameC t)] := by
  have cr := check_range t
  have ce := check_eq t
  refine pcall_of Tryz.func92 rfl Tryz.ntmps92 (by kernel_rfl) rfl fun w0 I0 G0 => ?_
  refine aw_seq ?_
  refine aw_region ?_
  refine g_u (s_as_imm rfl rfl) ?_
  refine g_nil ?_
  refine normal_thn ?_
  refine aw_seq ?_
  refine aw_seq ?_
  refine aw_region ?_
  refine g_u (s_mv_imm rfl rfl) ?_
  refine g_u (s_call1 (rcheck_c _ (by omega)) rfl rfl) ?_
  refine g_u (s_neI rfl rfl rfl) ?_
  refine g_nil ?_
  refine normal_thn ?_
  refine aw_cond rfl (fun hb1 => ?_) (fun hb1 => ?_)
  · skip
    have q := bne_iff_ne.1 hb1
    refine aw_seq ?_
    refine aw_region ?_
    refine g_u (s_as_imm rfl rfl) ?_
    refine g_nil ?_
    refine normal_thn ?_
    refine aw_ret ?_
    refine ret_thn ?_
    exact ⟨⟨(rfl : toAV (Al.look _ _) = some _).trans (congrArg some (by (exact congrArg iv (by unfold nameC; (repeat' split) <;> first | rfl | omega)))), rfl⟩, trivial⟩
  · skip
    have q := bne_eq_false_iff_eq.1 hb1
    refine aw_skip ?_
    refine normal_thn ?_
    refine aw_seq ?_
    refine aw_seq ?_
    refine aw_region ?_
    refine g_u (s_mv_imm rfl rfl) ?_
    refine g_u (s_lenS rfl rfl Tryz.underlying9) ?_
    refine g_u (s_gtI rfl rfl rfl) ?_
    refine g_nil ?_
    refine normal_thn ?_
    refine aw_cond rfl (fun hb2 => ?_) (fun hb2 => ?_)
    · skip
      have q := of_decide_eq_true hb2
      refine aw_seq ?_
      refine aw_region ?_
      refine g_u (s_as_imm rfl rfl) ?_
      refine g_nil ?_
      refine normal_thn ?_
      refine aw_ret ?_
      refine ret_thn ?_
      exact ⟨⟨(rfl : toAV (Al.look _ _) = some _).trans (congrArg some (by (exact congrArg iv (by unfold nameC; (repeat' split) <;> first | rfl | omega)))), rfl⟩, trivial⟩
    · skip
      have q := of_decide_eq_false hb2
      refine aw_skip ?_
      refine normal_thn ?_
      refine aw_seq ?_
      refine aw_region ?_
      refine g_u (s_as_imm rfl rfl) ?_
      refine g_nil ?_
      refine normal_thn ?_
      refine aw_ret ?_
      exact ⟨⟨(rfl : toAV (Al.look _ _) = some _).trans (congrArg some (by (exact congrArg iv (by unfold nameC; (repeat' split) <;> first | rfl | omega)))), rfl⟩, trivial⟩

set_option maxHeartbeats 400000 in
theorem or_c (a b : Int) : PCall Tryz.prog Γ0 143 [iv a, iv b] [iv (orC a b)] := by
  refine pcall_of Tryz.func143 rfl Tryz.ntmps143 (by kernel_rfl) rfl fun w0 I0 G0 => ?_
  refine aw_seq ?_
  refine aw_region ?_
  refine g_u (s_as_imm rfl rfl) ?_
  refine g_nil ?_
  refine normal_thn ?_
  refine aw_seq ?_
  refine aw_seq ?_
  refine aw_region ?_
  refine g_u (s_mv_imm rfl rfl) ?_
  refine g_u (s_neI rfl rfl rfl) ?_
  refine g_nil ?_
  refine normal_thn ?_
  refine aw_cond rfl (fun hb1 => ?_) (fun hb1 => ?_)
  · skip
    have q := bne_iff_ne.1 hb1
    refine aw_seq ?_
    refine aw_region ?_
    refine g_u (s_mv_imm rfl rfl) ?_
    refine g_u (s_as_imm rfl rfl) ?_
    refine g_nil ?_
    refine normal_thn ?_
    refine aw_ret ?_
    refine ret_thn ?_
    exact ⟨⟨(rfl : toAV (Al.look _ _) = some _).trans (congrArg some (by (exact congrArg iv (by first | (rw [orC_pos _ _ q]; done) | (rw [orC_zero _ _ q]; done))))), rfl⟩, trivial⟩
  · skip
    have q := bne_eq_false_iff_eq.1 hb1
    refine aw_skip ?_
    refine normal_thn ?_
    refine aw_seq ?_
    refine aw_region ?_
    refine g_u (s_mv_imm rfl rfl) ?_
    refine g_u (s_as_imm rfl rfl) ?_
    refine g_nil ?_
    refine normal_thn ?_
    refine aw_ret ?_
    exact ⟨⟨(rfl : toAV (Al.look _ _) = some _).trans (congrArg some (by (exact congrArg iv (by first | (rw [orC_pos _ _ q]; done) | (rw [orC_zero _ _ q]; done))))), rfl⟩, trivial⟩

set_option maxHeartbeats 1000000 in
theorem none_c (t id : Bs) (h1 : t.length = 16) (h2 : id.length = 8) : PCall Tryz.prog Γ0 142 [.arr 16 t, .arr 8 id] [bv (zeros t || zeros id)] := by
  refine pcall_of Tryz.func142 rfl Tryz.ntmps142 (by kernel_rfl) rfl fun w0 I0 G0 => ?_
  refine aw_seq ?_
  refine aw_region ?_
  refine g_uG (s_box_imm 1002 rfl rfl rfl rfl) rfl ?_
  refine g_uG (s_box_imm 1003 rfl rfl rfl rfl) rfl ?_
  refine g_u (s_as_imm rfl rfl) ?_
  refine g_nil ?_
  refine normal_thn ?_
  refine aw_seq ?_
  refine aw_region ?_
  refine g_u (s_as_imm rfl rfl) ?_
  refine g_u (s_as_imm rfl rfl) ?_
  refine g_nil ?_
  refine normal_thn ?_
  refine aw_seq ?_
  refine aw_seq ?_
  refine aw_region ?_
  refine g_u (s_as_imm rfl rfl) ?_
  refine g_nil ?_
  refine normal_thn ?_
  refine aw_block ?_
  refine aw_loop' (fun i : Nat => [(2, .ptr 1002 0), (1002, .box 42 (.imm (.arr 16 t))), (3, .ptr 1003 0), (1003, .box 44 (.imm (.arr 8 id))), (5, .imm (bv (zeros (t.take i)))), (6, .imm (bv true)), (7, .imm (iv (i : Int)))]) (fun i => i ≤ 16) (fun i => 16 - i) (0) ?_ ⟨rfl, rfl, rfl, rfl, rfl, rfl, rfl, trivial⟩ ?_
  · exact Nat.zero_le _
  · rintro i h1i; have h1i : i ≤ 16 := h1i
    refine aw_seq ?_
    refine aw_seq ?_
    refine aw_region ?_
    refine g_u (s_mv_imm rfl rfl) ?_
    refine g_u (s_ltI rfl rfl rfl) ?_
    refine g_nil ?_
    refine normal_thn ?_
    refine aw_cond rfl (fun hb1 => ?_) (fun hb1 => ?_)
    · skip
      have hii : i + 1 ≤ 16 := by have := of_decide_eq_true hb1; omega
      refine aw_skip ?_
      refine normal_thn ?_
      refine aw_seq ?_
      refine aw_block ?_
      refine aw_region ?_
      refine g_u (s_mv_imm rfl rfl) ?_
      refine g_u (s_mv_imm rfl rfl) ?_
      refine g_case (t := 14) rfl ?_
      rintro (hb2 | hb2)
      · rw [hb2]
        have q : zeros (t.take i) = true := hb2
        refine g_run rfl rfl (s_mv_imm rfl rfl) ?_
        refine g_run rfl rfl (s_ixOwn rfl rfl rfl Tryz.underlying42 tS5 (by ((try simp only [decide_eq_true_eq, decide_eq_false_iff_not, bne_iff_ne, ne_eq, beq_iff_eq, bne_eq_false_iff_eq, beq_eq_false_iff_ne, Bool.not_eq_true', Bool.not_eq_false', gt_iff_lt, ge_iff_le] at *); (repeat simp (disch := omega) only [wrap64, wrap32] at *)); omega)) ?_
        refine g_run rfl rfl (s_loadByte rfl rfl rfl tA5 tS5 (by (try dsimp only); omega)) ?_
        refine g_run rfl rfl (s_eqI rfl rfl rfl) ?_
        refine g_u (s_pick_t rfl rfl rfl) ?_
        refine g_u (s_as_imm rfl rfl) ?_
        refine g_nil ?_
        refine normal_blk ?_
        refine normal_thn ?_
        refine aw_region ?_
        refine g_u (s_mv_imm rfl rfl) ?_
        refine g_u (s_add rfl rfl rfl) ?_
        refine g_u (s_as_imm rfl rfl) ?_
        refine g_nil ?_
        refine normal_thn ?_
        have ez := zeros_take (l := t) (i := i) (by omega)
        have ei : (0 + ((i : Nat) : Int).toNat) = i := by omega
        refine ⟨i + 1, hii, ⟨rfl, rfl, rfl, rfl, look_bool rfl (by first | (rw [ez, q]; done) | (rw [ez, q]; rfl) | (rw [ez, q]; simp only [ei, Bool.true_and]; done) | (rw [ez, q]; simp only [ei, Bool.true_and]; rfl)), rfl, look_int rfl (by rw [wrap64 (by omega) (by omega)]; rfl), trivial⟩, by (try dsimp only); omega⟩
      · rw [hb2]
        have q : zeros (t.take i) = false := hb2
        refine g_skip rfl rfl rfl ?_
        refine g_skip rfl rfl rfl ?_
        refine g_skip rfl rfl rfl ?_
        refine g_skip rfl rfl rfl ?_
        refine g_u (s_pick_f rfl rfl rfl) ?_
        refine g_u (s_as_imm rfl rfl) ?_
        refine g_nil ?_
        refine normal_blk ?_
        refine normal_thn ?_
        refine aw_region ?_
        refine g_u (s_mv_imm rfl rfl) ?_
        refine g_u (s_add rfl rfl rfl) ?_
        refine g_u (s_as_imm rfl rfl) ?_
        refine g_nil ?_
        refine normal_thn ?_
        have ez := zeros_take (l := t) (i := i) (by omega)
        have ei : (0 + ((i : Nat) : Int).toNat) = i := by omega
        refine ⟨i + 1, hii, ⟨rfl, rfl, rfl, rfl, look_bool rfl (by first | (rw [ez, q]; done) | (rw [ez, q]; rfl) | (rw [ez, q]; simp only [ei, Bool.true_and]; done) | (rw [ez, q]; simp only [ei, Bool.true_and]; rfl)), rfl, look_int rfl (by rw [wrap64 (by omega) (by omega)]; rfl), trivial⟩, by (try dsimp only); omega⟩
    · skip
      have hin : i = 16 := by have := of_decide_eq_false hb1; omega
      refine aw_exit ?_
      refine exit_thn ?_
      refine exit_thn ?_
      refine exit_blk ?_
      refine normal_thn ?_
      refine aw_seq ?_
      refine aw_seq ?_
      refine aw_region ?_
      refine g_u (s_as_imm rfl rfl) ?_
      refine g_nil ?_
      refine normal_thn ?_
      refine aw_block ?_
      refine aw_loop' (fun j : Nat => [(2, .ptr 1002 0), (1002, .box 42 (.imm (.arr 16 t))), (3, .ptr 1003 0), (1003, .box 44 (.imm (.arr 8 id))), (5, .imm (bv (zeros t))), (6, .imm (bv (zeros (id.take j)))), (8, .imm (iv (j : Int)))]) (fun j => j ≤ 8) (fun j => 8 - j) (0) ?_ ⟨rfl, rfl, rfl, rfl, look_bool rfl (by rw [hin, ← h1, List.take_length]), rfl, rfl, trivial⟩ ?_
      · exact Nat.zero_le _
      · rintro j h1j; have h1j : j ≤ 8 := h1j
        refine aw_seq ?_
        refine aw_seq ?_
        refine aw_region ?_
        refine g_u (s_mv_imm rfl rfl) ?_
        refine g_u (s_ltI rfl rfl rfl) ?_
        refine g_nil ?_
        refine normal_thn ?_
        refine aw_cond rfl (fun hb3 => ?_) (fun hb3 => ?_)
        · skip
          have hij : j + 1 ≤ 8 := by have := of_decide_eq_true hb3; omega
          refine aw_skip ?_
          refine normal_thn ?_
          refine aw_seq ?_
          refine aw_block ?_
          refine aw_region ?_
          refine g_u (s_mv_imm rfl rfl) ?_
          refine g_u (s_mv_imm rfl rfl) ?_
          refine g_case (t := 25) rfl ?_
          rintro (hb4 | hb4)
          · rw [hb4]
            have q : zeros (id.take j) = true := hb4
            refine g_run rfl rfl (s_mv_imm rfl rfl) ?_
            refine g_run rfl rfl (s_ixOwn rfl rfl rfl Tryz.underlying44 tS5 (by ((try simp only [decide_eq_true_eq, decide_eq_false_iff_not, bne_iff_ne, ne_eq, beq_iff_eq, bne_eq_false_iff_eq, beq_eq_false_iff_ne, Bool.not_eq_true', Bool.not_eq_false', gt_iff_lt, ge_iff_le] at *); (repeat simp (disch := omega) only [wrap64, wrap32] at *)); omega)) ?_
            refine g_run rfl rfl (s_loadByte rfl rfl rfl tA5 tS5 (by (try dsimp only); omega)) ?_
            refine g_run rfl rfl (s_eqI rfl rfl rfl) ?_
            refine g_u (s_pick_t rfl rfl rfl) ?_
            refine g_u (s_as_imm rfl rfl) ?_
            refine g_nil ?_
            refine normal_blk ?_
            refine normal_thn ?_
            refine aw_region ?_
            refine g_u (s_mv_imm rfl rfl) ?_
            refine g_u (s_add rfl rfl rfl) ?_
            refine g_u (s_as_imm rfl rfl) ?_
            refine g_nil ?_
            refine normal_thn ?_
            have ez := zeros_take (l := id) (i := j) (by omega)
            have ei : (0 + ((j : Nat) : Int).toNat) = j := by omega
            refine ⟨j + 1, hij, ⟨rfl, rfl, rfl, rfl, rfl, look_bool rfl (by first | (rw [ez, q]; done) | (rw [ez, q]; rfl) | (rw [ez, q]; simp only [ei, Bool.true_and]; done) | (rw [ez, q]; simp only [ei, Bool.true_and]; rfl)), look_int rfl (by rw [wrap64 (by omega) (by omega)]; rfl), trivial⟩, by (try dsimp only); omega⟩
          · rw [hb4]
            have q : zeros (id.take j) = false := hb4
            refine g_skip rfl rfl rfl ?_
            refine g_skip rfl rfl rfl ?_
            refine g_skip rfl rfl rfl ?_
            refine g_skip rfl rfl rfl ?_
            refine g_u (s_pick_f rfl rfl rfl) ?_
            refine g_u (s_as_imm rfl rfl) ?_
            refine g_nil ?_
            refine normal_blk ?_
            refine normal_thn ?_
            refine aw_region ?_
            refine g_u (s_mv_imm rfl rfl) ?_
            refine g_u (s_add rfl rfl rfl) ?_
            refine g_u (s_as_imm rfl rfl) ?_
            refine g_nil ?_
            refine normal_thn ?_
            have ez := zeros_take (l := id) (i := j) (by omega)
            have ei : (0 + ((j : Nat) : Int).toNat) = j := by omega
            refine ⟨j + 1, hij, ⟨rfl, rfl, rfl, rfl, rfl, look_bool rfl (by first | (rw [ez, q]; done) | (rw [ez, q]; rfl) | (rw [ez, q]; simp only [ei, Bool.true_and]; done) | (rw [ez, q]; simp only [ei, Bool.true_and]; rfl)), look_int rfl (by rw [wrap64 (by omega) (by omega)]; rfl), trivial⟩, by (try dsimp only); omega⟩
        · skip
          have hjn : j = 8 := by have := of_decide_eq_false hb3; omega
          refine aw_exit ?_
          refine exit_thn ?_
          refine exit_thn ?_
          refine exit_blk ?_
          refine normal_thn ?_
          refine aw_seq ?_
          refine aw_region ?_
          refine g_u (s_mv_imm rfl rfl) ?_
          refine g_u (s_mv_imm rfl rfl) ?_
          refine g_case (t := 32) rfl ?_
          rintro (hb5 | hb5)
          · rw [hb5]
            have q : zeros t = true := hb5
            refine g_skip rfl rfl rfl ?_
            refine g_u (s_pick_t rfl rfl rfl) ?_
            refine g_u (s_as_imm rfl rfl) ?_
            refine g_nil ?_
            refine normal_thn ?_
            refine aw_ret ?_
            exact ⟨⟨(rfl : toAV (Al.look _ _) = some _).trans (congrArg some (by (exact congrArg bv (by (try rw [q]); first | rfl | (rw [hjn, ← h2, List.take_length]; rfl))))), rfl⟩, trivial⟩
          · rw [hb5]
            have q : zeros t = false := hb5
            refine g_run rfl rfl (s_mv_imm rfl rfl) ?_
            refine g_u (s_pick_f rfl rfl rfl) ?_
            refine g_u (s_as_imm rfl rfl) ?_
            refine g_nil ?_
            refine normal_thn ?_
            refine aw_ret ?_
            exact ⟨⟨(rfl : toAV (Al.look _ _) = some _).trans (congrArg some (by (exact congrArg bv (by (try rw [q]); first | rfl | (rw [hjn, ← h2, List.take_length]; rfl))))), rfl⟩, trivial⟩

set_option maxHeartbeats 1000000 in
theorem revents_c (l : List GE) (ho : ∀ e ∈ l, e.ok) (hw : sumBy GE.wt l ≤ 1000000) : PCall Tryz.prog Γ0 144 [.sl 3 (l.map GE.av)] [iv (evsC l)] := by
  have ql := sumBy_len GE.wt (fun e => by unfold GE.wt; omega) l
  refine pcall_of Tryz.func144 rfl Tryz.ntmps144 (by kernel_rfl) rfl fun w0 I0 G0 => ?_
  refine aw_seq ?_
  refine aw_region ?_
  refine g_u (s_as_imm rfl rfl) ?_
  refine g_nil ?_
  refine normal_thn ?_
  refine aw_seq ?_
  refine aw_seq ?_
  refine aw_region ?_
  refine g_u (s_mv_imm rfl rfl) ?_
  refine g_u (s_lenL rfl rfl Tryz.underlying47) ?_
  refine g_u (s_gtI rfl rfl rfl) ?_
  refine g_nil ?_
  refine normal_thn ?_
  refine aw_cond rfl (fun hb1 => ?_) (fun hb1 => ?_)
  · skip
    have q16 : 16 < l.length := by have := of_decide_eq_true hb1; (try simp only [List.length_map] at this); omega
    refine aw_seq ?_
    refine aw_region ?_
    refine g_u (s_as_imm rfl rfl) ?_
    refine g_nil ?_
    refine normal_thn ?_
    refine aw_ret ?_
    refine ret_thn ?_
    exact ⟨⟨(rfl : toAV (Al.look _ _) = some _).trans (congrArg some (by (exact congrArg iv (by unfold evsC; first | (rw [if_pos q16]; done) | (rw [if_neg q16, h2, hin, List.drop_length]; rfl) | (rw [if_neg q16, h2, E, if_pos qt]; done) | (rw [if_neg q16, h2, E, if_neg qt, orC_pos _ _ q]; done))))), rfl⟩, trivial⟩
  · skip
    have q16 : ¬ 16 < l.length := by have := of_decide_eq_false hb1; (try simp only [List.length_map] at this); omega
    refine aw_skip ?_
    refine normal_thn ?_
    refine aw_seq ?_
    refine aw_seq ?_
    refine aw_region ?_
    refine g_u (s_as_imm rfl rfl) ?_
    refine g_nil ?_
    refine normal_thn ?_
    refine aw_block ?_
    refine aw_loop' (fun i : Nat => [(0, .imm (.sl 3 (l.map GE.av))), (3, .imm (iv (i : Int)))]) (fun i => i ≤ l.length ∧ evC l = evC (l.drop i)) (fun i => l.length - i) (0) ?_ ⟨rfl, rfl, trivial⟩ ?_
    · exact ⟨Nat.zero_le _, rfl⟩
    · rintro i ⟨h1, h2⟩; (try dsimp only at h1 h2)
      refine aw_seq ?_
      refine aw_seq ?_
      refine aw_region ?_
      refine g_u (s_mv_imm rfl rfl) ?_
      refine g_u (s_mv_imm rfl rfl) ?_
      refine g_u (s_lenL rfl rfl Tryz.underlying47) ?_
      refine g_u (s_ltI rfl rfl rfl) ?_
      refine g_nil ?_
      refine normal_thn ?_
      refine aw_cond rfl (fun hb2 => ?_) (fun hb2 => ?_)
      · skip
        have hi : i < l.length := by have := of_decide_eq_true hb2; (try simp only [List.length_map] at this); omega
        have hx := sumBy_mem GE.wt (nthE_mem hi)
        have hx2 : (nthE l i).wt = 1 + (nthE l i).name.size + wtAs (nthE l i).attrs := rfl
        have hxo := (ho _ (nthE_mem hi)).2.2
        have E := evC_drop hi
        refine aw_skip ?_
        refine normal_thn ?_
        refine aw_seq ?_
        refine aw_block ?_
        refine aw_seq ?_
        refine aw_seq ?_
        refine aw_region ?_
        refine g_u (s_mv_imm rfl rfl) ?_
        refine g_u (s_mv_imm rfl rfl) ?_
        refine g_u (s_indexAddr rfl rfl rfl Tryz.underlying47 tS95 (by omega) (ixE hi)) ?_
        refine g_u (s_fieldAddr_cp rfl rfl fa95_0 rfl rfl) ?_
        refine g_u (s_load_cp rfl rfl tA45 tS45 rfl rfl) ?_
        refine g_u (s_gtI rfl rfl rfl) ?_
        refine g_nil ?_
        refine normal_thn ?_
        refine aw_cond rfl (fun hb3 => ?_) (fun hb3 => ?_)
        · skip
          have qt : 9223372036854775807 < (nthE l i).time := of_decide_eq_true hb3
          refine aw_seq ?_
          refine aw_region ?_
          refine g_u (s_as_imm rfl rfl) ?_
          refine g_nil ?_
          refine normal_thn ?_
          refine aw_ret ?_
          refine ret_thn ?_
          refine ret_blk ?_
          refine ret_thn ?_
          refine ret_thn ?_
          refine ret_blk ?_
          refine ret_thn ?_
          exact ⟨⟨(rfl : toAV (Al.look _ _) = some _).trans (congrArg some (by (exact congrArg iv (by unfold evsC; first | (rw [if_pos q16]; done) | (rw [if_neg q16, h2, hin, List.drop_length]; rfl) | (rw [if_neg q16, h2, E, if_pos qt]; done) | (rw [if_neg q16, h2, E, if_neg qt, orC_pos _ _ q]; done))))), rfl⟩, trivial⟩
        · skip
          have qt : ¬ 9223372036854775807 < (nthE l i).time := of_decide_eq_false hb3
          refine aw_skip ?_
          refine normal_thn ?_
          refine aw_seq ?_
          refine aw_draw mixed ?_
          refine g_u (s_mv_imm rfl rfl) ?_
          refine g_u (s_mv_imm rfl rfl) ?_
          refine g_u (s_indexAddr rfl rfl rfl Tryz.underlying47 tS95 (by omega) (ixE hi)) ?_
          refine g_u (s_fieldAddr_cp rfl rfl fa95_1 rfl rfl) ?_
          refine g_u (s_load_cp rfl rfl tA9 tS9 rfl rfl) ?_
          refine g_u (s_call1 (rname_c _ (by omega)) rfl rfl) ?_
          refine g_u (s_mv_imm rfl rfl) ?_
          refine g_u (s_mv_imm rfl rfl) ?_
          refine g_u (s_indexAddr rfl rfl rfl Tryz.underlying47 tS95 (by omega) (ixE hi)) ?_
          refine g_u (s_fieldAddr_cp rfl rfl fa95_2 rfl rfl) ?_
          refine g_u (s_load_cp rfl rfl tA46 tS46 rfl rfl) ?_
          refine g_u (s_call1 (rcheckAs_c _ (by assumption) (by omega)) rfl rfl) ?_
          refine g_u (s_call1 (or_c _ _) rfl rfl) ?_
          refine g_u (s_as_imm rfl rfl) ?_
          refine g_nil ⟨by kernel_rfl, ?_⟩
          refine normal_thn ?_
          refine aw_seq ?_
          refine aw_region ?_
          refine g_u (s_mv_imm rfl rfl) ?_
          refine g_u (s_neI rfl rfl rfl) ?_
          refine g_nil ?_
          refine normal_thn ?_
          refine aw_cond rfl (fun hb4 => ?_) (fun hb4 => ?_)
          · skip
            have q := bne_iff_ne.1 hb4
            refine aw_seq ?_
            refine aw_region ?_
            refine g_u (s_mv_imm rfl rfl) ?_
            refine g_u (s_as_imm rfl rfl) ?_
            refine g_nil ?_
            refine normal_thn ?_
            refine aw_ret ?_
            refine ret_blk ?_
            refine ret_thn ?_
            refine ret_thn ?_
            refine ret_blk ?_
            refine ret_thn ?_
            exact ⟨⟨(rfl : toAV (Al.look _ _) = some _).trans (congrArg some (by (exact congrArg iv (by unfold evsC; first | (rw [if_pos q16]; done) | (rw [if_neg q16, h2, hin, List.drop_length]; rfl) | (rw [if_neg q16, h2, E, if_pos qt]; done) | (rw [if_neg q16, h2, E, if_neg qt, orC_pos _ _ q]; done))))), rfl⟩, trivial⟩
          · skip
            have q := bne_eq_false_iff_eq.1 hb4
            refine aw_skip ?_
            refine normal_blk ?_
            refine normal_thn ?_
            refine aw_region ?_
            refine g_u (s_mv_imm rfl rfl) ?_
            refine g_u (s_add rfl rfl rfl) ?_
            refine g_u (s_as_imm rfl rfl) ?_
            refine g_nil ?_
            refine normal_thn ?_
            refine ⟨i + 1, ⟨hi, by (try dsimp only); rw [h2, E, if_neg qt, orC_zero _ _ q]⟩, ⟨rfl, look_int rfl (by rw [wrap64 (by omega) (by omega)]; rfl), trivial⟩, by (try dsimp only); omega⟩
      · skip
        have hin : i = l.length := by have := of_decide_eq_false hb2; (try simp only [List.length_map] at this); omega
        refine aw_exit ?_
        refine exit_thn ?_
        refine exit_thn ?_
        refine exit_blk ?_
        refine normal_thn ?_
        refine aw_seq ?_
        refine aw_region ?_
        refine g_u (s_as_imm rfl rfl) ?_
        refine g_nil ?_
        refine normal_thn ?_
        refine aw_ret ?_
        exact ⟨⟨(rfl : toAV (Al.look _ _) = some _).trans (congrArg some (by (exact congrArg iv (by unfold evsC; first | (rw [if_pos q16]; done) | (rw [if_neg q16, h2, hin, List.drop_length]; rfl) | (rw [if_neg q16, h2, E, if_pos qt]; done) | (rw [if_neg q16, h2, E, if_neg qt, orC_pos _ _ q]; done))))), rfl⟩, trivial⟩

set_option maxHeartbeats 2000000 in
theorem rlinks_c (l : List GL) (ho : ∀ e ∈ l, e.ok) (hw : sumBy GL.wt l ≤ 1000000) : PCall Tryz.prog Γ0 145 [.sl 26 (l.map GL.av)] [iv (lksC l)] := by
  have ql := sumBy_len GL.wt (fun e => by unfold GL.wt; omega) l
  refine pcall_of Tryz.func145 rfl Tryz.ntmps145 (by kernel_rfl) rfl fun w0 I0 G0 => ?_
  refine aw_seq ?_
  refine aw_region ?_
  refine g_u (s_as_imm rfl rfl) ?_
  refine g_nil ?_
  refine normal_thn ?_
  refine aw_seq ?_
  refine aw_seq ?_
  refine aw_region ?_
  refine g_u (s_mv_imm rfl rfl) ?_
  refine g_u (s_lenL rfl rfl Tryz.underlying48) ?_
  refine g_u (s_gtI rfl rfl rfl) ?_
  refine g_nil ?_
  refine normal_thn ?_
  refine aw_cond rfl (fun hb1 => ?_) (fun hb1 => ?_)
  · skip
    have q16 : 16 < l.length := by have := of_decide_eq_true hb1; (try simp only [List.length_map] at this); omega
    refine aw_seq ?_
    refine aw_region ?_
    refine g_u (s_as_imm rfl rfl) ?_
    refine g_nil ?_
    refine normal_thn ?_
    refine aw_ret ?_
    refine ret_thn ?_
    exact ⟨⟨(rfl : toAV (Al.look _ _) = some _).trans (congrArg some (by (exact congrArg iv (by unfold lksC; first | (rw [if_pos q16]; done) | (rw [if_neg q16, h2, hin, List.drop_length]; rfl) | (rw [if_neg q16, h2, E, if_pos q]; done) | (rw [if_neg q16, h2, E, q, if_neg (by decide), orC_pos _ _ q2]; done))))), rfl⟩, trivial⟩
  · skip
    have q16 : ¬ 16 < l.length := by have := of_decide_eq_false hb1; (try simp only [List.length_map] at this); omega
    refine aw_skip ?_
    refine normal_thn ?_
    refine aw_seq ?_
    refine aw_seq ?_
    refine aw_region ?_
    refine g_u (s_as_imm rfl rfl) ?_
    refine g_nil ?_
    refine normal_thn ?_
    refine aw_block ?_
    refine aw_loop' (fun i : Nat => [(0, .imm (.sl 26 (l.map GL.av))), (3, .imm (iv (i : Int)))]) (fun i => i ≤ l.length ∧ lkC l = lkC (l.drop i)) (fun i => l.length - i) (0) ?_ ⟨rfl, rfl, trivial⟩ ?_
    · exact ⟨Nat.zero_le _, rfl⟩
    · rintro i ⟨h1, h2⟩; (try dsimp only at h1 h2)
      refine aw_seq ?_
      refine aw_seq ?_
      refine aw_region ?_
      refine g_u (s_mv_imm rfl rfl) ?_
      refine g_u (s_mv_imm rfl rfl) ?_
      refine g_u (s_lenL rfl rfl Tryz.underlying48) ?_
      refine g_u (s_ltI rfl rfl rfl) ?_
      refine g_nil ?_
      refine normal_thn ?_
      refine aw_cond rfl (fun hb2 => ?_) (fun hb2 => ?_)
      · skip
        have hi : i < l.length := by have := of_decide_eq_true hb2; (try simp only [List.length_map] at this); omega
        have hx := sumBy_mem GL.wt (nthL_mem hi)
        have hx2 : (nthL l i).wt = 1 + (nthL l i).state.size + wtAs (nthL l i).attrs := rfl
        have hx3 := ho _ (nthL_mem hi)
        have hxo := hx3.2.2.2
        have hx4 := hx3.1
        have hx5 := hx3.2.1
        have E := lkC_drop hi
        refine aw_skip ?_
        refine normal_thn ?_
        refine aw_seq ?_
        refine aw_block ?_
        refine aw_seq ?_
        refine aw_seq ?_
        refine aw_draw mixed ?_
        refine g_u (s_mv_imm rfl rfl) ?_
        refine g_u (s_mv_imm rfl rfl) ?_
        refine g_u (s_indexAddr rfl rfl rfl Tryz.underlying48 tS107 (by omega) (ixL hi)) ?_
        refine g_u (s_fieldAddr_cp rfl rfl fa107_0 rfl rfl) ?_
        refine g_u (s_load_cp rfl rfl tA42 tS42 rfl rfl) ?_
        refine g_u (s_mv_imm rfl rfl) ?_
        refine g_u (s_mv_imm rfl rfl) ?_
        refine g_u (s_indexAddr rfl rfl rfl Tryz.underlying48 tS107 (by omega) (ixL hi)) ?_
        refine g_u (s_fieldAddr_cp rfl rfl fa107_1 rfl rfl) ?_
        refine g_u (s_load_cp rfl rfl tA44 tS44 rfl rfl) ?_
        refine g_u (s_call1 (none_c _ _ (by assumption) (by assumption)) rfl rfl) ?_
        refine g_nil ⟨by kernel_rfl, ?_⟩
        refine normal_thn ?_
        refine aw_cond rfl (fun hb3 => ?_) (fun hb3 => ?_)
        · skip
          have q : (zeros (nthL l i).trace || zeros (nthL l i).span) = true := hb3
          refine aw_seq ?_
          refine aw_region ?_
          refine g_u (s_as_imm rfl rfl) ?_
          refine g_nil ?_
          refine normal_thn ?_
          refine aw_ret ?_
          refine ret_thn ?_
          refine ret_blk ?_
          refine ret_thn ?_
          refine ret_thn ?_
          refine ret_blk ?_
          refine ret_thn ?_
          exact ⟨⟨(rfl : toAV (Al.look _ _) = some _).trans (congrArg some (by (exact congrArg iv (by unfold lksC; first | (rw [if_pos q16]; done) | (rw [if_neg q16, h2, hin, List.drop_length]; rfl) | (rw [if_neg q16, h2, E, if_pos q]; done) | (rw [if_neg q16, h2, E, q, if_neg (by decide), orC_pos _ _ q2]; done))))), rfl⟩, trivial⟩
        · skip
          have q : (zeros (nthL l i).trace || zeros (nthL l i).span) = false := hb3
          refine aw_skip ?_
          refine normal_thn ?_
          refine aw_seq ?_
          refine aw_draw mixed ?_
          refine g_u (s_mv_imm rfl rfl) ?_
          refine g_u (s_mv_imm rfl rfl) ?_
          refine g_u (s_indexAddr rfl rfl rfl Tryz.underlying48 tS107 (by omega) (ixL hi)) ?_
          refine g_u (s_fieldAddr_cp rfl rfl fa107_2 rfl rfl) ?_
          refine g_u (s_load_cp rfl rfl tA9 tS9 rfl rfl) ?_
          refine g_u (s_call1 (rname_c _ (by omega)) rfl rfl) ?_
          refine g_u (s_mv_imm rfl rfl) ?_
          refine g_u (s_mv_imm rfl rfl) ?_
          refine g_u (s_indexAddr rfl rfl rfl Tryz.underlying48 tS107 (by omega) (ixL hi)) ?_
          refine g_u (s_fieldAddr_cp rfl rfl fa107_3 rfl rfl) ?_
          refine g_u (s_load_cp rfl rfl tA46 tS46 rfl rfl) ?_
          refine g_u (s_call1 (rcheckAs_c _ (by assumption) (by omega)) rfl rfl) ?_
          refine g_u (s_call1 (or_c _ _) rfl rfl) ?_
          refine g_u (s_as_imm rfl rfl) ?_
          refine g_nil ⟨by kernel_rfl, ?_⟩
          refine normal_thn ?_
          refine aw_seq ?_
          refine aw_region ?_
          refine g_u (s_mv_imm rfl rfl) ?_
          refine g_u (s_neI rfl rfl rfl) ?_
          refine g_nil ?_
          refine normal_thn ?_
          refine aw_cond rfl (fun hb4 => ?_) (fun hb4 => ?_)
          · skip
            have q2 := bne_iff_ne.1 hb4
            refine aw_seq ?_
            refine aw_region ?_
            refine g_u (s_mv_imm rfl rfl) ?_
            refine g_u (s_as_imm rfl rfl) ?_
            refine g_nil ?_
            refine normal_thn ?_
            refine aw_ret ?_
            refine ret_blk ?_
            refine ret_thn ?_
            refine ret_thn ?_
            refine ret_blk ?_
            refine ret_thn ?_
            exact ⟨⟨(rfl : toAV (Al.look _ _) = some _).trans (congrArg some (by (exact congrArg iv (by unfold lksC; first | (rw [if_pos q16]; done) | (rw [if_neg q16, h2, hin, List.drop_length]; rfl) | (rw [if_neg q16, h2, E, if_pos q]; done) | (rw [if_neg q16, h2, E, q, if_neg (by decide), orC_pos _ _ q2]; done))))), rfl⟩, trivial⟩
          · skip
            have q2 := bne_eq_false_iff_eq.1 hb4
            refine aw_skip ?_
            refine normal_blk ?_
            refine normal_thn ?_
            refine aw_region ?_
            refine g_u (s_mv_imm rfl rfl) ?_
            refine g_u (s_add rfl rfl rfl) ?_
            refine g_u (s_as_imm rfl rfl) ?_
            refine g_nil ?_
            refine normal_thn ?_
            refine ⟨i + 1, ⟨hi, by (try dsimp only); rw [h2, E, q, if_neg (by decide), orC_zero _ _ q2]⟩, ⟨rfl, look_int rfl (by rw [wrap64 (by omega) (by omega)]; rfl), trivial⟩, by (try dsimp only); omega⟩
      · skip
        have hin : i = l.length := by have := of_decide_eq_false hb2; (try simp only [List.length_map] at this); omega
        refine aw_exit ?_
        refine exit_thn ?_
        refine exit_thn ?_
        refine exit_blk ?_
        refine normal_thn ?_
        refine aw_seq ?_
        refine aw_region ?_
        refine g_u (s_as_imm rfl rfl) ?_
        refine g_nil ?_
        refine normal_thn ?_
        refine aw_ret ?_
        exact ⟨⟨(rfl : toAV (Al.look _ _) = some _).trans (congrArg some (by (exact congrArg iv (by unfold lksC; first | (rw [if_pos q16]; done) | (rw [if_neg q16, h2, hin, List.drop_length]; rfl) | (rw [if_neg q16, h2, E, if_pos q]; done) | (rw [if_neg q16, h2, E, q, if_neg (by decide), orC_pos _ _ q2]; done))))), rfl⟩, trivial⟩

set_option maxHeartbeats 4000000 in
theorem rspanCheck_c (s : GSpan) (ho : s.ok) (hw : s.wt ≤ 1000000) : PCall Tryz.prog Γ0 93 [s.av] [iv (spanOk s)] := by
  have qw : s.wt = 1 + s.state.size + s.name.size + s.note.size + wtAs s.attrs + sumBy GE.wt s.events + sumBy GL.wt s.links := rfl
  have ql := sumBy_len GE.wt (fun e => by unfold GE.wt; omega) s.events
  have qm := sumBy_len GL.wt (fun e => by unfold GL.wt; omega) s.links
  obtain ⟨⟨o1, o2, o3⟩, ⟨o4, o5, o6⟩, o7, ho8, ho9, ho10⟩ := ho
  refine pcall_of Tryz.func93 rfl Tryz.ntmps93 (by kernel_rfl) rfl fun w0 I0 G0 => ?_
  refine aw_seq ?_
  refine aw_region ?_
  refine g_uG (s_box_imm 1001 rfl rfl rfl rfl) rfl ?_
  refine g_u (s_as_imm rfl rfl) ?_
  refine g_nil ?_
  refine normal_thn ?_
  refine aw_seq ?_
  refine aw_seq ?_
  refine aw_region ?_
  refine g_u (s_fieldAddr rfl rfl fa52_0 rfl) ?_
  refine g_u (s_load_imm rfl rfl rfl tA42 tS42 rfl rfl) ?_
  refine g_u (s_fieldAddr rfl rfl fa52_1 rfl) ?_
  refine g_u (s_load_imm rfl rfl rfl tA44 tS44 rfl rfl) ?_
  refine g_u (s_call1 (none_c _ _ (by assumption) (by assumption)) rfl rfl) ?_
  refine g_nil ?_
  refine normal_thn ?_
  refine aw_cond rfl (fun hb1 => ?_) (fun hb1 => ?_)
  · skip
    have hz : (zeros s.trace || zeros s.id) = true := hb1
    refine aw_seq ?_
    refine aw_region ?_
    refine g_u (s_as_imm rfl rfl) ?_
    refine g_nil ?_
    refine normal_thn ?_
    refine aw_ret ?_
    refine ret_thn ?_
    exact ⟨⟨(rfl : toAV (Al.look _ _) = some _).trans (congrArg some (by (exact congrArg iv (by rw [spanOk_eq]; first | (rw [hz, if_pos rfl, orC_pos _ _ (by decide)]; done) | (rw [hz, if_neg (by decide), orC_zero _ _ rfl, orC_pos _ _ q23]; done) | (rw [hz, if_neg (by decide), orC_zero _ _ rfl, orC_zero _ _ q23, if_pos hk, orC_pos _ _ (by decide)]; done) | (rw [hz, if_neg (by decide), orC_zero _ _ rfl, orC_zero _ _ q23, if_neg hk, orC_zero _ _ rfl, hf, orC_pos _ _ (by decide)]; done) | (rw [hz, if_neg (by decide), orC_zero _ _ rfl, orC_zero _ _ q23, if_neg hk, orC_zero _ _ rfl, orC_zero _ _ hf, orC_pos _ _ q6]; done) | (rw [hz, if_neg (by decide), orC_zero _ _ rfl, orC_zero _ _ q23, if_neg hk, orC_zero _ _ rfl, orC_zero _ _ hf, orC_zero _ _ q6, if_pos hc, orC_pos _ _ (by decide)]; done) | (rw [hz, if_neg (by decide), orC_zero _ _ rfl, orC_zero _ _ q23, if_neg hk, orC_zero _ _ rfl, orC_zero _ _ hf, orC_zero _ _ q6, if_neg hc, orC_zero _ _ rfl]; done))))), rfl⟩, trivial⟩
  · skip
    have hz : (zeros s.trace || zeros s.id) = false := hb1
    refine aw_skip ?_
    refine normal_thn ?_
    refine aw_seq ?_
    refine aw_seq ?_
    refine aw_draw mixed ?_
    refine g_u (s_fieldAddr rfl rfl fa52_3 rfl) ?_
    refine g_u (s_load_imm rfl rfl rfl tA9 tS9 rfl rfl) ?_
    refine g_u (s_call1 (rname_c _ (by omega)) rfl rfl) ?_
    refine g_u (s_fieldAddr rfl rfl fa52_4 rfl) ?_
    refine g_u (s_load_imm rfl rfl rfl tA9 tS9 rfl rfl) ?_
    refine g_u (s_call1 (rname_c _ (by omega)) rfl rfl) ?_
    refine g_u (s_call1 (or_c _ _) rfl rfl) ?_
    refine g_u (s_as_imm rfl rfl) ?_
    refine g_nil ⟨by kernel_rfl, ?_⟩
    refine normal_thn ?_
    refine aw_seq ?_
    refine aw_region ?_
    refine g_u (s_mv_imm rfl rfl) ?_
    refine g_u (s_neI rfl rfl rfl) ?_
    refine g_nil ?_
    refine normal_thn ?_
    refine aw_cond rfl (fun hb2 => ?_) (fun hb2 => ?_)
    · skip
      have q23 := bne_iff_ne.1 hb2
      refine aw_seq ?_
      refine aw_region ?_
      refine g_u (s_mv_imm rfl rfl) ?_
      refine g_u (s_as_imm rfl rfl) ?_
      refine g_nil ?_
      refine normal_thn ?_
      refine aw_ret ?_
      refine ret_thn ?_
      exact ⟨⟨(rfl : toAV (Al.look _ _) = some _).trans (congrArg some (by (exact congrArg iv (by rw [spanOk_eq]; first | (rw [hz, if_pos rfl, orC_pos _ _ (by decide)]; done) | (rw [hz, if_neg (by decide), orC_zero _ _ rfl, orC_pos _ _ q23]; done) | (rw [hz, if_neg (by decide), orC_zero _ _ rfl, orC_zero _ _ q23, if_pos hk, orC_pos _ _ (by decide)]; done) | (rw [hz, if_neg (by decide), orC_zero _ _ rfl, orC_zero _ _ q23, if_neg hk, orC_zero _ _ rfl, hf, orC_pos _ _ (by decide)]; done) | (rw [hz, if_neg (by decide), orC_zero _ _ rfl, orC_zero _ _ q23, if_neg hk, orC_zero _ _ rfl, orC_zero _ _ hf, orC_pos _ _ q6]; done) | (rw [hz, if_neg (by decide), orC_zero _ _ rfl, orC_zero _ _ q23, if_neg hk, orC_zero _ _ rfl, orC_zero _ _ hf, orC_zero _ _ q6, if_pos hc, orC_pos _ _ (by decide)]; done) | (rw [hz, if_neg (by decide), orC_zero _ _ rfl, orC_zero _ _ q23, if_neg hk, orC_zero _ _ rfl, orC_zero _ _ hf, orC_zero _ _ q6, if_neg hc, orC_zero _ _ rfl]; done))))), rfl⟩, trivial⟩
    · skip
      have q23 := bne_eq_false_iff_eq.1 hb2
      refine aw_skip ?_
      refine normal_thn ?_
      refine aw_seq ?_
      refine aw_seq ?_
      refine aw_region ?_
      refine g_u (s_fieldAddr rfl rfl fa52_5 rfl) ?_
      refine g_u (s_load_imm rfl rfl rfl tA3 tS3 rfl rfl) ?_
      refine g_u (s_ltI rfl rfl rfl) ?_
      refine g_u (s_mv_imm rfl rfl) ?_
      refine g_case (t := 23) rfl ?_
      rintro (hb3 | hb3)
      · rw [hb3]
        have hk : s.kind < 0 ∨ 5 < s.kind := .inl (of_decide_eq_true hb3)
        refine g_skip rfl rfl rfl ?_
        refine g_skip rfl rfl rfl ?_
        refine g_skip rfl rfl rfl ?_
        refine g_u (s_pick_t rfl rfl rfl) ?_
        refine g_nil ?_
        refine normal_thn ?_
        refine aw_cond_true rfl ?_
        refine aw_seq ?_
        refine aw_region ?_
        refine g_u (s_as_imm rfl rfl) ?_
        refine g_nil ?_
        refine normal_thn ?_
        refine aw_ret ?_
        refine ret_thn ?_
        exact ⟨⟨(rfl : toAV (Al.look _ _) = some _).trans (congrArg some (by (exact congrArg iv (by rw [spanOk_eq]; first | (rw [hz, if_pos rfl, orC_pos _ _ (by decide)]; done) | (rw [hz, if_neg (by decide), orC_zero _ _ rfl, orC_pos _ _ q23]; done) | (rw [hz, if_neg (by decide), orC_zero _ _ rfl, orC_zero _ _ q23, if_pos hk, orC_pos _ _ (by decide)]; done) | (rw [hz, if_neg (by decide), orC_zero _ _ rfl, orC_zero _ _ q23, if_neg hk, orC_zero _ _ rfl, hf, orC_pos _ _ (by decide)]; done) | (rw [hz, if_neg (by decide), orC_zero _ _ rfl, orC_zero _ _ q23, if_neg hk, orC_zero _ _ rfl, orC_zero _ _ hf, orC_pos _ _ q6]; done) | (rw [hz, if_neg (by decide), orC_zero _ _ rfl, orC_zero _ _ q23, if_neg hk, orC_zero _ _ rfl, orC_zero _ _ hf, orC_zero _ _ q6, if_pos hc, orC_pos _ _ (by decide)]; done) | (rw [hz, if_neg (by decide), orC_zero _ _ rfl, orC_zero _ _ q23, if_neg hk, orC_zero _ _ rfl, orC_zero _ _ hf, orC_zero _ _ q6, if_neg hc, orC_zero _ _ rfl]; done))))), rfl⟩, trivial⟩
      · rw [hb3]
        have hk0 : ¬ s.kind < 0 := of_decide_eq_false hb3
        refine g_run rfl rfl (s_fieldAddr rfl rfl fa52_5 rfl) ?_
        refine g_run rfl rfl (s_load_imm rfl rfl rfl tA3 tS3 rfl rfl) ?_
        refine g_run rfl rfl (s_gtI rfl rfl rfl) ?_
        refine g_u (s_pick_f rfl rfl rfl) ?_
        refine g_nil ?_
        refine normal_thn ?_
        refine aw_cond rfl (fun hb4 => ?_) (fun hb4 => ?_)
        · skip
          have hk : s.kind < 0 ∨ 5 < s.kind := .inr (of_decide_eq_true hb4)
          refine aw_seq ?_
          refine aw_region ?_
          refine g_u (s_as_imm rfl rfl) ?_
          refine g_nil ?_
          refine normal_thn ?_
          refine aw_ret ?_
          refine ret_thn ?_
          exact ⟨⟨(rfl : toAV (Al.look _ _) = some _).trans (congrArg some (by (exact congrArg iv (by rw [spanOk_eq]; first | (rw [hz, if_pos rfl, orC_pos _ _ (by decide)]; done) | (rw [hz, if_neg (by decide), orC_zero _ _ rfl, orC_pos _ _ q23]; done) | (rw [hz, if_neg (by decide), orC_zero _ _ rfl, orC_zero _ _ q23, if_pos hk, orC_pos _ _ (by decide)]; done) | (rw [hz, if_neg (by decide), orC_zero _ _ rfl, orC_zero _ _ q23, if_neg hk, orC_zero _ _ rfl, hf, orC_pos _ _ (by decide)]; done) | (rw [hz, if_neg (by decide), orC_zero _ _ rfl, orC_zero _ _ q23, if_neg hk, orC_zero _ _ rfl, orC_zero _ _ hf, orC_pos _ _ q6]; done) | (rw [hz, if_neg (by decide), orC_zero _ _ rfl, orC_zero _ _ q23, if_neg hk, orC_zero _ _ rfl, orC_zero _ _ hf, orC_zero _ _ q6, if_pos hc, orC_pos _ _ (by decide)]; done) | (rw [hz, if_neg (by decide), orC_zero _ _ rfl, orC_zero _ _ q23, if_neg hk, orC_zero _ _ rfl, orC_zero _ _ hf, orC_zero _ _ q6, if_neg hc, orC_zero _ _ rfl]; done))))), rfl⟩, trivial⟩
        · skip
          have hk : ¬ (s.kind < 0 ∨ 5 < s.kind) := fun h => h.elim hk0 (of_decide_eq_false hb4)
          refine aw_skip ?_
          refine normal_thn ?_
          refine aw_seq ?_
          refine aw_seq ?_
          refine aw_region ?_
          refine g_u (s_fieldAddr rfl rfl fa52_6 rfl) ?_
          refine g_u (s_load_imm rfl rfl rfl tA45 tS45 rfl rfl) ?_
          refine g_u (s_fieldAddr rfl rfl fa52_7 rfl) ?_
          refine g_u (s_load_imm rfl rfl rfl tA45 tS45 rfl rfl) ?_
          refine g_u (s_call1 (rfine_c _ _) rfl rfl) ?_
          refine g_u (s_not rfl rfl) ?_
          refine g_nil ?_
          refine normal_thn ?_
          refine aw_cond rfl (fun hb5 => ?_) (fun hb5 => ?_)
          · skip
            have hf := rgCheck_bad (s := s.start) (e := s.fin) (by have e := hb5; simpa using e)
            refine aw_seq ?_
            refine aw_region ?_
            refine g_u (s_as_imm rfl rfl) ?_
            refine g_nil ?_
            refine normal_thn ?_
            refine aw_ret ?_
            refine ret_thn ?_
            exact ⟨⟨(rfl : toAV (Al.look _ _) = some _).trans (congrArg some (by (exact congrArg iv (by rw [spanOk_eq]; first | (rw [hz, if_pos rfl, orC_pos _ _ (by decide)]; done) | (rw [hz, if_neg (by decide), orC_zero _ _ rfl, orC_pos _ _ q23]; done) | (rw [hz, if_neg (by decide), orC_zero _ _ rfl, orC_zero _ _ q23, if_pos hk, orC_pos _ _ (by decide)]; done) | (rw [hz, if_neg (by decide), orC_zero _ _ rfl, orC_zero _ _ q23, if_neg hk, orC_zero _ _ rfl, hf, orC_pos _ _ (by decide)]; done) | (rw [hz, if_neg (by decide), orC_zero _ _ rfl, orC_zero _ _ q23, if_neg hk, orC_zero _ _ rfl, orC_zero _ _ hf, orC_pos _ _ q6]; done) | (rw [hz, if_neg (by decide), orC_zero _ _ rfl, orC_zero _ _ q23, if_neg hk, orC_zero _ _ rfl, orC_zero _ _ hf, orC_zero _ _ q6, if_pos hc, orC_pos _ _ (by decide)]; done) | (rw [hz, if_neg (by decide), orC_zero _ _ rfl, orC_zero _ _ q23, if_neg hk, orC_zero _ _ rfl, orC_zero _ _ hf, orC_zero _ _ q6, if_neg hc, orC_zero _ _ rfl]; done))))), rfl⟩, trivial⟩
          · skip
            have hf := rgCheck_fine (s := s.start) (e := s.fin) (by have e := hb5; simpa using e)
            refine aw_skip ?_
            refine normal_thn ?_
            refine aw_seq ?_
            refine aw_draw mixed ?_
            refine g_u (s_fieldAddr rfl rfl fa52_8 rfl) ?_
            refine g_u (s_load_imm rfl rfl rfl tA46 tS46 rfl rfl) ?_
            refine g_u (s_call1 (rcheckAs_c _ (by assumption) (by omega)) rfl rfl) ?_
            refine g_u (s_fieldAddr rfl rfl fa52_9 rfl) ?_
            refine g_u (s_load_imm rfl rfl rfl tA47 tS47 rfl rfl) ?_
            refine g_u (s_call1 (revents_c _ (by assumption) (by omega)) rfl rfl) ?_
            refine g_u (s_fieldAddr rfl rfl fa52_10 rfl) ?_
            refine g_u (s_load_imm rfl rfl rfl tA48 tS48 rfl rfl) ?_
            refine g_u (s_call1 (rlinks_c _ (by assumption) (by omega)) rfl rfl) ?_
            refine g_u (s_call1 (or_c _ _) rfl rfl) ?_
            refine g_u (s_call1 (or_c _ _) rfl rfl) ?_
            refine g_u (s_as_imm rfl rfl) ?_
            refine g_nil ⟨by kernel_rfl, ?_⟩
            refine normal_thn ?_
            refine aw_seq ?_
            refine aw_seq ?_
            refine aw_region ?_
            refine g_u (s_mv_imm rfl rfl) ?_
            refine g_u (s_neI rfl rfl rfl) ?_
            refine g_nil ?_
            refine normal_thn ?_
            refine aw_cond rfl (fun hb6 => ?_) (fun hb6 => ?_)
            · skip
              have q6 := bne_iff_ne.1 hb6
              refine aw_seq ?_
              refine aw_region ?_
              refine g_u (s_mv_imm rfl rfl) ?_
              refine g_u (s_as_imm rfl rfl) ?_
              refine g_nil ?_
              refine normal_thn ?_
              refine aw_ret ?_
              refine ret_thn ?_
              exact ⟨⟨(rfl : toAV (Al.look _ _) = some _).trans (congrArg some (by (exact congrArg iv (by rw [spanOk_eq]; first | (rw [hz, if_pos rfl, orC_pos _ _ (by decide)]; done) | (rw [hz, if_neg (by decide), orC_zero _ _ rfl, orC_pos _ _ q23]; done) | (rw [hz, if_neg (by decide), orC_zero _ _ rfl, orC_zero _ _ q23, if_pos hk, orC_pos _ _ (by decide)]; done) | (rw [hz, if_neg (by decide), orC_zero _ _ rfl, orC_zero _ _ q23, if_neg hk, orC_zero _ _ rfl, hf, orC_pos _ _ (by decide)]; done) | (rw [hz, if_neg (by decide), orC_zero _ _ rfl, orC_zero _ _ q23, if_neg hk, orC_zero _ _ rfl, orC_zero _ _ hf, orC_pos _ _ q6]; done) | (rw [hz, if_neg (by decide), orC_zero _ _ rfl, orC_zero _ _ q23, if_neg hk, orC_zero _ _ rfl, orC_zero _ _ hf, orC_zero _ _ q6, if_pos hc, orC_pos _ _ (by decide)]; done) | (rw [hz, if_neg (by decide), orC_zero _ _ rfl, orC_zero _ _ q23, if_neg hk, orC_zero _ _ rfl, orC_zero _ _ hf, orC_zero _ _ q6, if_neg hc, orC_zero _ _ rfl]; done))))), rfl⟩, trivial⟩
            · skip
              have q6 := bne_eq_false_iff_eq.1 hb6
              refine aw_skip ?_
              refine normal_thn ?_
              refine aw_seq ?_
              refine aw_seq ?_
              refine aw_region ?_
              refine g_u (s_fieldAddr rfl rfl fa52_11 rfl) ?_
              refine g_u (s_fieldAddr rfl rfl fa50_0 rfl) ?_
              refine g_u (s_load_imm rfl rfl rfl tA3 tS3 rfl rfl) ?_
              refine g_u (s_ltI rfl rfl rfl) ?_
              refine g_u (s_mv_imm rfl rfl) ?_
              refine g_case (t := 52) rfl ?_
              rintro (hb7 | hb7)
              · rw [hb7]
                have hc : s.code < 0 ∨ 2 < s.code := .inl (of_decide_eq_true hb7)
                refine g_skip rfl rfl rfl ?_
                refine g_skip rfl rfl rfl ?_
                refine g_skip rfl rfl rfl ?_
                refine g_skip rfl rfl rfl ?_
                refine g_u (s_pick_t rfl rfl rfl) ?_
                refine g_nil ?_
                refine normal_thn ?_
                refine aw_cond_true rfl ?_
                refine aw_seq ?_
                refine aw_region ?_
                refine g_u (s_as_imm rfl rfl) ?_
                refine g_nil ?_
                refine normal_thn ?_
                refine aw_ret ?_
                refine ret_thn ?_
                exact ⟨⟨(rfl : toAV (Al.look _ _) = some _).trans (congrArg some (by (exact congrArg iv (by rw [spanOk_eq]; first | (rw [hz, if_pos rfl, orC_pos _ _ (by decide)]; done) | (rw [hz, if_neg (by decide), orC_zero _ _ rfl, orC_pos _ _ q23]; done) | (rw [hz, if_neg (by decide), orC_zero _ _ rfl, orC_zero _ _ q23, if_pos hk, orC_pos _ _ (by decide)]; done) | (rw [hz, if_neg (by decide), orC_zero _ _ rfl, orC_zero _ _ q23, if_neg hk, orC_zero _ _ rfl, hf, orC_pos _ _ (by decide)]; done) | (rw [hz, if_neg (by decide), orC_zero _ _ rfl, orC_zero _ _ q23, if_neg hk, orC_zero _ _ rfl, orC_zero _ _ hf, orC_pos _ _ q6]; done) | (rw [hz, if_neg (by decide), orC_zero _ _ rfl, orC_zero _ _ q23, if_neg hk, orC_zero _ _ rfl, orC_zero _ _ hf, orC_zero _ _ q6, if_pos hc, orC_pos _ _ (by decide)]; done) | (rw [hz, if_neg (by decide), orC_zero _ _ rfl, orC_zero _ _ q23, if_neg hk, orC_zero _ _ rfl, orC_zero _ _ hf, orC_zero _ _ q6, if_neg hc, orC_zero _ _ rfl]; done))))), rfl⟩, trivial⟩
              · rw [hb7]
                have hc0 : ¬ s.code < 0 := of_decide_eq_false hb7
                refine g_run rfl rfl (s_fieldAddr rfl rfl fa52_11 rfl) ?_
                refine g_run rfl rfl (s_fieldAddr rfl rfl fa50_0 rfl) ?_
                refine g_run rfl rfl (s_load_imm rfl rfl rfl tA3 tS3 rfl rfl) ?_
                refine g_run rfl rfl (s_gtI rfl rfl rfl) ?_
                refine g_u (s_pick_f rfl rfl rfl) ?_
                refine g_nil ?_
                refine normal_thn ?_
                refine aw_cond rfl (fun hb8 => ?_) (fun hb8 => ?_)
                · skip
                  have hc : s.code < 0 ∨ 2 < s.code := .inr (of_decide_eq_true hb8)
                  refine aw_seq ?_
                  refine aw_region ?_
                  refine g_u (s_as_imm rfl rfl) ?_
                  refine g_nil ?_
                  refine normal_thn ?_
                  refine aw_ret ?_
                  refine ret_thn ?_
                  exact ⟨⟨(rfl : toAV (Al.look _ _) = some _).trans (congrArg some (by (exact congrArg iv (by rw [spanOk_eq]; first | (rw [hz, if_pos rfl, orC_pos _ _ (by decide)]; done) | (rw [hz, if_neg (by decide), orC_zero _ _ rfl, orC_pos _ _ q23]; done) | (rw [hz, if_neg (by decide), orC_zero _ _ rfl, orC_zero _ _ q23, if_pos hk, orC_pos _ _ (by decide)]; done) | (rw [hz, if_neg (by decide), orC_zero _ _ rfl, orC_zero _ _ q23, if_neg hk, orC_zero _ _ rfl, hf, orC_pos _ _ (by decide)]; done) | (rw [hz, if_neg (by decide), orC_zero _ _ rfl, orC_zero _ _ q23, if_neg hk, orC_zero _ _ rfl, orC_zero _ _ hf, orC_pos _ _ q6]; done) | (rw [hz, if_neg (by decide), orC_zero _ _ rfl, orC_zero _ _ q23, if_neg hk, orC_zero _ _ rfl, orC_zero _ _ hf, orC_zero _ _ q6, if_pos hc, orC_pos _ _ (by decide)]; done) | (rw [hz, if_neg (by decide), orC_zero _ _ rfl, orC_zero _ _ q23, if_neg hk, orC_zero _ _ rfl, orC_zero _ _ hf, orC_zero _ _ q6, if_neg hc, orC_zero _ _ rfl]; done))))), rfl⟩, trivial⟩
                · skip
                  have hc : ¬ (s.code < 0 ∨ 2 < s.code) := fun h => h.elim hc0 (of_decide_eq_false hb8)
                  refine aw_skip ?_
                  refine normal_thn ?_
                  refine aw_seq ?_
                  refine aw_region ?_
                  refine g_u (s_fieldAddr rfl rfl fa52_11 rfl) ?_
                  refine g_u (s_fieldAddr rfl rfl fa50_1 rfl) ?_
                  refine g_u (s_load_imm rfl rfl rfl tA9 tS9 rfl rfl) ?_
                  refine g_u (s_call1 (rname_c _ (by omega)) rfl rfl) ?_
                  refine g_u (s_as_imm rfl rfl) ?_
                  refine g_nil ?_
                  refine normal_thn ?_
                  refine aw_ret ?_
                  exact ⟨⟨(rfl : toAV (Al.look _ _) = some _).trans (congrArg some (by (exact congrArg iv (by rw [spanOk_eq]; first | (rw [hz, if_pos rfl, orC_pos _ _ (by decide)]; done) | (rw [hz, if_neg (by decide), orC_zero _ _ rfl, orC_pos _ _ q23]; done) | (rw [hz, if_neg (by decide), orC_zero _ _ rfl, orC_zero _ _ q23, if_pos hk, orC_pos _ _ (by decide)]; done) | (rw [hz, if_neg (by decide), orC_zero _ _ rfl, orC_zero _ _ q23, if_neg hk, orC_zero _ _ rfl, hf, orC_pos _ _ (by decide)]; done) | (rw [hz, if_neg (by decide), orC_zero _ _ rfl, orC_zero _ _ q23, if_neg hk, orC_zero _ _ rfl, orC_zero _ _ hf, orC_pos _ _ q6]; done) | (rw [hz, if_neg (by decide), orC_zero _ _ rfl, orC_zero _ _ q23, if_neg hk, orC_zero _ _ rfl, orC_zero _ _ hf, orC_zero _ _ q6, if_pos hc, orC_pos _ _ (by decide)]; done) | (rw [hz, if_neg (by decide), orC_zero _ _ rfl, orC_zero _ _ q23, if_neg hk, orC_zero _ _ rfl, orC_zero _ _ hf, orC_zero _ _ q6, if_neg hc, orC_zero _ _ rfl]; done))))), rfl⟩, trivial⟩

end Go.Proofs

namespace Go.Proofs
open Go Go.Al
set_option maxRecDepth 10000

end Go.Proofs

namespace Go.Proofs
open Go Go.Al
set_option maxRecDepth 10000

end Go.Proofs

namespace Go.Al
open Go.RowKit

/-! ### Functions that hand values to a loop's body -/

def base (P : Program) (Γ : List (Nat × AV)) (N : Nat) (w : World) (G : Gh) : Cx := ⟨P, w, G.I, fun _ => False, N, 100000, G, Γ, [], none⟩

section
variable {ι : Type} {P : Program} {Γ : List (Nat × AV)} {N n : Nat} {J : ι → (Nat → Nat → Prop) → World → Prop}

variable {c x y : Code} {st : St} {j : ι} {K : St → ι → Prop} {Q : Exit → St → ι → Prop}

/-! A region with a call of yield in it -/

theorem Go1.mono {C : Cx} {ops : Array Oper} {K K' : St → List Tr → Prop} (hK : ∀ st tr, K st tr → K' st tr) : ∀ {os : List Oper} {st : St} {tr : List Tr}, Go1 C ops os st tr K → Go1 C ops os st tr K'
  | [], _, _, h => hK _ _ h
  | _ :: _, _, _, ⟨t, h1, h2, h3⟩ => ⟨t, h1, h2, Go1.mono hK h3⟩

end

end Go.Al

namespace Go.Al
open Go.RowKit

/-! ### A range over a function -/

theorem Holds.kind {w0 : World} {E : Nat → Prop} {G : Gh} {a : Act} {w : World} {k b : Nat} {x : SV} (r : Holds w0 E G a w k x) (h : ownsB G k b x) {o : Obj} (ho : w.heap[b]? = some o) : isBook o = false := by
  cases x <;> simp only [ownsB] at h <;> simp only [Holds] at r
  case box T x =>
    obtain ⟨_, ⟨cs, fr, h1, _⟩, _⟩ := r
    rw [h, ho] at h1; cases h1; rfl
  case mpr ks vs =>
    obtain ⟨_, ⟨es, h1, _⟩, _⟩ := r
    rw [h, ho] at h1; cases h1; rfl
  case gen R => exact R.kind _ _ _ _ r.2 h ho
  case row l =>
    obtain ⟨ad, n', c, h1, h2⟩ := h
    rcases r.2 with ⟨e, _⟩ | ⟨b', cap, e, _, _, _, ⟨cs, T, h5, _⟩, _⟩
    · rw [e] at h1; cases h1
    · rw [e] at h1; cases h1; rw [← h2, h5] at ho; cases ho; rfl
  case itr m n s =>
    have h1 := r.2.1
    rw [h, ho] at h1; cases h1; rfl
  case tok n l =>
    obtain ⟨ad, n', c, h1, h2⟩ := h
    rcases r.2 with ⟨e, _⟩ | ⟨b', cap, e, _, _, _, _, ⟨cs, T, fr, h5, _⟩, _⟩
    · rw [e] at h1; cases h1
    · rw [e] at h1; cases h1; rw [← h2, h5] at ho; cases ho; rfl

def own (A : Nat → SV) (G : Gh) (b : Nat) : Prop := ∃ k, ownsB G k b (A k)

/-- A later base. -/
structure Sw (C : Cx) (w1 : World) (I1 : Nat → Nat → Prop) (E1 : Nat → Prop) (G1 : Gh) (Ds : List Nat) : Prop where
  os : w1.os = C.w0.os
  tape : w1.tape = C.w0.tape
  output : w1.output = C.w0.output
  size : C.w0.heap.size ≤ w1.heap.size
  block : ∀ k, k < C.w0.heap.size → ¬ C.E k → w1.heap[k]? = C.w0.heap[k]?
  own : ∀ b, (w1.heap.size ≤ b ∨ E1 b) → C.w0.heap.size ≤ b ∨ C.E b
  sub : Le C.w0 C.I0 w1 I1
  rel : ∀ g, C.K ≤ g → Turns C.G0 G1 g
  new : ∀ b o, I1 b o → C.I0 b o ∨ C.w0.heap.size ≤ b ∨ C.E b
  marks : ∀ d ∈ Ds, d < w1.heap.size ∧ ¬ E1 d ∧ C.w0.heap.size ≤ d ∧ w1.heap[d]? = some (.deferred (some []))
  nodup : Ds.Nodup

theorem Sw.start (C : Cx) : Sw C C.w0 C.I0 C.E C.G0 [] :=
  ⟨rfl, rfl, rfl, Nat.le_refl _, fun _ _ _ => rfl, fun _ h => h, Le.refl _ _, fun _ _ => ⟨rfl, .inl ⟨rfl, rfl⟩⟩, fun _ _ h => .inl h, fun d h => (by cases h), List.nodup_nil⟩

/-! The function's end -/

end Go.Al

namespace Go.Al
open Go.RowKit

end Go.Al

namespace Go.Proofs
open Go Go.Al

/-! ### All places of a batch, and what stands there -/

theorem plC_app (i : Nat) : ∀ (k : Nat) (l m : List GScope), plC i k (l ++ m) = plC i k l ++ plC i (k + l.length) m
  | k, [], m => by simp [plC]
  | k, x :: l, m => by
    simp only [List.cons_append, plC, plC_app i (k + 1) l m, List.append_assoc, List.length_cons]
    rw [show k + 1 + l.length = k + (l.length + 1) by omega]
theorem plR_app : ∀ (i : Nat) (l m : List GRes), plR i (l ++ m) = plR i l ++ plR (i + l.length) m
  | i, [], m => by simp [plR]
  | i, x :: l, m => by
    simp only [List.cons_append, plR, plR_app (i + 1) l m, List.append_assoc, List.length_cons]
    rw [show i + 1 + l.length = i + (l.length + 1) by omega]

theorem nthC_at {l : List GScope} {k : Nat} (h : k < l.length) : l = l.take k ++ nthC l k :: l.drop (k + 1) := by
  have : nthC l k = l[k] := by simp [nthC, nth, h]
  rw [this, List.getElem_cons_drop, List.take_append_drop]
theorem nthR_at {l : List GRes} {k : Nat} (h : k < l.length) : l = l.take k ++ nthR l k :: l.drop (k + 1) := by
  have : nthR l k = l[k] := by simp [nthR, nth, h]
  rw [this, List.getElem_cons_drop, List.take_append_drop]

theorem plC_at {i : Nat} {l : List GScope} {k m : Nat} (hk : k < l.length) (hm : m < (nthC l k).spans.length) : (plC i 0 l)[(plC i 0 (l.take k)).length + m]? = some (i, k, m) := by
  conv => lhs; arg 1; rw [nthC_at hk]
  have hlen : (l.take k).length = k := by rw [List.length_take]; omega
  rw [plC_app, List.getElem?_append_right (by omega), Nat.add_sub_cancel_left, Nat.zero_add, hlen, plC, List.getElem?_append_left (by simpa using hm)]
  simp [hm]
theorem pl_at {b : List GRes} {i k m : Nat} (hi : i < b.length) (hk : k < (nthR b i).scopes.length) (hm : m < (nthC (nthR b i).scopes k).spans.length) :
    (plR 0 b)[(plR 0 (b.take i)).length + (plC i 0 ((nthR b i).scopes.take k)).length + m]? = some (i, k, m) := by
  conv => lhs; arg 1; rw [nthR_at hi]
  have hlen : (b.take i).length = i := by rw [List.length_take]; omega
  rw [plR_app, Nat.add_assoc, List.getElem?_append_right (by omega), Nat.add_sub_cancel_left, Nat.zero_add, hlen, plR]
  have h1 := plC_at (i := i) hk hm
  rw [List.getElem?_append_left (List.getElem?_eq_some_iff.1 h1).1]
  exact h1

def spAt (b : List GRes) (p : Nat × Nat × Nat) : GSpan := nthS (nthC (nthR b p.1).scopes p.2.1).spans p.2.2
theorem plR_mem' : ∀ {l m : List GRes} {p : Nat × Nat × Nat}, p ∈ plR m.length l → p.1 < (m ++ l).length ∧ p.2.1 < (nthR (m ++ l) p.1).scopes.length ∧ p.2.2 < (nthC (nthR (m ++ l) p.1).scopes p.2.1).spans.length
  | [], m, p, h => by simp [plR] at h
  | r :: l, m, p, h => by
    rw [plR] at h
    rcases List.mem_append.1 h with h | h
    · have hr : nthR (m ++ r :: l) m.length = r := by simp [nthR, nth]
      have h1 : p.1 = m.length := by
        have : ∀ (k : Nat) (cs : List GScope), p ∈ plC m.length k cs → p.1 = m.length := by
          intro k cs
          induction cs generalizing k with
          | nil => intro h; simp [plC] at h
          | cons c cs ih =>
            intro h
            rw [plC] at h
            rcases List.mem_append.1 h with h | h
            · obtain ⟨j, _, rfl⟩ := List.mem_map.1 h; rfl
            · exact ih _ h
        exact this _ _ h
      have h2 := plC_mem (i := m.length) (l := r.scopes) (m := []) (p := p) h
      rw [h1, hr]
      exact ⟨by simp, h2⟩
    · have := plR_mem' (l := l) (m := m ++ [r]) (p := p) (by simpa using h)
      simpa using this
theorem pl_mem {b : List GRes} {p : Nat × Nat × Nat} (h : p ∈ plR 0 b) : p.1 < b.length ∧ p.2.1 < (nthR b p.1).scopes.length ∧ p.2.2 < (nthC (nthR b p.1).scopes p.2.1).spans.length := plR_mem' (m := []) h
theorem pl_mem_iff {b : List GRes} {p : Nat × Nat × Nat} : p ∈ plR 0 b ↔ p.1 < b.length ∧ p.2.1 < (nthR b p.1).scopes.length ∧ p.2.2 < (nthC (nthR b p.1).scopes p.2.1).spans.length :=
  ⟨pl_mem, fun ⟨h1, h2, h3⟩ => List.mem_of_getElem? (pl_at h1 h2 h3)⟩

/-! ### What stands at a place -/
def zS : GSpan := ⟨List.replicate 16 0, List.replicate 8 0, List.replicate 8 0, ⟨#[]⟩, ⟨#[]⟩, 0, 0, 0, [], [], [], 0, ⟨#[]⟩⟩
def inB (b : List GRes) (p : Int × Int × Int) : Bool :=
  decide (0 ≤ p.1) && decide (p.1 < b.length) && (decide (0 ≤ p.2.1) && decide (p.2.1 < (nthR b p.1.toNat).scopes.length)) && (decide (0 ≤ p.2.2) && decide (p.2.2 < (nthC (nthR b p.1.toNat).scopes p.2.1.toNat).spans.length))
def natP (p : Int × Int × Int) : Nat × Nat × Nat := (p.1.toNat, p.2.1.toNat, p.2.2.toNat)
def intP (p : Nat × Nat × Nat) : Int × Int × Int := ((p.1 : Int), (p.2.1 : Int), (p.2.2 : Int))
def placeAv (p : Int × Int × Int) : AV := .agg [iv p.1, iv p.2.1, iv p.2.2]
def atS (b : List GRes) (p : Int × Int × Int) : GSpan := if inB b p then spAt b (natP p) else zS

theorem inB_iff {b : List GRes} {p : Int × Int × Int} : inB b p = true ↔ 0 ≤ p.1 ∧ p.1 < b.length ∧ (0 ≤ p.2.1 ∧ p.2.1 < (nthR b p.1.toNat).scopes.length) ∧ 0 ≤ p.2.2 ∧ p.2.2 < (nthC (nthR b p.1.toNat).scopes p.2.1.toNat).spans.length := by
  simp only [inB, Bool.and_eq_true, decide_eq_true_eq, and_assoc]
theorem inB_mem {b : List GRes} {p : Int × Int × Int} : inB b p = true ↔ ∃ q ∈ plR 0 b, intP q = p := by
  rw [inB_iff]
  constructor
  · rintro ⟨h1, h2, ⟨h3, h4⟩, h5, h6⟩
    refine ⟨natP p, pl_mem_iff.2 ⟨by show p.1.toNat < _; omega, by show p.2.1.toNat < (nthR b p.1.toNat).scopes.length; omega, by show p.2.2.toNat < (nthC (nthR b p.1.toNat).scopes p.2.1.toNat).spans.length; omega⟩, ?_⟩
    obtain ⟨x, y, z⟩ := p
    simp only [intP, natP]
    dsimp only at h1 h3 h5
    rw [Int.toNat_of_nonneg h1, Int.toNat_of_nonneg h3, Int.toNat_of_nonneg h5]
  · rintro ⟨q, hq, rfl⟩
    obtain ⟨h1, h2, h3⟩ := pl_mem hq
    simp only [intP, Int.toNat_natCast]
    omega
theorem inB_nat {b : List GRes} {q : Nat × Nat × Nat} (h : q ∈ plR 0 b) : inB b (intP q) = true := inB_mem.2 ⟨q, h, rfl⟩
theorem atS_nat {b : List GRes} {q : Nat × Nat × Nat} (h : q ∈ plR 0 b) : atS b (intP q) = spAt b q := by
  unfold atS; rw [if_pos (inB_nat h)]; rfl
end Go.Proofs

namespace Go.Al
section
variable {C : Cx} {A : Nat → SV} {d : Nat} {ty : TypeId} {pos : String} {af : Array Edge} {gd : Option (Nat × Bool)} {x y : Operand} {T T' : TypeId}

end

end Go.Al

namespace Go.Proofs
open Go Go.Al
set_option maxRecDepth 10000
end Go.Proofs

namespace Go.Proofs
open Go Go.Al
set_option maxRecDepth 10000
end Go.Proofs

namespace Go.Proofs
open Go Go.Al
set_option maxRecDepth 10000
end Go.Proofs

namespace Go.Proofs
open Go Go.Al
set_option maxRecDepth 10000
set_option maxHeartbeats 4000000 in
theorem rspan28_c (b : List GRes) (p : Int × Int × Int) (h : inB b p = true) : PCall Tryz.prog Γ0 43 [batchAv b, placeAv p] [(atS b p).av] := by
  have h9 := inB_iff.1 h
  have n1 : (p.1.toNat : Int) = p.1 := Int.toNat_of_nonneg (by omega)
  have n2 : (p.2.1.toNat : Int) = p.2.1 := Int.toNat_of_nonneg (by omega)
  have n3 : (p.2.2.toNat : Int) = p.2.2 := Int.toNat_of_nonneg (by omega)
  refine pcall_of Tryz.func43 rfl Tryz.ntmps43 (by kernel_rfl) rfl fun w0 I0 G0 => ?_
  refine aw_seq ?_
  refine aw_region ?_
  refine g_uG (s_box_imm 1002 rfl rfl rfl rfl) rfl ?_
  refine g_uG (s_box_imm 1003 rfl rfl rfl rfl) rfl ?_
  refine g_uG (s_alloc' 1004 rfl rfl rfl tZ52) rfl ?_
  refine g_nil ?_
  refine normal_thn ?_
  refine aw_seq ?_
  refine aw_draw mixed ?_
  refine g_u (s_fieldAddr rfl rfl fa24_0 rfl) ?_
  refine g_u (s_load_imm rfl rfl rfl tA22 tS22 rfl rfl) ?_
  refine g_u (s_fieldAddr rfl rfl fa67_0 rfl) ?_
  refine g_u (s_load_imm rfl rfl rfl tA3 tS3 rfl rfl) ?_
  refine g_u (s_indexAddr rfl rfl rfl Tryz.underlying22 tS58 (by omega) (nth_map (d := gr0) (show p.1.toNat < b.length by omega))) ?_
  refine g_u (s_fieldAddr_cp rfl rfl fa58_1 rfl rfl) ?_
  refine g_u (s_load_cp rfl rfl tA56 tS56 rfl rfl) ?_
  refine g_u (s_fieldAddr rfl rfl fa67_1 rfl) ?_
  refine g_u (s_load_imm rfl rfl rfl tA3 tS3 rfl rfl) ?_
  refine g_u (s_indexAddr rfl rfl rfl Tryz.underlying56 tS55 (by omega) (nth_map (d := gc0) (show p.2.1.toNat < (nthR b p.1.toNat).scopes.length by omega))) ?_
  refine g_u (s_fieldAddr_cp rfl rfl fa55_2 rfl rfl) ?_
  refine g_u (s_load_cp rfl rfl tA53 tS53 rfl rfl) ?_
  refine g_u (s_fieldAddr rfl rfl fa67_2 rfl) ?_
  refine g_u (s_load_imm rfl rfl rfl tA3 tS3 rfl rfl) ?_
  refine g_u (s_indexAddr rfl rfl rfl Tryz.underlying53 tS52 (by omega) (nth_map (d := gs0) (show p.2.2.toNat < (nthC (nthR b p.1.toNat).scopes p.2.1.toNat).spans.length by omega))) ?_
  refine g_u (s_load_cp rfl rfl tA52 tS52 rfl (by first | exact getS_w (GSpan.width _) rfl | rfl)) ?_
  refine g_u (s_store_imm rfl rfl rfl tS52 (by first | exact beqW (GSpan.width _) | rfl) (by first | exact setS_w (z52_w.trans (GSpan.width _).symm) rfl | rfl)) ?_
  refine g_nil ⟨by kernel_rfl, ?_⟩
  refine normal_thn ?_
  refine aw_ret ?_
  exact ⟨⟨_, _, _, _, _, _, _, rfl, rfl, tA52, tS52, rfl, rfl, (rfl : toAV _ = some _).trans (congrArg some (by (unfold atS; rw [h]; rfl)))⟩, trivial⟩

end Go.Proofs

namespace Go.Proofs
open Go Go.Al
set_option maxRecDepth 10000
end Go.Proofs

namespace Go.Proofs
open Go Go.Al

/-! ### Right texts -/
def rt (s : ByteArray) : Prop := checkM s = -1
theorem rt_app {s t : ByteArray} (h : rt s) (k : rt t) : rt (s ++ t) := (joins1 s t h k).1
def rB (l : Bs) : Prop := rt (strOf l)
theorem rB_app {a b : Bs} (h : rB a) (k : rB b) : rB (a ++ b) := by unfold rB; rw [← strOf_append]; exact rt_app h k
theorem rB_iff (l : Bs) : rB l ↔ ∃ c, Path (fM (strOf l)) 0 l.length c := by
  have hz : (strOf l).size = l.length := strOf_size l
  constructor
  · intro h
    have p := (end_spec (strOf l)).1
    rw [(check_iff _).1 h, hz] at p
    exact ⟨_, p⟩
  · rintro ⟨c, p⟩
    rw [← hz] at p
    exact (check_iff _).2 (by rw [end_iff _ _ p])
theorem rB_nil : rB [] := (rB_iff _).2 ⟨0, .refl _⟩
theorem bAt_strOf (l : Bs) (i : Nat) : bAt (strOf l) i = ((l.getD i 0).toNat : Int) := by
  unfold bAt; rw [strOf_list, Int.toNat_natCast]
theorem rB_one {c : UInt8} (h : c.toNat < 128) : rB [c] := by
  have hz : (strOf [c]).size = 1 := strOf_size [c]
  have hb : bAt (strOf [c]) 0 = c.toNat := bAt_strOf [c] 0
  have hf : fM (strOf [c]) 0 = 1 := by
    rw [fM_DS _ _ (Int.le_refl _)]; unfold DS; rw [hb]; unfold D4; rw [if_neg (by omega), if_pos (by omega)]
  refine (rB_iff _).2 ⟨0 + 1, .step (by rw [hf]; decide) ?_⟩
  rw [hf]; exact .refl _
theorem rB_ascii : ∀ {l : Bs}, (∀ c ∈ l, c.toNat < 128) → rB l
  | [], _ => rB_nil
  | c :: l, h => rB_app (a := [c]) (rB_one (h c List.mem_cons_self)) (rB_ascii fun x hx => h x (List.mem_cons_of_mem _ hx))
theorem path_app3 {s t : ByteArray} {p q c : Int} (h : Path (fM (s ++ t)) p q c) (hp : (s.size : Int) ≤ p) : Path (fM t) (p - s.size) (q - s.size) c := by
  induction h with
  | refl p => exact .refl _
  | @step p q c h k ih =>
    have h2 := f_pos _ _ h
    have hz := app_size s t
    have e := f_same (s := s ++ t) (t := t) (p := p) (q := p - s.size) h2.1 (by omega) h (by omega) (fun i a b => by
      have := bAt_app2 s t (p - s.size + i) (by omega)
      rw [show (s.size : Int) + (p - s.size + i) = p + i by omega] at this
      rw [this])
    refine .step (by rw [e]; exact h) ?_
    rw [e]
    have := ih (by omega)
    rwa [show p + fM (s ++ t) p - (s.size : Int) = p - s.size + fM (s ++ t) p by omega] at this
theorem D4_high {n b0 b1 b2 b3 : Int} (h : (D4 n b0 b1 b2 b3).2 ≠ 0) : (b0 < 128 ∧ (D4 n b0 b1 b2 b3).2 = 1) ∨
    (128 ≤ b0 ∧ (1 < (D4 n b0 b1 b2 b3).2 → 128 ≤ b1) ∧ (2 < (D4 n b0 b1 b2 b3).2 → 128 ≤ b2) ∧ (3 < (D4 n b0 b1 b2 b3).2 → 128 ≤ b3) ∧ (D4 n b0 b1 b2 b3).2 ≤ 4) := by
  unfold D4 at h ⊢
  by_cases a0 : n < 1
  · rw [if_pos a0] at h; exact absurd rfl h
  rw [if_neg a0] at *
  by_cases a1 : b0 < 128
  · rw [if_pos a1]; exact .inl ⟨a1, rfl⟩
  rw [if_neg a1] at *
  right
  refine ⟨by omega, ?_⟩
  by_cases a2 : ok2 n b0 b1
  · rw [if_pos a2]; obtain ⟨o1, o2, o3, o4⟩ := a2; unfold isC at o4; dsimp only; omega
  rw [if_neg a2] at *
  by_cases a3 : ok3 n b0 b1 b2
  · rw [if_pos a3]; obtain ⟨o1, o2, o3, o4, o5, _⟩ := a3; unfold isC at o4 o5; dsimp only; omega
  rw [if_neg a3] at *
  by_cases a4 : ok4 n b0 b1 b2 b3
  · rw [if_pos a4]; obtain ⟨o1, o2, o3, o4, o5, o6, _⟩ := a4; unfold isC at o4 o5 o6; dsimp only; omega
  · rw [if_neg a4] at h; exact absurd rfl h
theorem rB_head {c : UInt8} {l : Bs} (h : rB (c :: l)) : (c.toNat < 128 ∧ rB l) ∨ ∃ a b : Bs, c :: l = a ++ b ∧ a ≠ [] ∧ rB a ∧ rB b ∧ ∀ x ∈ a, 128 ≤ x.toNat := by
  obtain ⟨n, p⟩ := (rB_iff _).1 h
  have hz : (strOf (c :: l)).size = (c :: l).length := strOf_size _
  obtain ⟨hf, m, p2⟩ := p.first (by simp only [List.length_cons]; omega)
  have h2 := f_pos _ _ hf
  rw [Int.zero_add] at p2
  generalize hk : fM (strOf (c :: l)) 0 = k at *
  obtain ⟨k, rfl⟩ : ∃ j : Nat, k = j := ⟨k.toNat, by omega⟩
  have hlen : ((c :: l).take k).length = k := by rw [List.length_take]; omega
  have es : strOf (c :: l) = strOf ((c :: l).take k) ++ strOf ((c :: l).drop k) := by rw [strOf_append, List.take_append_drop]
  have sa : (strOf ((c :: l).take k)).size = k := (strOf_size _).trans hlen
  have hb : rB ((c :: l).drop k) := by
    rw [es] at p2
    have := path_app3 p2 (by omega)
    refine (rB_iff _).2 ⟨m, ?_⟩
    rwa [sa, Int.sub_self, show (((c :: l).length : Nat) : Int) - (k : Int) = (((c :: l).drop k).length : Int) by rw [List.length_drop]; omega] at this
  have ha : rB ((c :: l).take k) := by
    have e := f_same (s := strOf (c :: l)) (t := strOf ((c :: l).take k)) (p := 0) (q := 0) (by omega) (by omega) (by rw [hk]; omega) (by rw [hk]; omega) (fun i a b => by
      rw [hk] at b
      rw [es]; exact bAt_app1 _ _ _ (by omega) (by omega))
    refine (rB_iff _).2 ⟨0 + 1, .step (by rw [e, hk]; omega) ?_⟩
    rw [e, hk, hlen, Int.zero_add]; exact .refl _
  have e1 := fM_DS (strOf (c :: l)) 0 (Int.le_refl _)
  rw [hk] at e1
  unfold DS at e1
  have hd := D4_high (n := (strOf (c :: l)).size - 0) (b0 := bAt (strOf (c :: l)) 0) (b1 := bAt (strOf (c :: l)) (0 + 1)) (b2 := bAt (strOf (c :: l)) (0 + 2)) (b3 := bAt (strOf (c :: l)) (0 + 3)) (by rw [← e1]; omega)
  rw [← e1] at hd
  have g0 := bAt_strOf (c :: l) 0
  have g1 := bAt_strOf (c :: l) 1
  have g2 := bAt_strOf (c :: l) 2
  have g3 := bAt_strOf (c :: l) 3
  rcases hd with ⟨d1, d2⟩ | ⟨d1, d2, d3, d4, d5⟩
  · left
    obtain rfl : k = 1 := by omega
    exact ⟨by have : ((c.toNat : Nat) : Int) < 128 := by rw [show bAt (strOf (c :: l)) 0 = _ from g0] at d1; simpa using d1
              omega, hb⟩
  · right
    refine ⟨_, _, (List.take_append_drop k (c :: l)).symm, fun h0 => by rw [h0] at hlen; simp at hlen; omega, ha, hb, fun x hx => ?_⟩
    obtain ⟨j, hj, rfl⟩ := List.mem_iff_getElem.1 hx
    have hjk : j < k := by omega
    have ej : ((c :: l).take k)[j] = (c :: l).getD j 0 := by
      rw [List.getElem_take, List.getD_eq_getElem?_getD, List.getElem?_eq_getElem]; rfl
    rw [ej]
    rcases j with _ | _ | _ | _ | j
    · rw [show bAt (strOf (c :: l)) 0 = _ from g0] at d1; omega
    · have := d2 (by omega); rw [show bAt (strOf (c :: l)) (0 + 1) = _ from g1] at this; show 128 ≤ ((c :: l).getD 1 0).toNat; omega
    · have := d3 (by omega); rw [show bAt (strOf (c :: l)) (0 + 2) = _ from g2] at this; show 128 ≤ ((c :: l).getD 2 0).toNat; omega
    · have := d4 (by omega); rw [show bAt (strOf (c :: l)) (0 + 3) = _ from g3] at this; show 128 ≤ ((c :: l).getD 3 0).toNat; omega
    · omega

theorem hexD_ascii {n : Nat} (h : n < 16) : (hexD n).toNat < 128 := by
  unfold hexD; rw [UInt8.toNat_ofNat']; split <;> omega
theorem hexB_ascii : ∀ l : Bs, ∀ x ∈ hexB l, x.toNat < 128
  | c :: l, x, h => by
    have hc := UInt8.toNat_lt c
    rw [hexB] at h
    rcases List.mem_cons.1 h with rfl | h
    · exact hexD_ascii (by omega)
    rcases List.mem_cons.1 h with rfl | h
    · exact hexD_ascii (by omega)
    · exact hexB_ascii l x h
theorem escB_ascii {c : UInt8} (h : c.toNat < 128) : ∀ x ∈ escB c, x.toNat < 128 := by
  unfold escB
  split
  · intro x hx; rcases List.mem_cons.1 hx with rfl | hx
    · decide
    · cases List.mem_singleton.1 hx; exact h
  split
  · intro x hx
    simp only [List.mem_cons] at hx
    rcases hx with rfl | rfl | rfl | rfl | hx
    · decide
    · decide
    · decide
    · decide
    · exact hexB_ascii _ x hx
  · intro x hx; cases List.mem_singleton.1 hx; exact h
theorem escs_high : ∀ {l : Bs}, (∀ x ∈ l, 128 ≤ x.toNat) → escs l = l
  | [], _ => rfl
  | c :: l, h => by
    have hc := h c List.mem_cons_self
    rw [escs, escs_high fun x hx => h x (List.mem_cons_of_mem _ hx)]
    unfold escB
    rw [if_neg, if_neg]
    · rfl
    · intro h2; have : c.toNat < (32 : UInt8).toNat := UInt8.lt_iff_toNat_lt.1 h2
      have e : (32 : UInt8).toNat = 32 := rfl
      omega
    · rintro (rfl | rfl)
      · exact absurd hc (by decide)
      · exact absurd hc (by decide)
theorem rB_escs : ∀ (n : Nat) (l : Bs), l.length ≤ n → rB l → rB (escs l)
  | _, [], _, _ => rB_nil
  | n + 1, c :: l, hn, h => by
    rcases rB_head h with ⟨hc, h⟩ | ⟨a, b, e, hne, ha, hb, hx⟩
    · rw [escs]; exact rB_app (rB_ascii (escB_ascii hc)) (rB_escs n l (by simpa using hn) h)
    · have : b.length ≤ n := by
        have h1 := congrArg List.length e
        have h2 : a.length ≠ 0 := fun h => hne (List.eq_nil_of_length_eq_zero h)
        rw [List.length_append] at h1
        omega
      rw [e, escs_append, escs_high hx]; exact rB_app ha (rB_escs n b this hb)
theorem rB_quote {l : Bs} (h : rB l) : rB (quoteB l) :=
  rB_app (a := [34]) (rB_one (by decide)) (rB_app (rB_escs _ l (Nat.le_refl _) h) (rB_one (by decide)))
theorem natF_ascii : ∀ (f n : Nat), ∀ x ∈ natF f n, x.toNat < 128
  | 0, _, x, h => by cases h
  | f + 1, n, x, h => by
    rw [natF] at h
    split at h
    · cases List.mem_singleton.1 h; rw [UInt8.toNat_ofNat']; omega
    · rcases List.mem_append.1 h with h | h
      · exact natF_ascii f _ x h
      · cases List.mem_singleton.1 h; rw [UInt8.toNat_ofNat']; omega
theorem decB_ascii (n : Int) : ∀ x ∈ decB n, x.toNat < 128 := by
  unfold decB; split
  · intro x h; rcases List.mem_cons.1 h with rfl | h
    · decide
    · exact natF_ascii _ _ x h
  · exact natF_ascii _ _
theorem rB_simp {v : GV} (h : v.kind = 1 → rt v.text) : rB (simpB v) := by
  unfold simpB
  split
  · rename_i h1; unfold rB; rw [strOf_lst]; exact h h1
  split
  · split
    · exact rB_ascii (by decide)
    · exact rB_ascii (by decide)
  split
  · exact rB_ascii (decB_ascii _)
  split
  · have := rB_app (a := [48, 120]) (b := hexB (be 8 v.bits.toNat)) (rB_ascii (by decide)) (rB_ascii (hexB_ascii _)); exact this
  split
  · exact rB_ascii (hexB_ascii _)
  · exact rB_nil
theorem checkV_text {d : Int} {v : GV} (h : checkV d v = 0) (h1 : v.kind = 1) : rt v.text := by
  rw [checkV_eq] at h
  split at h; · omega
  split at h; · omega
  split at h; · omega
  split at h
  · omega
  · rename_i h4
    by_cases hr : checkM v.text = -1
    · exact hr
    · exact absurd ⟨h1, hr⟩ h4
theorem keyC_right {k : ByteArray} (h : keyC k = 0) : rt k := by
  unfold keyC at h
  split at h; · omega
  split at h
  · omega
  · rename_i h2
    by_cases hr : checkM k = -1
    · exact hr
    · exact absurd hr h2
theorem entC_iff {d : Int} : ∀ {l : List GA} {p : Option ByteArray}, entC d p l = 0 ↔ risA p l ∧ ∀ a ∈ l, keyC a.key = 0 ∧ checkV d a.val = 0
  | [], p => ⟨fun _ => ⟨trivial, fun a h => by cases h⟩, fun _ => by rw [entC]⟩
  | x :: l, p => by
    have ih := entC_iff (d := d) (l := l) (p := some x.key)
    have hp : prevBad p x.key = false ↔ (match p with | some q => ltB q x.key = true | none => True) := by
      cases p with
      | none => exact ⟨fun _ => trivial, fun _ => rfl⟩
      | some q => simp only [prevBad]; cases ltB q x.key <;> simp
    rw [entC, checkA_eq]
    constructor
    · intro h
      obtain ⟨h1, h2⟩ := orC_eq0 h
      cases hb : prevBad p x.key
      · rw [hb, if_neg (by decide)] at h2
        obtain ⟨h3, h4⟩ := orC_eq0 h2
        obtain ⟨h5, h6⟩ := ih.1 h4
        refine ⟨⟨hp.1 hb, h5⟩, fun a ha => ?_⟩
        rcases List.mem_cons.1 ha with rfl | ha
        · exact ⟨h1, h3⟩
        · exact h6 a ha
      · rw [hb, if_pos rfl] at h2; omega
    · rintro ⟨⟨h1, h2⟩, h3⟩
      have h4 := h3 x List.mem_cons_self
      rw [hp.2 h1, if_neg (by decide), orC_zero _ _ h4.1, orC_zero _ _ h4.2]
      exact ih.2 ⟨h2, fun a ha => h3 a (List.mem_cons_of_mem _ ha)⟩
theorem rB_comma (f : Bool) : rB (comma f) := by cases f <;> exact rB_ascii (by decide)
/-- The text of what may be is right. -/
theorem rB_json (v : GV) : ∀ d : Int, checkV d v = 0 → rB (jsonB v) := by
  refine GV.ind (P := fun v => ∀ d : Int, checkV d v = 0 → rB (jsonB v)) ?_ v
  intro v h1 h2 d hc
  obtain ⟨h3, h4⟩ := checkV_parts hc
  have h5 := (entC_iff.1 h4).2
  have hv : ∀ (l : List GV) (f : Bool), (∀ y ∈ l, rB (jsonB y)) → rB (jsonVs f l) := by
    intro l
    induction l with
    | nil => intro f _; rw [jsonVs]; exact rB_nil
    | cons x xs ih =>
      intro f h
      rw [jsonVs]
      exact rB_app (rB_app (rB_comma f) (h x List.mem_cons_self)) (ih false fun y hy => h y (List.mem_cons_of_mem _ hy))
  have ha : ∀ (l : List GA) (f : Bool), (∀ y ∈ l, rt y.key ∧ rB (jsonB y.val)) → rB (jsonAs f l) := by
    intro l
    induction l with
    | nil => intro f _; rw [jsonAs]; exact rB_nil
    | cons x xs ih =>
      intro f h
      have hx := h x List.mem_cons_self
      rw [jsonAs, jsonA_eq]
      refine rB_app (rB_app (rB_comma f) (rB_app (rB_app (rB_quote ?_) (rB_one (by decide))) hx.2)) (ih false fun y hy => h y (List.mem_cons_of_mem _ hy))
      unfold rB; rw [strOf_lst]; exact hx.1
  have hs : rB (simpB v) := rB_simp fun h => checkV_text hc h
  rw [jsonB_eq]
  split
  · exact rB_ascii (by decide)
  split
  · exact rB_quote hs
  split
  · exact rB_app (a := [91]) (rB_one (by decide)) (rB_app (hv _ _ fun y hy => h1 y hy _ (checkVs_mem h3 y hy)) (rB_one (by decide)))
  split
  · exact rB_app (a := [123]) (rB_one (by decide)) (rB_app (ha _ _ fun y hy => ⟨keyC_right (h5 y hy).1, h2 y hy _ (h5 y hy).2⟩) (rB_one (by decide)))
  · exact hs
theorem rt_text {v : GV} {d : Int} (h : checkV d v = 0) : rt (textM v) := by
  show rB (textB v)
  unfold textB; split
  · exact rB_json v d h
  · exact rB_simp fun h1 => checkV_text h h1
end Go.Proofs

namespace Go.Proofs
open Go Go.Al

/-! ### What is kept of attributes that may be, may be -/
theorem attrsC_iff {l : List GA} : attrsC l = 0 ↔ l.length ≤ 32 ∧ risA none l ∧ ∀ a ∈ l, keyC a.key = 0 ∧ checkV 0 a.val = 0 ∧ (textM a.val).size ≤ 1024 := by
  unfold attrsC
  constructor
  · intro h
    split at h
    · omega
    · rename_i hl
      obtain ⟨h1, h2⟩ := orC_eq0 h
      obtain ⟨h3, h4⟩ := entC_iff.1 h1
      refine ⟨by omega, h3, fun a ha => ⟨(h4 a ha).1, (h4 a ha).2, ?_⟩⟩
      split at h2
      · omega
      · rename_i h5
        have h6 : ¬ decide (1024 < (textM a.val).size) = true := fun h => h5 (List.any_eq_true.2 ⟨a, ha, h⟩)
        simpa using h6
  · rintro ⟨h1, h2, h3⟩
    rw [if_neg (by omega), orC_zero _ _ (entC_iff.2 ⟨h2, fun a ha => ⟨(h3 a ha).1, (h3 a ha).2.1⟩⟩), if_neg]
    intro h
    obtain ⟨a, ha, hd⟩ := List.any_eq_true.1 h
    have := (h3 a ha).2.2
    have : 1024 < (textM a.val).size := of_decide_eq_true hd
    omega
theorem check_tv {t : ByteArray} (h : rt t) (d : Int) : checkV d (tv t) = 0 := by
  have hk : (tv t).kind = 1 := rfl
  have ht : (tv t).text = t := rfl
  rw [checkV_eq, if_neg (by omega), if_neg (by rw [show emptyV (tv t) = true from rfl]; decide), if_neg (by omega), if_neg (by rintro ⟨_, h2⟩; exact h2 (ht ▸ h)), if_neg (by omega)]
  show orC (checkVs (d + 1) []) (entC (d + 1) none []) = 0
  rw [checkVs, entC]; rfl
theorem textM_plain (ks : List Int) (a : GA) : textM (plainA ks a).val = textM a.val := by
  unfold plainA; split
  · exact textM_tv (textM a.val)
  · rfl
theorem check_plain (ks : List Int) {a : GA} {d : Int} (h : checkV d a.val = 0) : checkV d (plainA ks a).val = 0 := by
  unfold plainA; split
  · exact check_tv (rt_text h) d
  · exact h
theorem attrsC_kept (ks : List Int) (but : List ByteArray) {l : List GA} (h : attrsC l = 0) : attrsC (dropA but (l.map (plainA ks))) = 0 := by
  obtain ⟨h1, h2, h3⟩ := attrsC_iff.1 h
  refine attrsC_iff.2 ⟨?_, ris_dropA _ (ris_plain _ h2), fun a ha => ?_⟩
  · have := dropA_len but (l.map (plainA ks)); rw [List.length_map] at this; omega
  · obtain ⟨x, hx, rfl⟩ := List.mem_map.1 (dropA_mem ha).1
    have h4 := h3 x hx
    rw [plainA_key, textM_plain]
    exact ⟨h4.1, check_plain ks h4.2.1, h4.2.2⟩
theorem rt_empty : rt ⟨#[]⟩ := rB_nil
theorem getA_memK : ∀ {l : List GA} {k : ByteArray} {v : GV}, getA l k = some v → ∃ a ∈ l, a.key = k ∧ a.val = v
  | x :: l, k, v, h => by
    rw [getA] at h
    split at h
    · exact ⟨x, List.mem_cons_self, by assumption, Option.some.inj h⟩
    · obtain ⟨a, h1, h2⟩ := getA_memK h
      exact ⟨a, List.mem_cons_of_mem _ h1, h2⟩
theorem textA_right {l : List GA} (h : attrsC l = 0) (k : ByteArray) : rt (textA l k) ∧ (textA l k).size ≤ 1024 := by
  unfold textA
  cases e : getA l k with
  | none => rw [Option.getD_none, textM_zero]; exact ⟨rt_empty, Nat.zero_le _⟩
  | some v =>
    obtain ⟨a, ha, _, rfl⟩ := getA_memK e
    have := (attrsC_iff.1 h).2.2 a ha
    rw [Option.getD_some]
    exact ⟨rt_text this.2.1, this.2.2⟩
theorem len_intoR : ∀ {l : List GA} {a : GA} {p : Option ByteArray}, risA p l → (intoA l a).length = if (getA l a.key).isSome then l.length else l.length + 1
  | [], a, p, _ => rfl
  | x :: l, a, p, h => by
    rw [intoA, getA]
    by_cases hl : ltB x.key a.key = true
    · have hne : x.key ≠ a.key := by rintro e; rw [e, ltB_irrefl] at hl; cases hl
      rw [if_pos hl, if_neg hne, List.length_cons, len_intoR h.2]
      split <;> simp
    · rw [if_neg hl]
      by_cases he : x.key = a.key
      · rw [if_pos he, if_pos he]; rfl
      · rw [if_neg he, if_neg he]
        have hk : ltB a.key x.key = true := by
          cases hb : ltB a.key x.key
          · exact absurd (ltB_tri (by simpa using hl) hb) he
          · rfl
        have : getA l a.key = none := by
          cases e : getA l a.key with
          | none => rfl
          | some v =>
            obtain ⟨b, hb, hbk, _⟩ := getA_memK e
            exact absurd hbk (ris_ne (risA_weak h.2 hk) b hb)
        rw [this]; rfl
theorem keyC_skey : keyC skey = 0 := by
  unfold keyC
  rw [if_neg (by decide), if_neg (by rw [show checkM skey = -1 from rB_ascii (l := lst skey) (by decide)]; decide), if_neg (by decide)]
theorem attrsC_named {l : List GA} {t : ByteArray} (h : attrsC l = 0) (hr : rt t) (hs : t.size ≤ 1024) (hl : t = ⟨#[]⟩ ∨ (getA l skey).isSome = true ∨ l.length < 32) : attrsC (namedM l t) = 0 := by
  obtain ⟨h1, h2, h3⟩ := attrsC_iff.1 h
  refine attrsC_iff.2 ⟨?_, ris_named h2 t, fun a ha => ?_⟩
  · unfold namedM; split
    · have := dropA_len [skey] l; omega
    · rename_i hne
      rw [len_intoR h2]
      split
      · exact h1
      · rename_i hn
        rcases hl with hl | hl | hl
        · exact absurd hl hne
        · exact absurd hl hn
        · omega
  · unfold namedM at ha; split at ha
    · exact h3 a (dropA_mem ha).1
    · rcases mem_intoA ha with rfl | ha
      · refine ⟨keyC_skey, check_tv hr 0, ?_⟩
        show (textM (tv t)).size ≤ 1024
        rw [textM_tv]; exact hs
      · exact h3 a ha
theorem getA_plain (ks : List Int) (k : ByteArray) : ∀ l : List GA, (getA (l.map (plainA ks)) k).isSome = (getA l k).isSome
  | [] => rfl
  | x :: l => by
    rw [List.map_cons, getA, getA, plainA_key]
    split
    · rfl
    · exact getA_plain ks k l
theorem attrsC_njR {l : List GA} (h : attrsC l = 0) : attrsC (namedM (keptA [] l) (textA l skey)) = 0 := by
  have hr := textA_right h skey
  refine attrsC_named (attrsC_kept nJ [] h) hr.1 hr.2 ?_
  cases e : getA l skey with
  | none => exact .inl (by unfold textA; rw [e, Option.getD_none, textM_zero])
  | some v => right; left; rw [kept_none, getA_plain, e]; rfl

/-! ### Spans and what is above them -/
theorem spanOk_iff (s : GSpan) : spanOk s = 0 ↔ (zeros s.trace || zeros s.id) = false ∧ nameC s.state = 0 ∧ nameC s.name = 0 ∧ (0 ≤ s.kind ∧ s.kind ≤ 5) ∧ rgCheckM ⟨s.start, s.fin⟩ = 0 ∧ attrsC s.attrs = 0 ∧ evsC s.events = 0 ∧ lksC s.links = 0 ∧ (0 ≤ s.code ∧ s.code ≤ 2) ∧ nameC s.note = 0 := by
  unfold spanOk
  simp only [firstC]
  constructor
  · intro h
    obtain ⟨a1, h⟩ := orC_eq0 h
    obtain ⟨a2, h⟩ := orC_eq0 h
    obtain ⟨a3, h⟩ := orC_eq0 h
    obtain ⟨a4, h⟩ := orC_eq0 h
    obtain ⟨a5, h⟩ := orC_eq0 h
    obtain ⟨a6, h⟩ := orC_eq0 h
    obtain ⟨a7, h⟩ := orC_eq0 h
    obtain ⟨a8, h⟩ := orC_eq0 h
    obtain ⟨a9, h⟩ := orC_eq0 h
    obtain ⟨b1, h⟩ := orC_eq0 h
    refine ⟨?_, a2, a3, ?_, a5, a6, a7, a8, ?_, b1⟩
    · cases hz : (zeros s.trace || zeros s.id)
      · rfl
      · rw [hz, if_pos rfl] at a1; omega
    · split at a4 <;> omega
    · split at a9 <;> omega
  · rintro ⟨a1, a2, a3, a4, a5, a6, a7, a8, a9, b1⟩
    rw [a1, if_neg (by decide), a2, a3, if_neg (by omega), a5, a6, a7, a8, if_neg (by omega), b1]
    rfl
theorem nameC_empty : nameC ⟨#[]⟩ = 0 := by
  unfold nameC
  rw [if_neg (by rw [show checkM ⟨#[]⟩ = -1 from rB_nil]; decide), if_neg (by decide)]
theorem evC_iff : ∀ {l : List GE}, evC l = 0 ↔ ∀ e ∈ l, e.time ≤ 9223372036854775807 ∧ nameC e.name = 0 ∧ attrsC e.attrs = 0
  | [] => Iff.intro (fun _ e h => by cases h) (fun _ => rfl)
  | x :: l => by
    have ih := evC_iff (l := l)
    rw [evC]
    constructor
    · intro h
      split at h
      · omega
      · obtain ⟨h1, h2⟩ := orC_eq0 h
        obtain ⟨h3, h4⟩ := orC_eq0 h1
        intro e he
        rcases List.mem_cons.1 he with rfl | he
        · exact ⟨by omega, h3, h4⟩
        · exact ih.1 h2 e he
    · intro h
      have h1 := h x List.mem_cons_self
      rw [if_neg (by omega), h1.2.1, h1.2.2, orC_zero _ _ rfl]
      exact ih.2 fun e he => h e (List.mem_cons_of_mem _ he)
theorem lkC_iff : ∀ {l : List GL}, lkC l = 0 ↔ ∀ e ∈ l, (zeros e.trace || zeros e.span) = false ∧ nameC e.state = 0 ∧ attrsC e.attrs = 0
  | [] => Iff.intro (fun _ e h => by cases h) (fun _ => rfl)
  | x :: l => by
    have ih := lkC_iff (l := l)
    rw [lkC]
    constructor
    · intro h
      split at h
      · omega
      · rename_i hz
        obtain ⟨h1, h2⟩ := orC_eq0 h
        obtain ⟨h3, h4⟩ := orC_eq0 h1
        intro e he
        rcases List.mem_cons.1 he with rfl | he
        · exact ⟨by cases hb : (zeros e.trace || zeros e.span) <;> first | rfl | exact absurd hb hz, h3, h4⟩
        · exact ih.1 h2 e he
    · intro h
      have h1 := h x List.mem_cons_self
      rw [h1.1, if_neg (by decide), h1.2.1, h1.2.2, orC_zero _ _ rfl]
      exact ih.2 fun e he => h e (List.mem_cons_of_mem _ he)
theorem attrsC_nil : attrsC [] = 0 := attrsC_iff.2 ⟨by simp, trivial, fun a h => by cases h⟩
theorem evsC_map {f : GE → GE} (hf : ∀ e, e.time ≤ 9223372036854775807 ∧ nameC e.name = 0 ∧ attrsC e.attrs = 0 → (f e).time ≤ 9223372036854775807 ∧ nameC (f e).name = 0 ∧ attrsC (f e).attrs = 0) {l : List GE} (h : evsC l = 0) : evsC (l.map f) = 0 := by
  unfold evsC at h ⊢
  rw [List.length_map]
  split at h
  · omega
  · rw [if_neg (by assumption)]
    refine evC_iff.2 fun e he => ?_
    obtain ⟨x, hx, rfl⟩ := List.mem_map.1 he
    exact hf x (evC_iff.1 h x hx)
theorem wholeN_le (n : Int) : wholeN n ≤ 9223372036854775807 := by have := nano_rg (microM n); unfold wholeN; omega
theorem whole_check {s e : Int} (hs : u64 s) (he : u64 e) : rgCheckM ⟨(wholeM ⟨s, e⟩).lo, (wholeM ⟨s, e⟩).hi⟩ = 0 := by
  rcases whole_facts s e hs.1 he.1 hs.2 he.2 with ⟨_, h⟩ | ⟨_, A, B, h, h2, _⟩
  · rw [h]; rfl
  · rw [h]; exact h2
theorem spanOk_nj {s : GSpan} (ho : s.ok) (h : spanOk s = 0) : spanOk (njS s) = 0 := by
  obtain ⟨a1, a2, a3, a4, a5, a6, a7, a8, a9, b1⟩ := (spanOk_iff s).1 h
  refine (spanOk_iff _).2 ⟨a1, nameC_empty, a3, a4, whole_check ho.2.2.1.2.1 ho.2.2.1.2.2.1, attrsC_kept nJ k4 a6, ?_, ?_, a9, b1⟩
  · exact evsC_map (f := njE) (fun e he => ⟨wholeN_le _, he.2.1, attrsC_kept nJ [k_event] he.2.2⟩) a7
  · show lksC (s.links.map njL) = 0
    unfold lksC at a8 ⊢
    rw [List.length_map]
    split at a8
    · omega
    · rw [if_neg (by assumption)]
      refine lkC_iff.2 fun e he => ?_
      obtain ⟨x, hx, rfl⟩ := List.mem_map.1 he
      exact ⟨(lkC_iff.1 a8 x hx).1, nameC_empty, attrsC_nil⟩

/-! ### Weights -/
theorem attrsW_drop (ks : List ByteArray) : ∀ l : List GA, attrsW (dropA ks l) ≤ attrsW l
  | [] => Nat.le_refl _
  | x :: l => by
    have := attrsW_drop ks l
    rw [dropA]; split
    · rw [attrsW]; omega
    · rw [attrsW, attrsW]; omega
theorem attrsW_plain (ks : List Int) : ∀ l : List GA, attrsW (l.map (plainA ks)) = attrsW l
  | [] => rfl
  | x :: l => by rw [List.map_cons, attrsW, attrsW, plainA_key, textM_plain, attrsW_plain ks l]
theorem attrsW_kept (ks : List Int) (but : List ByteArray) (l : List GA) : attrsW (dropA but (l.map (plainA ks))) ≤ attrsW l := by
  have := attrsW_drop but (l.map (plainA ks)); rw [attrsW_plain] at this; exact this
/-- What is put in place of what has the same text weighs no more. -/
theorem attrsW_into {a : GA} {v : GV} (ht : textM a.val = textM v) : ∀ {l : List GA} {p : Option ByteArray}, risA p l → getA l a.key = some v → attrsW (intoA l a) ≤ attrsW l
  | x :: l, p, h, hg => by
    rw [getA] at hg
    rw [intoA]
    split at hg
    · rename_i hk
      have hn : ¬ ltB x.key a.key = true := by rw [hk, ltB_irrefl]; decide
      rw [if_neg hn, if_pos hk, attrsW, attrsW, ht, ← Option.some.inj hg, hk]; exact Nat.le_refl _
    · rename_i hk
      have ih := attrsW_into ht h.2 hg
      split
      · rw [attrsW, attrsW]; omega
      · rename_i hl
        exfalso
        have hk' : ltB a.key x.key = true := by
          cases hb : ltB a.key x.key
          · exact absurd (ltB_tri (by simpa using hl) hb) hk
          · rfl
        obtain ⟨b, hb, hbk, _⟩ := getA_memK hg
        exact ris_ne (risA_weak h.2 hk') b hb hbk
theorem getA_plain_text (ks : List Int) (k : ByteArray) : ∀ {l : List GA} {v : GV}, getA l k = some v → ∃ u, getA (l.map (plainA ks)) k = some u ∧ textM u = textM v
  | x :: l, v, h => by
    rw [getA] at h
    rw [List.map_cons, getA, plainA_key]
    split at h
    · rename_i hk
      rw [if_pos hk]
      exact ⟨_, rfl, by rw [textM_plain, Option.some.inj h]⟩
    · rename_i hk
      rw [if_neg hk]
      exact getA_plain_text ks k h
theorem attrsW_njR {l : List GA} (hr : risA none l) : attrsW (namedM (keptA [] l) (textA l skey)) ≤ attrsW l := by
  have h0 : attrsW (keptA [] l) ≤ attrsW l := attrsW_kept nJ [] l
  unfold namedM
  split
  · exact Nat.le_trans (attrsW_drop _ _) h0
  · rename_i hne
    cases e : getA l skey with
    | none => exact absurd (by unfold textA; rw [e, Option.getD_none, textM_zero]) hne
    | some v =>
      obtain ⟨u, h1, h2⟩ := getA_plain_text nJ skey e
      have ht : textA l skey = textM v := by unfold textA; rw [e]; rfl
      refine Nat.le_trans (attrsW_into (a := .mk skey (tv (textA l skey))) (v := u) ?_ (ris_kept [] hr) (by rw [kept_none]; exact h1)) h0
      show textM (tv _) = _
      rw [textM_tv, ht, h2]
theorem sumBy_map_mono {α : Type} {f : α → α} {g : α → Nat} : ∀ {l : List α}, (∀ x ∈ l, g (f x) ≤ g x) → sumBy g (l.map f) ≤ sumBy g l
  | [], _ => Nat.le_refl _
  | x :: l, h => by
    rw [List.map_cons, sumBy, sumBy]
    have h1 := h x List.mem_cons_self
    have h2 := sumBy_map_mono (f := f) (g := g) (l := l) fun y hy => h y (List.mem_cons_of_mem _ hy)
    omega
theorem spanW_nj (s : GSpan) (t : ByteArray) : spanW (njS s) t ≤ spanW s t := by
  have h1 : attrsW (keptA k4 s.attrs) ≤ attrsW s.attrs := attrsW_kept nJ k4 s.attrs
  have h2 : sumBy (fun e : GE => 64 + 6 * e.name.size + attrsW e.attrs) (s.events.map njE) ≤ sumBy (fun e : GE => 64 + 6 * e.name.size + attrsW e.attrs) s.events :=
    sumBy_map_mono fun e _ => by
      have : attrsW (keptA [k_event] e.attrs) ≤ attrsW e.attrs := attrsW_kept nJ [k_event] e.attrs
      show 64 + 6 * e.name.size + attrsW (keptA [k_event] e.attrs) ≤ _
      omega
  have h3 : sumBy (fun e : GL => 64 + 6 * e.state.size + attrsW e.attrs) (s.links.map njL) ≤ sumBy (fun e : GL => 64 + 6 * e.state.size + attrsW e.attrs) s.links :=
    sumBy_map_mono fun e _ => by
      show 64 + 6 * 0 + 0 ≤ _
      omega
  show 512 + 6 * (t.size + 0 + s.name.size + s.note.size) + attrsW (keptA k4 s.attrs) + sumBy _ (s.events.map njE) + sumBy _ (s.links.map njL) ≤ _
  unfold spanW
  omega
theorem scopesW_ge (t : ByteArray) : ∀ l : List GScope, 64 * l.length + sumBy (fun x => spanW x t) (spansOf l) ≤ sumBy (fun s => scopeW s t) l
  | [] => by simp [spansOf, sumBy]
  | c :: l => by
    have ih := scopesW_ge t l
    rw [spansOf, sumBy_append, sumBy, List.length_cons]
    unfold scopeW
    unfold scopeW at ih
    omega
theorem service_nj {r : GRes} (h : risA none r.attrs) : serviceM (njR r) = serviceM r := (named_stays h (serviceM r)).2
theorem resW_nj {r : GRes} (h : risA none r.attrs) : resW (njR r) ≤ resW r := by
  have h1 := attrsW_njR h
  have h2 := scopesW_ge (serviceM r) r.scopes
  have h3 : sumBy (fun x => spanW x (serviceM r)) ((spansOf r.scopes).map njS) ≤ sumBy (fun x => spanW x (serviceM r)) (spansOf r.scopes) := sumBy_map_mono fun s _ => spanW_nj s _
  have h4 : sumBy (fun s => scopeW s (serviceM r)) (scopeJ ((spansOf r.scopes).map njS)) ≤ sumBy (fun s => scopeW s (serviceM r)) r.scopes := by
    unfold scopeJ
    split
    · rename_i hl
      have hc : 1 ≤ r.scopes.length := by
        rw [List.length_map] at hl
        cases e : r.scopes with
        | nil => rw [e] at hl; simp [spansOf] at hl
        | cons => simp
      rw [sumBy, sumBy]
      show 64 + 6 * (0 + 0) + sumBy _ ((spansOf r.scopes).map njS) + 0 ≤ _
      omega
    · exact Nat.zero_le _
  unfold resW
  rw [service_nj h]
  show 64 + attrsW (namedM (keptA [] r.attrs) (textA r.attrs skey)) + sumBy _ (scopeJ _) ≤ _
  omega
theorem batchW_nj {b : List GRes} (h : ∀ r ∈ b, risA none r.attrs) : batchW (njB b) ≤ batchW b := by
  unfold batchW njB
  have := sumBy_map_mono (f := njR) (g := resW) (l := b) fun r hr => resW_nj (h r hr)
  omega
end Go.Proofs

namespace Go.Proofs
open Go Go.Al

/-! ### Whether batches may be -/
abbrev Fl := Int × List ByteArray
def kSpan : ByteArray := ⟨#[115, 112, 97, 110]⟩
def kScope : ByteArray := ⟨#[115, 99, 111, 112, 101]⟩
def kRes : ByteArray := ⟨#[114, 101, 115, 111, 117, 114, 99, 101]⟩
def partM (k : ByteArray) (i : Nat) : ByteArray := strOf (lst k ++ 32 :: decB i)
def spansF : Nat → List GSpan → Fl
  | _, [] => (0, [])
  | i, x :: xs => if spanOk x = 0 then spansF (i + 1) xs else (spanOk x, [partM kSpan i])
def scopeF (s : GScope) : Fl := if nameC s.name ≠ 0 then (nameC s.name, []) else if nameC s.version ≠ 0 then (nameC s.version, []) else spansF 0 s.spans
def scopesF : Nat → List GScope → Fl
  | _, [] => (0, [])
  | i, s :: ss => if (scopeF s).1 = 0 then scopesF (i + 1) ss else ((scopeF s).1, partM kScope i :: (scopeF s).2)
def resF (r : GRes) : Fl := if attrsC r.attrs ≠ 0 then (attrsC r.attrs, []) else if 16 < r.scopes.length then (34, []) else scopesF 0 r.scopes
def ressF : Nat → List GRes → Fl
  | _, [] => (0, [])
  | i, r :: rs => if (resF r).1 = 0 then ressF (i + 1) rs else ((resF r).1, partM kRes i :: (resF r).2)
def chkF (b : List GRes) : Fl :=
  if 32 < b.length then (34, []) else if (ressF 0 b).1 ≠ 0 then ressF 0 b else if 100 < (plR 0 b).length then (34, []) else if 65536 < batchW b then (36, []) else (0, [])

theorem spansF_iff : ∀ {l : List GSpan} {i : Nat}, (spansF i l).1 = 0 ↔ ∀ x ∈ l, spanOk x = 0
  | [], i => Iff.intro (fun _ x h => by cases h) (fun _ => rfl)
  | x :: l, i => by
    rw [spansF]
    constructor
    · intro h
      split at h
      · rename_i hx
        intro y hy
        rcases List.mem_cons.1 hy with rfl | hy
        · exact hx
        · exact spansF_iff.1 h y hy
      · rename_i hx; exact absurd h hx
    · intro h
      rw [if_pos (h x List.mem_cons_self)]
      exact spansF_iff.2 fun y hy => h y (List.mem_cons_of_mem _ hy)
def okSc (s : GScope) : Prop := nameC s.name = 0 ∧ nameC s.version = 0 ∧ ∀ x ∈ s.spans, spanOk x = 0
theorem scopeF_iff {s : GScope} : (scopeF s).1 = 0 ↔ okSc s := by
  unfold scopeF okSc
  constructor
  · intro h
    split at h
    · rename_i h1; exact absurd h h1
    split at h
    · rename_i h1; exact absurd h h1
    · rename_i h1 h2; exact ⟨by omega, by omega, spansF_iff.1 h⟩
  · rintro ⟨h1, h2, h3⟩
    rw [if_neg (by omega), if_neg (by omega)]; exact spansF_iff.2 h3
theorem scopesF_iff : ∀ {l : List GScope} {i : Nat}, (scopesF i l).1 = 0 ↔ ∀ x ∈ l, okSc x
  | [], i => Iff.intro (fun _ x h => by cases h) (fun _ => rfl)
  | x :: l, i => by
    rw [scopesF]
    constructor
    · intro h
      split at h
      · rename_i hx
        intro y hy
        rcases List.mem_cons.1 hy with rfl | hy
        · exact scopeF_iff.1 hx
        · exact scopesF_iff.1 h y hy
      · rename_i hx; exact absurd h hx
    · intro h
      rw [if_pos (scopeF_iff.2 (h x List.mem_cons_self))]
      exact scopesF_iff.2 fun y hy => h y (List.mem_cons_of_mem _ hy)
def okRs (r : GRes) : Prop := attrsC r.attrs = 0 ∧ r.scopes.length ≤ 16 ∧ ∀ x ∈ r.scopes, okSc x
theorem resF_iff {r : GRes} : (resF r).1 = 0 ↔ okRs r := by
  unfold resF okRs
  constructor
  · intro h
    split at h
    · rename_i h1; exact absurd h h1
    split at h
    · exact absurd h (by decide)
    · rename_i h1 h2; exact ⟨by omega, by omega, scopesF_iff.1 h⟩
  · rintro ⟨h1, h2, h3⟩
    rw [if_neg (by omega), if_neg (by omega)]; exact scopesF_iff.2 h3
theorem ressF_iff : ∀ {l : List GRes} {i : Nat}, (ressF i l).1 = 0 ↔ ∀ x ∈ l, okRs x
  | [], i => Iff.intro (fun _ x h => by cases h) (fun _ => rfl)
  | x :: l, i => by
    rw [ressF]
    constructor
    · intro h
      split at h
      · rename_i hx
        intro y hy
        rcases List.mem_cons.1 hy with rfl | hy
        · exact resF_iff.1 hx
        · exact ressF_iff.1 h y hy
      · rename_i hx; exact absurd h hx
    · intro h
      rw [if_pos (resF_iff.2 (h x List.mem_cons_self))]
      exact ressF_iff.2 fun y hy => h y (List.mem_cons_of_mem _ hy)
theorem chkF_iff {b : List GRes} : (chkF b).1 = 0 ↔ b.length ≤ 32 ∧ (∀ r ∈ b, okRs r) ∧ (plR 0 b).length ≤ 100 ∧ batchW b ≤ 65536 := by
  unfold chkF
  constructor
  · intro h
    split at h
    · exact absurd h (by decide)
    split at h
    · rename_i h1; exact absurd h h1
    split at h
    · exact absurd h (by decide)
    split at h
    · exact absurd h (by decide)
    · rename_i h1 h2 h3 h4; have h5 : (ressF 0 b).1 = 0 := by omega
      exact ⟨by omega, ressF_iff.1 h5, by omega, by omega⟩
  · rintro ⟨h1, h2, h3, h4⟩
    rw [if_neg (by omega), if_neg (by have h5 : (ressF 0 b).1 = 0 := ressF_iff.2 h2; omega), if_neg (by omega), if_neg (by omega)]

/-! ### All spans of a batch -/
def allS (b : List GRes) : List GSpan := b.flatMap fun r => spansOf r.scopes
theorem plR_all : ∀ (i : Nat) (b : List GRes), (plR i b).length = (allS b).length
  | _, [] => rfl
  | i, r :: b => by rw [plR, allS, List.flatMap_cons, List.length_append, List.length_append, plC_len, plR_all (i + 1) b]; rfl
theorem plR_spans : ∀ (l m : List GRes), (plR m.length l).map (fun p => spAt (m ++ l) p) = allS l
  | [], m => rfl
  | r :: l, m => by
    rw [plR, List.map_append, allS, List.flatMap_cons]
    congr 1
    · have hr : nthR (m ++ r :: l) m.length = r := by simp [nthR, nth]
      have h := plC_spans m.length r.scopes []
      rw [← h]
      refine List.map_congr_left fun p hp => ?_
      have h1 : p.1 = m.length := plC_fst _ _ _ _ hp
      unfold spAt; rw [h1, hr]; rfl
    · have := plR_spans l (m ++ [r])
      simp only [List.length_append, List.length_cons, List.length_nil, List.append_assoc, List.cons_append, List.nil_append] at this
      exact this
where
  plC_fst (i : Nat) : ∀ (k : Nat) (l : List GScope) (p : Nat × Nat × Nat), p ∈ plC i k l → p.1 = i
    | _, [], p, h => by simp [plC] at h
    | k, c :: l, p, h => by
      rw [plC] at h
      rcases List.mem_append.1 h with h | h
      · obtain ⟨j, _, rfl⟩ := List.mem_map.1 h; rfl
      · exact plC_fst i (k + 1) l p h
theorem allS_eq (b : List GRes) : (plR 0 b).map (spAt b) = allS b := plR_spans b []
theorem allS_mem {b : List GRes} {s : GSpan} (h : s ∈ allS b) : ∃ r ∈ b, ∃ c ∈ r.scopes, s ∈ c.spans := by
  obtain ⟨r, hr, hs⟩ := List.mem_flatMap.1 h
  obtain ⟨c, hc, hs⟩ := spansOf_mem hs
  exact ⟨r, hr, c, hc, hs⟩
theorem allS_nj : ∀ b : List GRes, allS (njB b) = (allS b).map njS
  | [] => rfl
  | r :: b => by
    have ih := allS_nj b
    unfold allS njB at ih ⊢
    rw [List.map_cons, List.flatMap_cons, List.flatMap_cons, List.map_append, ih]
    congr 1
    exact spansOf_scopeJ _
theorem chk_ris {b : List GRes} (h : (chkF b).1 = 0) : ∀ r ∈ b, risA none r.attrs := fun r hr => (attrsC_iff.1 ((chkF_iff.1 h).2.1 r hr).1).2.1
/-- What Jaeger's format keeps of what may be, may be. -/
theorem chk_nj {b : List GRes} (ho : okB b) (h : (chkF b).1 = 0) : (chkF (njB b)).1 = 0 := by
  have hr := chk_ris h
  obtain ⟨h1, h2, h3, h4⟩ := chkF_iff.1 h
  refine chkF_iff.2 ⟨by unfold njB; rw [List.length_map]; exact h1, fun r hr => ?_, ?_, Nat.le_trans (batchW_nj hr) h4⟩
  · obtain ⟨x, hx, rfl⟩ := List.mem_map.1 hr
    obtain ⟨k1, k2, k3⟩ := h2 x hx
    refine ⟨attrsC_njR k1, ?_, fun c hc => ?_⟩
    · show (scopeJ _).length ≤ 16
      unfold scopeJ; split <;> simp
    · have hc : c ∈ scopeJ ((spansOf x.scopes).map njS) := hc
      unfold scopeJ at hc
      split at hc
      · cases List.mem_singleton.1 hc
        refine ⟨nameC_empty, nameC_empty, fun s hs => ?_⟩
        obtain ⟨t, ht, rfl⟩ := List.mem_map.1 hs
        obtain ⟨c, hc, ht⟩ := spansOf_mem ht
        exact spanOk_nj (((ho x hx).2 c hc).2.2 t ht) ((k3 c hc).2.2 t ht)
      · cases hc
  · rw [plR_all, allS_nj, List.length_map, ← plR_all 0]; exact h3

/-! ### Cores -/
structure GCore where
  trace : Bs
  id : Bs
  parent : Bs
  name : ByteArray
  begun : Int
  lasts : Int
def GCore.av (c : GCore) : AV := .agg [.arr 16 c.trace, .arr 8 c.id, .arr 8 c.parent, sv c.name, iv c.begun, iv c.lasts]
def coreS (s : GSpan) : GCore := ⟨s.trace, s.id, s.parent, s.name, rBegun s.start s.fin, rLasts s.start s.fin⟩
theorem GCore.ext' {a b : GCore} (h1 : a.trace = b.trace) (h2 : a.id = b.id) (h3 : a.parent = b.parent) (h4 : a.name = b.name) (h5 : a.begun = b.begun) (h6 : a.lasts = b.lasts) : a = b := by cases a; cases b; simp_all
instance : DecidableEq GCore := fun a b => decidable_of_iff (a.trace = b.trace ∧ a.id = b.id ∧ a.parent = b.parent ∧ a.name = b.name ∧ a.begun = b.begun ∧ a.lasts = b.lasts) ⟨fun h => GCore.ext' h.1 h.2.1 h.2.2.1 h.2.2.2.1 h.2.2.2.2.1 h.2.2.2.2.2, fun h => by rw [h]; exact ⟨rfl, rfl, rfl, rfl, rfl, rfl⟩⟩
def coresB (b : List GRes) : List GCore := (allS b).map coreS
theorem core_times {s e : Int} (hs : u64 s) (he : u64 e) : rBegun (wholeM ⟨s, e⟩).lo (wholeM ⟨s, e⟩).hi = rBegun s e ∧ rLasts (wholeM ⟨s, e⟩).lo (wholeM ⟨s, e⟩).hi = rLasts s e := by
  rcases whole_facts s e hs.1 he.1 hs.2 he.2 with ⟨hf, h⟩ | ⟨_, A, B, h, _, _, h3, h4, _⟩
  · have e1 : rBegun s e = 0 := by unfold rBegun; rw [hf]; rfl
    have e2 : rLasts s e = 0 := by unfold rLasts; rw [hf]; rfl
    rw [h, e1, e2]
    exact ⟨by show rBegun 0 0 = 0; decide, by show rLasts 0 0 = 0; decide⟩
  · rw [h]
    rw [tells3, tells3] at h3
    rw [tells4, tells4] at h4
    exact ⟨h3, h4⟩
theorem core_nj {s : GSpan} (ho : s.ok) : coreS (njS s) = coreS s := by
  have h := core_times ho.2.2.1.2.1 ho.2.2.1.2.2.1
  exact GCore.ext' rfl rfl rfl rfl h.1 h.2
theorem cores_nj {b : List GRes} (ho : okB b) : coresB (njB b) = coresB b := by
  unfold coresB
  rw [allS_nj, List.map_map]
  refine List.map_congr_left fun s hs => ?_
  obtain ⟨r, hr, c, hc, hs⟩ := allS_mem hs
  exact core_nj (((ho r hr).2 c hc).2.2 s hs)
end Go.Proofs

namespace Go.Proofs
open Go Go.Al

/-! ### What Zipkin's format keeps -/
/-! Keys -/
instance decMemB (k : ByteArray) (l : List ByteArray) : Decidable (k ∈ l) := decidable_of_iff ((l.any fun x => decide (x = k)) = true) (by
  rw [List.any_eq_true]
  constructor
  · rintro ⟨x, hx, h⟩; exact of_decide_eq_true h ▸ hx
  · exact fun h => ⟨k, h, decide_eq_true rfl⟩)
/-! Groups have what there is -/
/-! What may be -/
/-! Cores -/
/-! It stays -/
end Go.Proofs

namespace Go.Proofs
open Go Go.Al

/-! ### Groups, key by key -/
/-! By places in two rows -/
end Go.Proofs

namespace Go.Proofs
open Go Go.Al

/-! ### What is wrong with a batch, as it is told -/
def flAv (f : Fl) : AV := .agg [iv f.1, .sl 1 (f.2.map sv)]
def upF (ab : List ByteArray) (f : Fl) : Fl := if f.1 = 0 then (0, []) else (f.1, ab ++ f.2)
theorem upF_pos {ab : List ByteArray} {f : Fl} (h : f.1 ≠ 0) : upF ab f = (f.1, ab ++ f.2) := if_neg h
theorem upF_zero {ab : List ByteArray} {f : Fl} (h : f.1 = 0) : upF ab f = (0, []) := if_pos h
theorem upF_code (ab : List ByteArray) (f : Fl) : (upF ab f).1 = f.1 := by
  unfold upF; split
  · rename_i h; exact h.symm
  · rfl
theorem part_cat (k : ByteArray) (n : Nat) : (k ++ ⟨#[32]⟩) ++ strOf (decB n) = partM k n := by
  unfold partM
  have h1 : strOf (lst k) = k := strOf_lst k
  have h2 : (⟨#[32]⟩ : ByteArray) = strOf [32] := rfl
  conv => lhs; rw [← h1]
  rw [h2, strOf_append, strOf_append, List.append_assoc]; rfl
theorem spansF_drop {l : List GSpan} {i : Nat} (h : i < l.length) : spansF i (l.drop i) = if spanOk (nthS l i) = 0 then spansF (i + 1) (l.drop (i + 1)) else (spanOk (nthS l i), [partM kSpan i]) := by
  rw [drop_nth (d := gs0) h, spansF]; rfl
theorem scopesF_drop {l : List GScope} {i : Nat} (h : i < l.length) : scopesF i (l.drop i) = if (scopeF (nthC l i)).1 = 0 then scopesF (i + 1) (l.drop (i + 1)) else ((scopeF (nthC l i)).1, partM kScope i :: (scopeF (nthC l i)).2) := by
  rw [drop_nth (d := gc0) h, scopesF]; rfl
theorem ressF_drop {l : List GRes} {i : Nat} (h : i < l.length) : ressF i (l.drop i) = if (resF (nthR l i)).1 = 0 then ressF (i + 1) (l.drop (i + 1)) else ((resF (nthR l i)).1, partM kRes i :: (resF (nthR l i)).2) := by
  rw [drop_nth (d := gr0) h, ressF]; rfl

section
variable {s : GScope} {ab : List ByteArray} {i : Nat}
theorem scopeF_1 (h : nameC s.name ≠ 0) : scopeF s = (nameC s.name, []) := if_pos h
theorem scopeF_2 (h1 : nameC s.name = 0) (h : nameC s.version ≠ 0) : scopeF s = (nameC s.version, []) := by unfold scopeF; rw [if_neg (by omega), if_pos h]
theorem scopeF_3 (h1 : nameC s.name = 0) (h2 : nameC s.version = 0) : scopeF s = spansF 0 s.spans := by unfold scopeF; rw [if_neg (by omega), if_neg (by omega)]
theorem sc1 (h : nameC s.name ≠ 0) : AV.agg [iv (nameC s.name), .sl 1 (ab.map sv)] = flAv (upF ab (scopeF s)) := by
  rw [scopeF_1 h, upF_pos (f := (nameC s.name, [])) h, List.append_nil]; rfl
theorem sc2 (h1 : nameC s.name = 0) (h : nameC s.version ≠ 0) : AV.agg [iv (nameC s.version), .sl 1 (ab.map sv)] = flAv (upF ab (scopeF s)) := by
  rw [scopeF_2 h1 h, upF_pos (f := (nameC s.version, [])) h, List.append_nil]; rfl
theorem sc3 (h1 : nameC s.name = 0) (h2 : nameC s.version = 0) (h : spansF 0 s.spans = spansF i (s.spans.drop i)) (hi : i < s.spans.length) (hn : spanOk (nthS s.spans i) ≠ 0) :
    AV.agg [iv (spanOk (nthS s.spans i)), .sl 1 (ab.map sv ++ [sv (partM kSpan i)])] = flAv (upF ab (scopeF s)) := by
  rw [scopeF_3 h1 h2, h, spansF_drop hi, if_neg hn, upF_pos (f := (spanOk (nthS s.spans i), [partM kSpan i])) hn]
  unfold flAv
  rw [List.map_append]; rfl
theorem sc4 (h1 : nameC s.name = 0) (h2 : nameC s.version = 0) (h : spansF 0 s.spans = (0, [])) : AV.agg [iv 0, .sl 1 []] = flAv (upF ab (scopeF s)) := by
  rw [scopeF_3 h1 h2, h, upF_zero rfl]; rfl
end
section
variable {r : GRes} {a : ByteArray} {i : Nat}
theorem rs1 (h : attrsC r.attrs ≠ 0) : AV.agg [iv (attrsC r.attrs), .sl 1 [sv a]] = flAv (upF [a] (resF r)) := by
  rw [show resF r = (attrsC r.attrs, []) from if_pos h, upF_pos (f := (attrsC r.attrs, [])) h]; rfl
theorem rs2 (h1 : attrsC r.attrs = 0) (h : 16 < r.scopes.length) : AV.agg [iv 34, .sl 1 [sv a]] = flAv (upF [a] (resF r)) := by
  rw [show resF r = (34, []) by unfold resF; rw [if_neg (by omega), if_pos h], upF_pos (f := (34, [])) (by decide)]; rfl
theorem resF_3 (h1 : attrsC r.attrs = 0) (h : ¬ 16 < r.scopes.length) : resF r = scopesF 0 r.scopes := by unfold resF; rw [if_neg (by omega), if_neg h]
theorem rs3 (h1 : attrsC r.attrs = 0) (h2 : ¬ 16 < r.scopes.length) (h : scopesF 0 r.scopes = scopesF i (r.scopes.drop i)) (hi : i < r.scopes.length) (hn : (scopeF (nthC r.scopes i)).1 ≠ 0) :
    flAv (upF [a, partM kScope i] (scopeF (nthC r.scopes i))) = flAv (upF [a] (resF r)) := by
  rw [resF_3 h1 h2, h, scopesF_drop hi, if_neg hn, upF_pos hn, upF_pos (f := ((scopeF (nthC r.scopes i)).1, partM kScope i :: (scopeF (nthC r.scopes i)).2)) hn]; rfl
theorem rs4 (h1 : attrsC r.attrs = 0) (h2 : ¬ 16 < r.scopes.length) (h : scopesF 0 r.scopes = (0, [])) : AV.agg [iv 0, .sl 1 []] = flAv (upF [a] (resF r)) := by
  rw [resF_3 h1 h2, h, upF_zero rfl]; rfl
end
section
variable {b : List GRes} {i : Nat}
theorem ck1 (h : 32 < b.length) : chkF b = (34, []) := if_pos h
theorem ck2 (h1 : ¬ 32 < b.length) (h : ressF 0 b = ressF i (b.drop i)) (hi : i < b.length) (hn : (resF (nthR b i)).1 ≠ 0) : upF [partM kRes i] (resF (nthR b i)) = chkF b := by
  have e : ressF 0 b = ((resF (nthR b i)).1, partM kRes i :: (resF (nthR b i)).2) := by rw [h, ressF_drop hi, if_neg hn]
  unfold chkF
  rw [if_neg h1, e, if_pos hn, upF_pos hn]; rfl
theorem ck3 (h1 : ¬ 32 < b.length) (h : ressF 0 b = (0, [])) (h2 : 100 < (plR 0 b).length) : chkF b = (34, []) := by
  unfold chkF; rw [if_neg h1, h, if_neg (by decide), if_pos h2]
theorem ck4 (h1 : ¬ 32 < b.length) (h : ressF 0 b = (0, [])) (h2 : ¬ 100 < (plR 0 b).length) (h3 : 65536 < batchW b) : chkF b = (36, []) := by
  unfold chkF; rw [if_neg h1, h, if_neg (by decide), if_neg h2, if_pos h3]
theorem ck5 (h1 : ¬ 32 < b.length) (h : ressF 0 b = (0, [])) (h2 : ¬ 100 < (plR 0 b).length) (h3 : ¬ 65536 < batchW b) : chkF b = (0, []) := by
  unfold chkF; rw [if_neg h1, h, if_neg (by decide), if_neg h2, if_neg h3]
theorem flN {x : Fl} {c : Int} (h : x = (c, [])) : Up (.agg [iv c, .v (.slice none 0 0)]) (flAv x) := by rw [h]; exact Up.agg ⟨Up.refl _, Up.nil 1, trivial⟩
theorem flE {x : Fl} {c : Int} (h : x = (c, [])) : Up (.agg [iv c, .sl 1 []]) (flAv x) := by rw [h]; exact Up.refl _
theorem flU {x y : Fl} (h : x = y) : Up (flAv x) (flAv y) := by rw [h]; exact Up.refl _
end
end Go.Proofs

namespace Go.Proofs
open Go Go.Al
set_option maxRecDepth 10000
set_option maxHeartbeats 400000 in
theorem rpart_c (k : ByteArray) (n : Nat) (hk : k.size ≤ 100) (hn : n ≤ 1000000000) : PCall Tryz.prog Γ0 32 [sv k, iv (n : Int)] [sv (partM k n)] := by
  refine pcall_of Tryz.func32 rfl Tryz.ntmps32 (by kernel_rfl) rfl fun w0 I0 G0 => ?_
  refine aw_seq ?_
  refine aw_region ?_
  refine g_u (s_as_imm rfl rfl) ?_
  refine g_nil ?_
  refine normal_thn ?_
  refine aw_seq ?_
  refine aw_region ?_
  refine g_u (s_mv_imm rfl rfl) ?_
  refine g_u (s_catS rfl rfl rfl (by show _ ≤ (9223372036854775807 : Int); have h1 := decB_length (n : Int); have h2 : (ByteArray.mk #[32]).size = 1 := rfl; have h3 : (strOf (decB (n : Int))).size = (decB (n : Int)).length := strOf_size _; (try dsimp only); (try simp only [app_size]); omega)) ?_
  refine g_u (s_mv_imm rfl rfl) ?_
  refine g_u (s_call1 (rdec_c _ (by omega)) rfl rfl) ?_
  refine g_u (s_catS rfl rfl rfl (by show _ ≤ (9223372036854775807 : Int); have h1 := decB_length (n : Int); have h2 : (ByteArray.mk #[32]).size = 1 := rfl; have h3 : (strOf (decB (n : Int))).size = (decB (n : Int)).length := strOf_size _; (try dsimp only); (try simp only [app_size]); omega)) ?_
  refine g_u (s_as_imm rfl rfl) ?_
  refine g_nil ?_
  refine normal_thn ?_
  refine aw_ret ?_
  exact ⟨⟨(rfl : toAV (Al.look _ _) = some _).trans (congrArg some (by (exact congrArg sv (part_cat k n)))), rfl⟩, trivial⟩

set_option maxHeartbeats 4000000 in
theorem rscope30_c (s : GScope) (ab : List ByteArray) (ho : s.ok) (hw : s.wt ≤ 1000000) (ha : ab.length ≤ 10) : PCall Tryz.prog Γ0 55 [s.av, .sl 1 (ab.map sv)] [flAv (upF ab (scopeF s))] := by
  have qw : s.wt = 1 + s.name.size + s.version.size + sumBy GSpan.wt s.spans := rfl
  have ql := sumBy_len GSpan.wt (fun e => by unfold GSpan.wt; omega) s.spans
  refine pcall_of Tryz.func55 rfl Tryz.ntmps55 (by kernel_rfl) rfl fun w0 I0 G0 => ?_
  refine aw_seq ?_
  refine aw_region ?_
  refine g_uG (s_box_imm 1002 rfl rfl rfl rfl) rfl ?_
  refine g_uG (s_alloc' 1004 rfl rfl rfl tZ33) rfl ?_
  refine g_nil ?_
  refine normal_thn ?_
  refine aw_seq ?_
  refine aw_seq ?_
  refine aw_region ?_
  refine g_u (s_fieldAddr rfl rfl fa55_0 rfl) ?_
  refine g_u (s_load_imm rfl rfl rfl tA9 tS9 rfl rfl) ?_
  refine g_u (s_call1 (rname_c _ (by omega)) rfl rfl) ?_
  refine g_u (s_as_imm rfl rfl) ?_
  refine g_nil ?_
  refine normal_thn ?_
  refine aw_seq ?_
  refine aw_region ?_
  refine g_u (s_mv_imm rfl rfl) ?_
  refine g_u (s_neI rfl rfl rfl) ?_
  refine g_nil ?_
  refine normal_thn ?_
  refine aw_cond rfl (fun hb1 => ?_) (fun hb1 => ?_)
  · skip
    have q1 : nameC s.name ≠ 0 := bne_iff_ne.1 hb1
    refine aw_seq ?_
    refine aw_region ?_
    refine g_u (s_mv_imm rfl rfl) ?_
    refine g_u (s_mv_imm rfl rfl) ?_
    refine g_u (s_build rfl tU33 us33 pl33 rfl rfl rfl rfl) ?_
    refine g_u (s_store_imm rfl rfl rfl tS33 rfl rfl) ?_
    refine g_nil ?_
    refine normal_thn ?_
    refine aw_ret ?_
    refine ret_thn ?_
    exact ⟨⟨_, _, _, _, _, _, _, rfl, rfl, tA33, tS33, rfl, rfl, (rfl : toAV _ = some _).trans (congrArg some (by (exact sc1 q1)))⟩, trivial⟩
  · skip
    have q1 : nameC s.name = 0 := bne_eq_false_iff_eq.1 hb1
    refine aw_skip ?_
    refine normal_thn ?_
    refine aw_seq ?_
    refine aw_seq ?_
    refine aw_region ?_
    refine g_u (s_fieldAddr rfl rfl fa55_1 rfl) ?_
    refine g_u (s_load_imm rfl rfl rfl tA9 tS9 rfl rfl) ?_
    refine g_u (s_call1 (rname_c _ (by omega)) rfl rfl) ?_
    refine g_u (s_as_imm rfl rfl) ?_
    refine g_nil ?_
    refine normal_thn ?_
    refine aw_seq ?_
    refine aw_region ?_
    refine g_u (s_mv_imm rfl rfl) ?_
    refine g_u (s_neI rfl rfl rfl) ?_
    refine g_nil ?_
    refine normal_thn ?_
    refine aw_cond rfl (fun hb2 => ?_) (fun hb2 => ?_)
    · skip
      have q2 : nameC s.version ≠ 0 := bne_iff_ne.1 hb2
      refine aw_seq ?_
      refine aw_region ?_
      refine g_u (s_mv_imm rfl rfl) ?_
      refine g_u (s_mv_imm rfl rfl) ?_
      refine g_u (s_build rfl tU33 us33 pl33 rfl rfl rfl rfl) ?_
      refine g_u (s_store_imm rfl rfl rfl tS33 rfl rfl) ?_
      refine g_nil ?_
      refine normal_thn ?_
      refine aw_ret ?_
      refine ret_thn ?_
      exact ⟨⟨_, _, _, _, _, _, _, rfl, rfl, tA33, tS33, rfl, rfl, (rfl : toAV _ = some _).trans (congrArg some (by (exact sc2 q1 q2)))⟩, trivial⟩
    · skip
      have q2 : nameC s.version = 0 := bne_eq_false_iff_eq.1 hb2
      refine aw_skip ?_
      refine normal_thn ?_
      refine aw_seq ?_
      refine aw_seq ?_
      refine aw_region ?_
      refine g_u (s_as_imm rfl rfl) ?_
      refine g_nil ?_
      refine normal_thn ?_
      refine aw_block ?_
      refine aw_loop' (fun i : Nat => [(2, .ptr 1002 0), (1002, .box 55 (.imm s.av)), (1, .imm (.sl 1 (ab.map sv))), (4, .ptr 1004 0), (1004, .box 33 (.imm z33)), (7, .imm (iv (i : Int)))]) (fun i => i ≤ s.spans.length ∧ spansF 0 s.spans = spansF i (s.spans.drop i)) (fun i => s.spans.length - i) (0) ?_ ⟨rfl, rfl, rfl, rfl, rfl, rfl, trivial⟩ ?_
      · exact ⟨Nat.zero_le _, rfl⟩
      · rintro i ⟨h1, h2⟩; (try dsimp only at h1 h2)
        refine aw_seq ?_
        refine aw_seq ?_
        refine aw_region ?_
        refine g_u (s_mv_imm rfl rfl) ?_
        refine g_u (s_fieldAddr rfl rfl fa55_2 rfl) ?_
        refine g_u (s_load_imm rfl rfl rfl tA53 tS53 rfl rfl) ?_
        refine g_u (s_lenL rfl rfl Tryz.underlying53) ?_
        refine g_u (s_ltI rfl rfl rfl) ?_
        refine g_nil ?_
        refine normal_thn ?_
        refine aw_cond rfl (fun hb3 => ?_) (fun hb3 => ?_)
        · skip
          have hi : i < s.spans.length := by have := of_decide_eq_true hb3; (try simp only [List.length_map] at this); omega
          have hsx := sumBy_mem GSpan.wt (nthS_mem hi)
          have hso := ho.2.2 _ (nthS_mem hi)
          refine aw_skip ?_
          refine normal_thn ?_
          refine aw_seq ?_
          refine aw_block ?_
          refine aw_seq ?_
          refine aw_region ?_
          refine g_u (s_fieldAddr rfl rfl fa55_2 rfl) ?_
          refine g_u (s_load_imm rfl rfl rfl tA53 tS53 rfl rfl) ?_
          refine g_u (s_mv_imm rfl rfl) ?_
          refine g_u (s_indexAddr rfl rfl rfl Tryz.underlying53 tS52 (by omega) (ixS hi)) ?_
          refine g_u (s_load_cp rfl rfl tA52 tS52 rfl (by first | exact getS_w (GSpan.width _) rfl | rfl)) ?_
          refine g_u (s_call1 (rspanCheck_c _ hso (by omega)) rfl rfl) ?_
          refine g_u (s_as_imm rfl rfl) ?_
          refine g_nil ?_
          refine normal_thn ?_
          refine aw_seq ?_
          refine aw_region ?_
          refine g_u (s_mv_imm rfl rfl) ?_
          refine g_u (s_neI rfl rfl rfl) ?_
          refine g_nil ?_
          refine normal_thn ?_
          refine aw_cond rfl (fun hb4 => ?_) (fun hb4 => ?_)
          · skip
            have hz : spanOk (nthS s.spans i) ≠ 0 := bne_iff_ne.1 hb4
            refine aw_seq ?_
            refine aw_region ?_
            refine g_u (s_mv_imm rfl rfl) ?_
            refine g_uG (s_build0 1041 3041 rfl rfl rfl rfl rfl rfl Tryz.underlying31 tS9) rfl ?_
            refine g_u (s_mv_imm rfl rfl) ?_
            refine g_u (s_append rfl rfl rfl rfl rfl Tryz.underlying31 Tryz.underlying31 tS9 zv9 rfl (by decide) by9 (by (try dsimp only); simp only [List.length_append, List.length_cons, List.length_nil, List.length_map]; omega) (by (try dsimp only); simp only [List.length_append, List.length_cons, List.length_nil, List.length_map]; omega)) ?_
            refine g_u (s_mv_imm rfl rfl) ?_
            refine g_u (s_call1 (rpart_c kSpan i (by decide) (by omega)) rfl rfl) ?_
            refine g_u (s_buildSlice (X0 := z9) rfl Tryz.underlying31 tS9 tZ9 rfl rfl rfl rfl rfl rfl rfl rfl) ?_
            refine g_u (s_append rfl rfl rfl rfl rfl Tryz.underlying31 Tryz.underlying31 tS9 zv9 rfl (by decide) by9 (by (try dsimp only); simp only [List.length_append, List.length_cons, List.length_nil, List.length_map]; omega) (by (try dsimp only); simp only [List.length_append, List.length_cons, List.length_nil, List.length_map]; omega)) ?_
            refine g_u (s_build rfl tU33 us33 pl33 rfl rfl rfl rfl) ?_
            refine g_u (s_store_imm rfl rfl rfl tS33 rfl rfl) ?_
            refine g_nil ?_
            refine normal_thn ?_
            refine aw_ret ?_
            refine ret_blk ?_
            refine ret_thn ?_
            refine ret_thn ?_
            refine ret_blk ?_
            refine ret_thn ?_
            exact ⟨⟨_, _, _, _, _, _, _, rfl, rfl, tA33, tS33, rfl, rfl, (rfl : toAV _ = some _).trans (congrArg some (by (first | exact sc3 q1 q2 h2 hi hz | exact sc4 q1 q2 (by rw [h2, hin, List.drop_length]; rfl))))⟩, trivial⟩
          · skip
            have hz : spanOk (nthS s.spans i) = 0 := bne_eq_false_iff_eq.1 hb4
            refine aw_skip ?_
            refine normal_blk ?_
            refine normal_thn ?_
            refine aw_region ?_
            refine g_u (s_mv_imm rfl rfl) ?_
            refine g_u (s_add rfl rfl rfl) ?_
            refine g_u (s_as_imm rfl rfl) ?_
            refine g_nil ?_
            refine normal_thn ?_
            refine ⟨i + 1, ⟨hi, by (try dsimp only); rw [h2, spansF_drop hi, if_pos hz]⟩, ⟨rfl, rfl, rfl, rfl, rfl, look_int rfl (by rw [wrap64 (by omega) (by omega)]; rfl), trivial⟩, by (try dsimp only); omega⟩
        · skip
          have hin : i = s.spans.length := by have := of_decide_eq_false hb3; (try simp only [List.length_map] at this); omega
          refine aw_exit ?_
          refine exit_thn ?_
          refine exit_thn ?_
          refine exit_blk ?_
          refine normal_thn ?_
          refine aw_seq ?_
          refine aw_region ?_
          refine g_u (s_build rfl tU33 us33 pl33 rfl rfl rfl rfl) ?_
          refine g_u (s_store_imm rfl rfl rfl tS33 rfl rfl) ?_
          refine g_nil ?_
          refine normal_thn ?_
          refine aw_ret ?_
          exact ⟨⟨_, _, _, _, _, _, _, rfl, rfl, tA33, tS33, rfl, rfl, (rfl : toAV _ = some _).trans (congrArg some (by (first | exact sc3 q1 q2 h2 hi hz | exact sc4 q1 q2 (by rw [h2, hin, List.drop_length]; rfl))))⟩, trivial⟩

set_option maxHeartbeats 4000000 in
theorem rres30_c (r : GRes) (a : ByteArray) (ho : r.ok) (hf : fitR r) : PCall Tryz.prog Γ0 31 [r.av, sv a] [flAv (upF [a] (resF r))] := by
  have hwa := hf.1
  have ql := hf.2.1
  refine pcall_of Tryz.func31 rfl Tryz.ntmps31 (by kernel_rfl) rfl fun w0 I0 G0 => ?_
  refine aw_seq ?_
  refine aw_region ?_
  refine g_uG (s_box_imm 1002 rfl rfl rfl rfl) rfl ?_
  refine g_uG (s_alloc' 1004 rfl rfl rfl tZ33) rfl ?_
  refine g_nil ?_
  refine normal_thn ?_
  refine aw_seq ?_
  refine aw_seq ?_
  refine aw_region ?_
  refine g_u (s_fieldAddr rfl rfl fa58_0 rfl) ?_
  refine g_u (s_load_imm rfl rfl rfl tA46 tS46 rfl rfl) ?_
  refine g_u (s_call1 (rcheckAs_c _ ho.1 (by omega)) rfl rfl) ?_
  refine g_u (s_as_imm rfl rfl) ?_
  refine g_nil ?_
  refine normal_thn ?_
  refine aw_seq ?_
  refine aw_region ?_
  refine g_u (s_mv_imm rfl rfl) ?_
  refine g_u (s_neI rfl rfl rfl) ?_
  refine g_nil ?_
  refine normal_thn ?_
  refine aw_cond rfl (fun hb1 => ?_) (fun hb1 => ?_)
  · skip
    have q1 : attrsC r.attrs ≠ 0 := bne_iff_ne.1 hb1
    refine aw_seq ?_
    refine aw_region ?_
    refine g_u (s_mv_imm rfl rfl) ?_
    refine g_u (s_mv_imm rfl rfl) ?_
    refine g_u (s_buildSlice (X0 := z9) rfl Tryz.underlying31 tS9 tZ9 rfl rfl rfl rfl rfl rfl rfl rfl) ?_
    refine g_u (s_build rfl tU33 us33 pl33 rfl rfl rfl rfl) ?_
    refine g_u (s_store_imm rfl rfl rfl tS33 rfl rfl) ?_
    refine g_nil ?_
    refine normal_thn ?_
    refine aw_ret ?_
    refine ret_thn ?_
    exact ⟨⟨_, _, _, _, _, _, _, rfl, rfl, tA33, tS33, rfl, rfl, (rfl : toAV _ = some _).trans (congrArg some (by (exact rs1 q1)))⟩, trivial⟩
  · skip
    have q1 : attrsC r.attrs = 0 := bne_eq_false_iff_eq.1 hb1
    refine aw_skip ?_
    refine normal_thn ?_
    refine aw_seq ?_
    refine aw_seq ?_
    refine aw_region ?_
    refine g_u (s_fieldAddr rfl rfl fa58_1 rfl) ?_
    refine g_u (s_load_imm rfl rfl rfl tA56 tS56 rfl rfl) ?_
    refine g_u (s_lenL rfl rfl Tryz.underlying56) ?_
    refine g_u (s_gtI rfl rfl rfl) ?_
    refine g_nil ?_
    refine normal_thn ?_
    refine aw_cond rfl (fun hb2 => ?_) (fun hb2 => ?_)
    · skip
      have q2 : 16 < r.scopes.length := by have := of_decide_eq_true hb2; (try simp only [List.length_map] at this); omega
      refine aw_seq ?_
      refine aw_region ?_
      refine g_u (s_mv_imm rfl rfl) ?_
      refine g_u (s_buildSlice (X0 := z9) rfl Tryz.underlying31 tS9 tZ9 rfl rfl rfl rfl rfl rfl rfl rfl) ?_
      refine g_u (s_build rfl tU33 us33 pl33 rfl rfl rfl rfl) ?_
      refine g_u (s_store_imm rfl rfl rfl tS33 rfl rfl) ?_
      refine g_nil ?_
      refine normal_thn ?_
      refine aw_ret ?_
      refine ret_thn ?_
      exact ⟨⟨_, _, _, _, _, _, _, rfl, rfl, tA33, tS33, rfl, rfl, (rfl : toAV _ = some _).trans (congrArg some (by (exact rs2 q1 q2)))⟩, trivial⟩
    · skip
      have q2 : ¬ 16 < r.scopes.length := by have := of_decide_eq_false hb2; (try simp only [List.length_map] at this); omega
      refine aw_skip ?_
      refine normal_thn ?_
      refine aw_seq ?_
      refine aw_seq ?_
      refine aw_region ?_
      refine g_u (s_as_imm rfl rfl) ?_
      refine g_nil ?_
      refine normal_thn ?_
      refine aw_block ?_
      refine aw_loop' (fun i : Nat => [(2, .ptr 1002 0), (1002, .box 58 (.imm r.av)), (1, .imm (sv a)), (4, .ptr 1004 0), (1004, .box 33 (.imm z33)), (6, .imm (iv (i : Int)))]) (fun i => i ≤ r.scopes.length ∧ scopesF 0 r.scopes = scopesF i (r.scopes.drop i)) (fun i => r.scopes.length - i) (0) ?_ ⟨rfl, rfl, rfl, rfl, rfl, rfl, trivial⟩ ?_
      · exact ⟨Nat.zero_le _, rfl⟩
      · rintro i ⟨h1, h2⟩; (try dsimp only at h1 h2)
        refine aw_seq ?_
        refine aw_seq ?_
        refine aw_region ?_
        refine g_u (s_mv_imm rfl rfl) ?_
        refine g_u (s_fieldAddr rfl rfl fa58_1 rfl) ?_
        refine g_u (s_load_imm rfl rfl rfl tA56 tS56 rfl rfl) ?_
        refine g_u (s_lenL rfl rfl Tryz.underlying56) ?_
        refine g_u (s_ltI rfl rfl rfl) ?_
        refine g_nil ?_
        refine normal_thn ?_
        refine aw_cond rfl (fun hb3 => ?_) (fun hb3 => ?_)
        · skip
          have hi : i < r.scopes.length := by have := of_decide_eq_true hb3; (try simp only [List.length_map] at this); omega
          have hsx := hf.2.2.2 _ (nthC_mem hi)
          have hso := ho.2 _ (nthC_mem hi)
          refine aw_skip ?_
          refine normal_thn ?_
          refine aw_seq ?_
          refine aw_block ?_
          refine aw_seq ?_
          refine aw_draw mixed ?_
          refine g_u (s_fieldAddr rfl rfl fa58_1 rfl) ?_
          refine g_u (s_load_imm rfl rfl rfl tA56 tS56 rfl rfl) ?_
          refine g_u (s_mv_imm rfl rfl) ?_
          refine g_u (s_indexAddr rfl rfl rfl Tryz.underlying56 tS55 (by omega) (ixC hi)) ?_
          refine g_u (s_load_cp rfl rfl tA55 tS55 rfl rfl) ?_
          refine g_u (s_mv_imm rfl rfl) ?_
          refine g_u (s_mv_imm rfl rfl) ?_
          refine g_u (s_call1 (rpart_c kScope i (by decide) (by omega)) rfl rfl) ?_
          refine g_u (s_buildSlice (X0 := z9) rfl Tryz.underlying31 tS9 tZ9 rfl rfl rfl rfl rfl rfl rfl rfl) ?_
          refine g_u (s_call1 (rscope30_c (nthC r.scopes i) [a, partM kScope i] hso (by omega) (by show 2 ≤ 10; decide)) rfl rfl) ?_
          refine g_uG (s_alloc' 1007 rfl rfl rfl tZ33) rfl ?_
          refine g_u (s_store_imm rfl rfl rfl tS33 rfl rfl) ?_
          refine g_nil ⟨by kernel_rfl, ?_⟩
          refine normal_thn ?_
          refine aw_seq ?_
          refine aw_region ?_
          refine g_u (s_fieldAddr rfl rfl fa33_0 rfl) ?_
          refine g_u (s_load_imm rfl rfl rfl tA30 tS30 rfl rfl) ?_
          refine g_u (s_neI rfl rfl rfl) ?_
          refine g_nil ?_
          refine normal_thn ?_
          refine aw_cond rfl (fun hb4 => ?_) (fun hb4 => ?_)
          · skip
            have hz : (scopeF (nthC r.scopes i)).1 ≠ 0 := by have e := bne_iff_ne.1 hb4; rw [upF_code] at e; exact e
            refine aw_seq ?_
            refine aw_region ?_
            refine g_u (s_load_agg rfl rfl rfl tA33 tS33 rfl rfl) ?_
            refine g_u (s_store_imm rfl rfl rfl tS33 rfl rfl) ?_
            refine g_nil ?_
            refine normal_thn ?_
            refine aw_ret ?_
            refine ret_blk ?_
            refine ret_thn ?_
            refine ret_thn ?_
            refine ret_blk ?_
            refine ret_thn ?_
            exact ⟨⟨_, _, _, _, _, _, _, rfl, rfl, tA33, tS33, rfl, rfl, (rfl : toAV _ = some _).trans (congrArg some (by (first | exact rs3 q1 q2 h2 hi hz | exact rs4 q1 q2 (by rw [h2, hin, List.drop_length]; rfl))))⟩, trivial⟩
          · skip
            have hz : (scopeF (nthC r.scopes i)).1 = 0 := by have e := bne_eq_false_iff_eq.1 hb4; rw [upF_code] at e; exact e
            refine aw_skip ?_
            refine normal_blk ?_
            refine normal_thn ?_
            refine aw_region ?_
            refine g_u (s_mv_imm rfl rfl) ?_
            refine g_u (s_add rfl rfl rfl) ?_
            refine g_u (s_as_imm rfl rfl) ?_
            refine g_nil ?_
            refine normal_thn ?_
            refine ⟨i + 1, ⟨hi, by (try dsimp only); rw [h2, scopesF_drop hi, if_pos hz]⟩, ⟨rfl, rfl, rfl, rfl, rfl, look_int rfl (by rw [wrap64 (by omega) (by omega)]; rfl), trivial⟩, by (try dsimp only); omega⟩
        · skip
          have hin : i = r.scopes.length := by have := of_decide_eq_false hb3; (try simp only [List.length_map] at this); omega
          refine aw_exit ?_
          refine exit_thn ?_
          refine exit_thn ?_
          refine exit_blk ?_
          refine normal_thn ?_
          refine aw_seq ?_
          refine aw_region ?_
          refine g_u (s_build rfl tU33 us33 pl33 rfl rfl rfl rfl) ?_
          refine g_u (s_store_imm rfl rfl rfl tS33 rfl rfl) ?_
          refine g_nil ?_
          refine normal_thn ?_
          refine aw_ret ?_
          exact ⟨⟨_, _, _, _, _, _, _, rfl, rfl, tA33, tS33, rfl, rfl, (rfl : toAV _ = some _).trans (congrArg some (by (first | exact rs3 q1 q2 h2 hi hz | exact rs4 q1 q2 (by rw [h2, hin, List.drop_length]; rfl))))⟩, trivial⟩

set_option maxHeartbeats 8000000 in
theorem rchk_c (b : List GRes) (ho : okB b) (hf : fitB b) : PCall Tryz.prog Γ0 10 [batchAv b] [flAv (chkF b)] := by
  have hw := hf.1
  have qw : wtB b = sumBy GRes.wt b := rfl
  have ql := sumBy_len GRes.wt (fun e => by unfold GRes.wt; omega) b
  have qb : batchW b ≤ 16 + 100000000 * 3000000 := by have h5 := sumBy_le3 (F := resW) (k := 100000000) (G := GRes.wt) b (fun r hr => resW_le r (hf.2 r hr).2.2.1); have qe : batchW b = 16 + sumBy resW b := rfl; omega
  refine pcall_ofU Tryz.func10 rfl Tryz.ntmps10 (by kernel_rfl) rfl fun w0 I0 G0 => ?_
  refine aw_seq ?_
  refine aw_region ?_
  refine g_uG (s_box_imm 1001 rfl rfl rfl rfl) rfl ?_
  refine g_uG (s_alloc' 1002 rfl rfl rfl tZ33) rfl ?_
  refine g_nil ?_
  refine normal_thn ?_
  refine aw_seq ?_
  refine aw_seq ?_
  refine aw_region ?_
  refine g_u (s_fieldAddr rfl rfl fa24_0 rfl) ?_
  refine g_u (s_load_imm rfl rfl rfl tA22 tS22 rfl rfl) ?_
  refine g_u (s_lenL rfl rfl Tryz.underlying22) ?_
  refine g_u (s_gtI rfl rfl rfl) ?_
  refine g_nil ?_
  refine normal_thn ?_
  refine aw_cond rfl (fun hb1 => ?_) (fun hb1 => ?_)
  · skip
    have q1 : 32 < b.length := by have := of_decide_eq_true hb1; (try simp only [List.length_map] at this); omega
    refine aw_seq ?_
    refine aw_region ?_
    refine g_u (s_build rfl tU33 us33 pl33 rfl rfl rfl rfl) ?_
    refine g_u (s_store_imm rfl rfl rfl tS33 rfl rfl) ?_
    refine g_nil ?_
    refine normal_thn ?_
    refine aw_ret ?_
    refine ret_thn ?_
    exact ⟨[_], ⟨⟨_, _, _, _, _, _, _, rfl, rfl, tA33, tS33, rfl, rfl, rfl⟩, trivial⟩, ⟨(by first | exact flN (ck1 q1) | exact flU (ck2 q1 h2 hi hz) | exact flN (ck3 q1 hall q3) | exact flN (ck4 q1 hall q3 q4) | exact flE (ck5 q1 hall q3 q4)), trivial⟩⟩
  · skip
    have q1 : ¬ 32 < b.length := by have := of_decide_eq_false hb1; (try simp only [List.length_map] at this); omega
    refine aw_skip ?_
    refine normal_thn ?_
    refine aw_seq ?_
    refine aw_seq ?_
    refine aw_region ?_
    refine g_u (s_as_imm rfl rfl) ?_
    refine g_nil ?_
    refine normal_thn ?_
    refine aw_block ?_
    refine aw_loop' (fun i : Nat => [(1, .ptr 1001 0), (1001, .box 24 (.imm (batchAv b))), (2, .ptr 1002 0), (1002, .box 33 (.imm z33)), (3, .imm (iv (i : Int)))]) (fun i => i ≤ b.length ∧ ressF 0 b = ressF i (b.drop i)) (fun i => b.length - i) (0) ?_ ⟨rfl, rfl, rfl, rfl, rfl, trivial⟩ ?_
    · exact ⟨Nat.zero_le _, rfl⟩
    · rintro i ⟨h1, h2⟩; (try dsimp only at h1 h2)
      refine aw_seq ?_
      refine aw_seq ?_
      refine aw_region ?_
      refine g_u (s_mv_imm rfl rfl) ?_
      refine g_u (s_fieldAddr rfl rfl fa24_0 rfl) ?_
      refine g_u (s_load_imm rfl rfl rfl tA22 tS22 rfl rfl) ?_
      refine g_u (s_lenL rfl rfl Tryz.underlying22) ?_
      refine g_u (s_ltI rfl rfl rfl) ?_
      refine g_nil ?_
      refine normal_thn ?_
      refine aw_cond rfl (fun hb2 => ?_) (fun hb2 => ?_)
      · skip
        have hi : i < b.length := by have := of_decide_eq_true hb2; (try simp only [List.length_map] at this); omega
        have hrm := hf.2 _ (nthR_mem hi)
        have hro := ho _ (nthR_mem hi)
        refine aw_skip ?_
        refine normal_thn ?_
        refine aw_seq ?_
        refine aw_block ?_
        refine aw_seq ?_
        refine aw_draw mixed ?_
        refine g_u (s_fieldAddr rfl rfl fa24_0 rfl) ?_
        refine g_u (s_load_imm rfl rfl rfl tA22 tS22 rfl rfl) ?_
        refine g_u (s_mv_imm rfl rfl) ?_
        refine g_u (s_indexAddr rfl rfl rfl Tryz.underlying22 tS58 (by omega) (ixR hi)) ?_
        refine g_u (s_load_cp rfl rfl tA58 tS58 rfl rfl) ?_
        refine g_u (s_mv_imm rfl rfl) ?_
        refine g_u (s_call1 (rpart_c kRes i (by decide) (by omega)) rfl rfl) ?_
        refine g_u (s_call1 (rres30_c (nthR b i) (partM kRes i) hro hrm) rfl rfl) ?_
        refine g_uG (s_alloc' 1004 rfl rfl rfl tZ33) rfl ?_
        refine g_u (s_store_imm rfl rfl rfl tS33 rfl rfl) ?_
        refine g_nil ⟨by kernel_rfl, ?_⟩
        refine normal_thn ?_
        refine aw_seq ?_
        refine aw_region ?_
        refine g_u (s_fieldAddr rfl rfl fa33_0 rfl) ?_
        refine g_u (s_load_imm rfl rfl rfl tA30 tS30 rfl rfl) ?_
        refine g_u (s_neI rfl rfl rfl) ?_
        refine g_nil ?_
        refine normal_thn ?_
        refine aw_cond rfl (fun hb3 => ?_) (fun hb3 => ?_)
        · skip
          have hz : (resF (nthR b i)).1 ≠ 0 := by have e := bne_iff_ne.1 hb3; rw [upF_code] at e; exact e
          refine aw_seq ?_
          refine aw_region ?_
          refine g_u (s_load_agg rfl rfl rfl tA33 tS33 rfl rfl) ?_
          refine g_u (s_store_imm rfl rfl rfl tS33 rfl rfl) ?_
          refine g_nil ?_
          refine normal_thn ?_
          refine aw_ret ?_
          refine ret_blk ?_
          refine ret_thn ?_
          refine ret_thn ?_
          refine ret_blk ?_
          refine ret_thn ?_
          exact ⟨[_], ⟨⟨_, _, _, _, _, _, _, rfl, rfl, tA33, tS33, rfl, rfl, rfl⟩, trivial⟩, ⟨(by first | exact flN (ck1 q1) | exact flU (ck2 q1 h2 hi hz) | exact flN (ck3 q1 hall q3) | exact flN (ck4 q1 hall q3 q4) | exact flE (ck5 q1 hall q3 q4)), trivial⟩⟩
        · skip
          have hz : (resF (nthR b i)).1 = 0 := by have e := bne_eq_false_iff_eq.1 hb3; rw [upF_code] at e; exact e
          refine aw_skip ?_
          refine normal_blk ?_
          refine normal_thn ?_
          refine aw_region ?_
          refine g_u (s_mv_imm rfl rfl) ?_
          refine g_u (s_add rfl rfl rfl) ?_
          refine g_u (s_as_imm rfl rfl) ?_
          refine g_nil ?_
          refine normal_thn ?_
          refine ⟨i + 1, ⟨hi, by (try dsimp only); rw [h2, ressF_drop hi, if_pos hz]⟩, ⟨rfl, rfl, rfl, rfl, look_int rfl (by rw [wrap64 (by omega) (by omega)]; rfl), trivial⟩, by (try dsimp only); omega⟩
      · skip
        have hin : i = b.length := by have := of_decide_eq_false hb2; (try simp only [List.length_map] at this); omega
        have hall : ressF 0 b = (0, []) := by rw [h2, hin, List.drop_length]; rfl
        refine aw_exit ?_
        refine exit_thn ?_
        refine exit_thn ?_
        refine exit_blk ?_
        refine normal_thn ?_
        refine aw_seq ?_
        refine aw_seq ?_
        refine aw_region ?_
        refine g_u (s_load_imm rfl rfl rfl tA24 tS24 rfl rfl) ?_
        refine g_u (s_call1 (places_c b (by omega)) rfl rfl) ?_
        refine g_u (s_lenL rfl rfl Tryz.underlying77) ?_
        refine g_u (s_gtI rfl rfl rfl) ?_
        refine g_nil ?_
        refine normal_thn ?_
        refine aw_cond rfl (fun hb4 => ?_) (fun hb4 => ?_)
        · skip
          have q3 : 100 < (plR 0 b).length := by have := of_decide_eq_true hb4; (try simp only [List.length_map] at this); omega
          refine aw_seq ?_
          refine aw_region ?_
          refine g_u (s_build rfl tU33 us33 pl33 rfl rfl rfl rfl) ?_
          refine g_u (s_store_imm rfl rfl rfl tS33 rfl rfl) ?_
          refine g_nil ?_
          refine normal_thn ?_
          refine aw_ret ?_
          refine ret_thn ?_
          exact ⟨[_], ⟨⟨_, _, _, _, _, _, _, rfl, rfl, tA33, tS33, rfl, rfl, rfl⟩, trivial⟩, ⟨(by first | exact flN (ck1 q1) | exact flU (ck2 q1 h2 hi hz) | exact flN (ck3 q1 hall q3) | exact flN (ck4 q1 hall q3 q4) | exact flE (ck5 q1 hall q3 q4)), trivial⟩⟩
        · skip
          have q3 : ¬ 100 < (plR 0 b).length := by have := of_decide_eq_false hb4; (try simp only [List.length_map] at this); omega
          refine aw_skip ?_
          refine normal_thn ?_
          refine aw_seq ?_
          refine aw_seq ?_
          refine aw_region ?_
          refine g_u (s_load_imm rfl rfl rfl tA24 tS24 rfl rfl) ?_
          refine g_u (s_call1 (rbatchWX_c b ho hf) rfl rfl) ?_
          refine g_u (s_gtI rfl rfl rfl) ?_
          refine g_nil ?_
          refine normal_thn ?_
          refine aw_cond rfl (fun hb5 => ?_) (fun hb5 => ?_)
          · skip
            have q4 : 65536 < batchW b := by have := of_decide_eq_true hb5; omega
            refine aw_seq ?_
            refine aw_region ?_
            refine g_u (s_build rfl tU33 us33 pl33 rfl rfl rfl rfl) ?_
            refine g_u (s_store_imm rfl rfl rfl tS33 rfl rfl) ?_
            refine g_nil ?_
            refine normal_thn ?_
            refine aw_ret ?_
            refine ret_thn ?_
            exact ⟨[_], ⟨⟨_, _, _, _, _, _, _, rfl, rfl, tA33, tS33, rfl, rfl, rfl⟩, trivial⟩, ⟨(by first | exact flN (ck1 q1) | exact flU (ck2 q1 h2 hi hz) | exact flN (ck3 q1 hall q3) | exact flN (ck4 q1 hall q3 q4) | exact flE (ck5 q1 hall q3 q4)), trivial⟩⟩
          · skip
            have q4 : ¬ 65536 < batchW b := by have := of_decide_eq_false hb5; omega
            refine aw_skip ?_
            refine normal_thn ?_
            refine aw_seq ?_
            refine aw_region ?_
            refine g_u (s_build rfl tU33 us33 pl33 rfl rfl rfl rfl) ?_
            refine g_u (s_store_imm rfl rfl rfl tS33 rfl rfl) ?_
            refine g_nil ?_
            refine normal_thn ?_
            refine aw_ret ?_
            exact ⟨[_], ⟨⟨_, _, _, _, _, _, _, rfl, rfl, tA33, tS33, rfl, rfl, rfl⟩, trivial⟩, ⟨(by first | exact flN (ck1 q1) | exact flU (ck2 q1 h2 hi hz) | exact flN (ck3 q1 hall q3) | exact flN (ck4 q1 hall q3 q4) | exact flE (ck5 q1 hall q3 q4)), trivial⟩⟩

end Go.Proofs

namespace Go.Proofs
open Go Go.Al
set_option maxRecDepth 10000
theorem rspan31_c (b : List GRes) (p : Nat × Nat × Nat) (hp : p ∈ plR 0 b) : PCall Tryz.prog Γ0 43 [batchAv b, plav p] [(spAt b p).av] := by
  have h := rspan28_c b (intP p) (inB_nat hp)
  rw [atS_nat hp] at h; exact h
set_option maxHeartbeats 2000000 in
theorem rof31_c (s : GSpan) : PCall Tryz.prog Γ0 42 [s.av] [(coreS s).av] := by
  refine pcall_of Tryz.func42 rfl Tryz.ntmps42 (by kernel_rfl) rfl fun w0 I0 G0 => ?_
  refine aw_seq ?_
  refine aw_region ?_
  refine g_uG (s_box_imm 1001 rfl rfl rfl rfl) rfl ?_
  refine g_uG (s_alloc' 1002 rfl rfl rfl tZ65) rfl ?_
  refine g_nil ?_
  refine normal_thn ?_
  refine aw_seq ?_
  refine aw_draw mixed ?_
  refine g_u (s_fieldAddr rfl rfl fa52_0 rfl) ?_
  refine g_u (s_load_imm rfl rfl rfl tA42 tS42 rfl rfl) ?_
  refine g_u (s_fieldAddr rfl rfl fa52_1 rfl) ?_
  refine g_u (s_load_imm rfl rfl rfl tA44 tS44 rfl rfl) ?_
  refine g_u (s_fieldAddr rfl rfl fa52_2 rfl) ?_
  refine g_u (s_load_imm rfl rfl rfl tA44 tS44 rfl rfl) ?_
  refine g_u (s_fieldAddr rfl rfl fa52_4 rfl) ?_
  refine g_u (s_load_imm rfl rfl rfl tA9 tS9 rfl rfl) ?_
  refine g_u (s_fieldAddr rfl rfl fa52_6 rfl) ?_
  refine g_u (s_load_imm rfl rfl rfl tA45 tS45 rfl rfl) ?_
  refine g_u (s_fieldAddr rfl rfl fa52_7 rfl) ?_
  refine g_u (s_load_imm rfl rfl rfl tA45 tS45 rfl rfl) ?_
  refine g_u (s_call1 (rbegun_c _ _) rfl rfl) ?_
  refine g_u (s_fieldAddr rfl rfl fa52_6 rfl) ?_
  refine g_u (s_load_imm rfl rfl rfl tA45 tS45 rfl rfl) ?_
  refine g_u (s_fieldAddr rfl rfl fa52_7 rfl) ?_
  refine g_u (s_load_imm rfl rfl rfl tA45 tS45 rfl rfl) ?_
  refine g_u (s_call1 (rlasts_c _ _) rfl rfl) ?_
  refine g_u (s_build rfl tU65 us65 pl65 rfl rfl rfl rfl) ?_
  refine g_u (s_store_imm rfl rfl rfl tS65 rfl rfl) ?_
  refine g_nil ⟨by kernel_rfl, ?_⟩
  refine normal_thn ?_
  refine aw_ret ?_
  exact ⟨⟨_, _, _, _, _, _, _, rfl, rfl, tA65, tS65, rfl, rfl, (rfl : toAV _ = some _).trans (congrArg some (by rfl))⟩, trivial⟩

set_option maxHeartbeats 4000000 in
theorem rcores_c (b : List GRes) (hw : wtB b ≤ 9000000) : PCall Tryz.prog Γ0 20 [batchAv b] [.sl 35 ((coresB b).map GCore.av)] := by
  have hpl := plR_len 0 b
  have qw : wtB b = sumBy GRes.wt b := rfl
  refine pcall_of Tryz.func20 rfl Tryz.ntmps20 (by kernel_rfl) rfl fun w0 I0 G0 => ?_
  refine aw_seq ?_
  refine aw_region ?_
  refine g_uG (s_box_imm 1001 rfl rfl rfl rfl) rfl ?_
  refine g_u (s_as_imm rfl rfl) ?_
  refine g_nil ?_
  refine normal_thn ?_
  refine aw_seq ?_
  refine aw_region ?_
  refine g_u (s_load_imm rfl rfl rfl tA24 tS24 rfl rfl) ?_
  refine g_u (s_call1 (places_c b (by omega)) rfl rfl) ?_
  refine g_u (s_as_imm rfl rfl) ?_
  refine g_nil ?_
  refine normal_thn ?_
  refine aw_seq ?_
  refine aw_region ?_
  refine g_u (s_as_imm rfl rfl) ?_
  refine g_nil ?_
  refine normal_thn ?_
  refine aw_seq ?_
  refine aw_seq ?_
  refine aw_newtok 3004 4 35 rfl rfl rfl rfl ?_
  refine aw_region ?_
  refine g_u (s_as_imm rfl rfl) ?_
  refine g_nil ?_
  refine normal_thn ?_
  refine aw_block ?_
  refine aw_loop' (fun i : Nat => [(1, .ptr 1001 0), (1001, .box 24 (.imm (batchAv b))), (3, .imm (.sl 3 ((plR 0 b).map plav))), (4, .slg 3004 35 (((plR 0 b).take i).map fun p => (coreS (spAt b p)).av)), (3004, .tok 35 (((plR 0 b).take i).map fun p => (coreS (spAt b p)).av)), (5, .imm (iv (i : Int)))]) (fun i => i ≤ (plR 0 b).length) (fun i => (plR 0 b).length - i) (0) ?_ ⟨rfl, rfl, rfl, rfl, rfl, rfl, trivial⟩ ?_
  · exact Nat.zero_le _
  · rintro i h1; have h1 : i ≤ (plR 0 b).length := h1
    refine aw_seq ?_
    refine aw_seq ?_
    refine aw_region ?_
    refine g_u (s_mv_imm rfl rfl) ?_
    refine g_u (s_mv_imm rfl rfl) ?_
    refine g_u (s_lenL rfl rfl Tryz.underlying77) ?_
    refine g_u (s_ltI rfl rfl rfl) ?_
    refine g_nil ?_
    refine normal_thn ?_
    refine aw_cond rfl (fun hb1 => ?_) (fun hb1 => ?_)
    · skip
      have hi : i < (plR 0 b).length := by have := of_decide_eq_true hb1; (try simp only [List.length_map] at this); omega
      refine aw_skip ?_
      refine normal_thn ?_
      refine aw_seq ?_
      refine aw_block ?_
      refine aw_draw mixed ?_
      refine g_u (s_mv_slg rfl rfl) ?_
      refine g_u (s_load_imm rfl rfl rfl tA24 tS24 rfl rfl) ?_
      refine g_u (s_mv_imm rfl rfl) ?_
      refine g_u (s_mv_imm rfl rfl) ?_
      refine g_u (s_indexAddr rfl rfl rfl Tryz.underlying77 tS67 (by omega) (ixP hi)) ?_
      refine g_u (s_load_cp rfl rfl tA67 tS67 rfl rfl) ?_
      refine g_u (s_call1 (rspan31_c b (nthP (plR 0 b) i) (nthP_mem hi)) rfl rfl) ?_
      refine g_u (s_call1 (rof31_c _) rfl rfl) ?_
      refine g_u (s_buildSlice (X0 := z65) rfl Tryz.underlying62 tS65 tZ65 rfl rfl rfl rfl rfl rfl rfl rfl) ?_
      refine g_u (s_append rfl rfl rfl rfl rfl Tryz.underlying62 Tryz.underlying62 tS65 zv65 rfl (by decide) by65 (by (try dsimp only); simp only [List.length_append, List.length_cons, List.length_nil, List.length_map, List.length_take]; omega) (by (try dsimp only); simp only [List.length_append, List.length_cons, List.length_nil, List.length_map, List.length_take]; omega)) ?_
      refine g_u (s_as_slg rfl rfl) ?_
      refine g_nil ⟨by kernel_rfl, ?_⟩
      refine normal_blk ?_
      refine normal_thn ?_
      refine aw_region ?_
      refine g_u (s_mv_imm rfl rfl) ?_
      refine g_u (s_add rfl rfl rfl) ?_
      refine g_u (s_as_imm rfl rfl) ?_
      refine g_nil ?_
      refine normal_thn ?_
      have et : (((plR 0 b).take (i + 1)).map fun p => (coreS (spAt b p)).av) = (((plR 0 b).take i).map fun p => (coreS (spAt b p)).av) ++ [(coreS (spAt b (nthP (plR 0 b) i))).av] := by rw [take_snoc (nth_get (d := p00) hi), List.map_append]; rfl
      refine ⟨i + 1, hi, ⟨rfl, rfl, rfl, look_slg rfl et.symm, look_tok rfl et.symm, look_int rfl (by rw [wrap64 (by omega) (by omega)]; rfl), trivial⟩, by (try dsimp only); omega⟩
    · skip
      have hin : i = (plR 0 b).length := by have := of_decide_eq_false hb1; (try simp only [List.length_map] at this); omega
      refine aw_exit ?_
      refine exit_thn ?_
      refine exit_thn ?_
      refine exit_blk ?_
      refine normal_thn ?_
      refine aw_seq ?_
      refine aw_region ?_
      refine g_u (s_mv_slg rfl rfl) ?_
      refine g_u (s_as_slg rfl rfl) ?_
      refine g_nil ?_
      refine normal_thn ?_
      refine aw_ret ?_
      exact ⟨⟨(rfl : toAV (Al.look _ _) = some _).trans (congrArg some (by (rw [hin, List.take_length]; show _ = AV.sl 35 (List.map GCore.av (List.map coreS (allS b))); rw [← allS_eq, List.map_map, List.map_map]; rfl))), rfl⟩, trivial⟩

end Go.Proofs

namespace Go.Proofs
open Go Go.Al

/-! ### What is kept of what may be is not too great to be walked through -/
theorem svc_small {r : GRes} (h : okRs r) : (serviceM r).size ≤ 1024 := (textA_right h.1 skey).2
theorem nj_fit {b : List GRes} (h : (chkF b).1 = 0) (hw : wtB b ≤ 6000) : fitB (njB b) := by
  have hr := chk_ris h
  have ho := (chkF_iff.1 h).2.1
  refine ⟨by have := njB_wt b; omega, fun r hm => ?_⟩
  obtain ⟨x, hx, rfl⟩ := List.mem_map.1 hm
  have h1 := sumBy_mem GRes.wt hx
  have h2 : x.wt = 1 + wtAs x.attrs + sumBy GScope.wt x.scopes := rfl
  have h3 : wtB b = sumBy GRes.wt b := rfl
  have h4 := svc_small (ho x hx)
  have h5 := namedM_wt (keptA [] x.attrs) (serviceM x)
  have h6 := keptA_wt [] x.attrs
  have h7 := spansOf_wt x.scopes
  have h8 := sumBy_map_le2 (f := njS) (g := GSpan.wt) 151 njS_wt (spansOf x.scopes)
  refine ⟨?_, ?_, ?_, fun c hc => ?_⟩
  · show wtAs (namedM (keptA [] x.attrs) (serviceM x)) ≤ _; omega
  · show (scopeJ _).length ≤ _
    unfold scopeJ; split <;> simp
  · rw [service_nj (hr x hx)]; omega
  · have hc : c ∈ scopeJ ((spansOf x.scopes).map njS) := hc
    unfold scopeJ at hc
    split at hc
    · cases List.mem_singleton.1 hc
      show 1 + 0 + 0 + sumBy GSpan.wt ((spansOf x.scopes).map njS) ≤ _
      omega
    · cases hc
def gk0 : GCore := ⟨[], [], [], ⟨#[]⟩, 0, 0⟩
def nthK (l : List GCore) (i : Nat) : GCore := nth l i gk0
theorem ixK {l : List GCore} {i : Nat} (h : i < l.length) : (l.map GCore.av)[((i : Nat) : Int).toNat]? = some (nthK l i).av := nth_map (d := gk0) h
end Go.Proofs

