/- Texts that the proofs of this claim share, part 6: the abstract logic, plain Lean on values and batches, and walks. No condition but those typed in each lemma. -/
import Derived.Maps.RangeRun
import Derived.Sort.OwnSorted
import Derived.RangeFuncLeaves
import Derived.RangeFuncRecord
import Derived.RangeFuncSeq
import Derived.Stop.Asserts
import Derived.Laws.Externs
import Derived.Test.YtiolofgnkkhjoaaGreatDoorP5
set_option linter.unusedSimpArgs false
set_option linter.unusedVariables false
set_option maxHeartbeats 400000
namespace Go.Proofs
open Go Go.Al
set_option maxRecDepth 10000
theorem rgCheck_c (r : Rg) : zs Tryz.prog Γ0 140 [r.av] [iv (xi r)] := by
  refine zd Tryz.func140 rfl Tryz.ntmps140 (by kernel_rfl) rfl fun w0 I0 G0 => ?_
  refine zD <| zB <| g_uG (zp 1001 rfl rfl rfl rfl) rfl <| g_u (zE rfl rfl) <| zF <| zA <| zD <| zD <| zB <| g_u (zG rfl rfl fa105_1 rfl) <| g_u (zH rfl rfl rfl tA57 tS57 rfl rfl) <| g_u (xu rfl rfl rfl) <| g_u (zC rfl rfl) <| yP (t := 6) rfl ?_
  rintro (hb1 | hb1)
  · rw [hb1]
    refine zP rfl rfl rfl <| zP rfl rfl rfl <| zP rfl rfl rfl <| zP rfl rfl rfl <| zP rfl rfl rfl <| g_u (zk rfl rfl rfl) <| zF <| zA <| zy rfl <| zD <| zB <| g_u (zE rfl rfl) <| zF <| zA <| zM <| zL ?_
    exact ⟨⟨(rfl : toAV (Al.look _ _) = some _).trans (congrArg some (by (simp only [decide_eq_true_eq, decide_eq_false_iff_not, qc, ne_eq, beq_iff_eq, qd, beq_eq_false_iff_ne] at *; simp only [iv, xi]; first | rw [if_pos (by omega)] | rw [if_neg (by omega)]))), rfl⟩, trivial⟩
  · rw [hb1]
    refine zf rfl rfl (zG rfl rfl fa105_0 rfl) <| zf rfl rfl (zH rfl rfl rfl tA57 tS57 rfl rfl) <| zf rfl rfl (zG rfl rfl fa105_1 rfl) <| zf rfl rfl (zH rfl rfl rfl tA57 tS57 rfl rfl) <| zf rfl rfl (xu rfl rfl rfl) <| g_u (zr rfl rfl rfl) <| zF <| zA ?_
    refine zN rfl (fun hb2 => ?_) (fun hb2 => ?_)
    · refine zD ?_
      refine zB <| g_u (zE rfl rfl) <| zF <| zA <| zM <| zL ?_
      exact ⟨⟨(rfl : toAV (Al.look _ _) = some _).trans (congrArg some (by (simp only [decide_eq_true_eq, decide_eq_false_iff_not, qc, ne_eq, beq_iff_eq, qd, beq_eq_false_iff_ne] at *; simp only [iv, xi]; first | rw [if_pos (by omega)] | rw [if_neg (by omega)]))), rfl⟩, trivial⟩
    · refine zO ?_
      refine zA <| zD <| zB <| g_u (zE rfl rfl) <| zF <| zA <| zM ?_
      exact ⟨⟨(rfl : toAV (Al.look _ _) = some _).trans (congrArg some (by (simp only [decide_eq_true_eq, decide_eq_false_iff_not, qc, ne_eq, beq_iff_eq, qd, beq_eq_false_iff_ne] at *; simp only [iv, xi]; first | rw [if_pos (by omega)] | rw [if_neg (by omega)]))), rfl⟩, trivial⟩
theorem begun_c (r : Rg) : zs Tryz.prog Γ0 115 [r.av] [uv (begunM r)] := by
  refine zd Tryz.func115 rfl Tryz.ntmps115 (by kernel_rfl) rfl fun w0 I0 G0 => ?_
  refine zD <| zB <| g_uG (zp 1001 rfl rfl rfl rfl) rfl <| g_u (zE rfl rfl) <| zF <| zA <| zD <| zB <| g_u (zG rfl rfl fa105_0 rfl) <| g_u (zH rfl rfl rfl tA57 tS57 rfl rfl) ?_
  refine g_u (s_quo rfl rfl rfl (by first | decide | omega | (((try simp only [decide_eq_true_eq, decide_eq_false_iff_not, qc, ne_eq, beq_iff_eq, qd, beq_eq_false_iff_ne, Bool.not_eq_true', Bool.not_eq_false', gt_iff_lt, ge_iff_le] at *); (repeat simp (disch := omega) only [zK, za] at *)); omega))) ?_
  refine g_u (zE rfl rfl) <| zF <| zA <| zM ?_
  exact ⟨⟨(rfl : toAV (Al.look _ _) = some _).trans (congrArg some (by rfl)), rfl⟩, trivial⟩
theorem lasts_c (r : Rg) : zs Tryz.prog Γ0 116 [r.av] [uv (lastsM r)] := by
  refine zd Tryz.func116 rfl Tryz.ntmps116 (by kernel_rfl) rfl fun w0 I0 G0 => ?_
  refine zD <| zB <| g_uG (zp 1001 rfl rfl rfl rfl) rfl <| g_u (zE rfl rfl) <| zF <| zA <| zD <| zB <| g_u (zG rfl rfl fa105_1 rfl) <| g_u (zH rfl rfl rfl tA57 tS57 rfl rfl) <| g_u (zG rfl rfl fa105_0 rfl) <| g_u (zH rfl rfl rfl tA57 tS57 rfl rfl) <| g_u (vB rfl rfl rfl) ?_
  refine g_u (s_quo rfl rfl rfl (by first | decide | omega | (((try simp only [decide_eq_true_eq, decide_eq_false_iff_not, qc, ne_eq, beq_iff_eq, qd, beq_eq_false_iff_ne, Bool.not_eq_true', Bool.not_eq_false', gt_iff_lt, ge_iff_le] at *); (repeat simp (disch := omega) only [zK, za] at *)); omega))) ?_
  refine g_u (zE rfl rfl) <| zF <| zA <| zM ?_
  exact ⟨⟨(rfl : toAV (Al.look _ _) = some _).trans (congrArg some (by rfl)), rfl⟩, trivial⟩
theorem micros_c (r : Rg) (f : Nat) (m : Int) (hf : zs Tryz.prog Γ0 f [r.av] [uv m]) : zs Tryz.prog Γ0 114 [r.av, .fn (.func f) [] []] [iv (microsM m r)] := by
  refine zd Tryz.func114 rfl Tryz.ntmps114 (by kernel_rfl) rfl fun w0 I0 G0 => ?_
  refine zD <| zB <| g_uG (zp 1002 rfl rfl rfl rfl) rfl <| g_u (zE rfl rfl) <| zF <| zA <| zD <| zD <| zB <| g_u (zH rfl rfl rfl tA105 tS105 rfl rfl) <| g_u (zQ (rgCheck_c ⟨_, _⟩) rfl rfl) <| g_u (wv rfl rfl rfl) <| zF <| zA ?_
  refine zN rfl (fun hb1 => ?_) (fun hb1 => ?_)
  · refine zD ?_
    refine zB <| g_u (zE rfl rfl) <| zF <| zA <| zM <| zL ?_
    exact ⟨⟨(rfl : toAV (Al.look _ _) = some _).trans (congrArg some (by (simp only [decide_eq_true_eq, decide_eq_false_iff_not, qc, ne_eq, beq_iff_eq, qd, beq_eq_false_iff_ne] at *; simp only [iv, microsM]; first | rw [if_pos (by omega)] | rw [if_neg (by omega)]))), rfl⟩, trivial⟩
  · refine zO ?_
    refine zA <| zD <| zB <| g_u (zC rfl rfl) <| g_u (zH rfl rfl rfl tA105 tS105 rfl rfl) <| g_u (s_callv1 (hf) rfl rfl rfl) <| g_u (xG rfl rfl Tryz.underlying57 Tryz.underlying3) <| g_u (zE rfl rfl) <| zF <| zA <| zM ?_
    exact ⟨⟨(rfl : toAV (Al.look _ _) = some _).trans (congrArg some (by (simp only [decide_eq_true_eq, decide_eq_false_iff_not, qc, ne_eq, beq_iff_eq, qd, beq_eq_false_iff_ne] at *; simp only [iv, microsM]; first | rw [if_pos (by omega)] | rw [if_neg (by omega)]))), rfl⟩, trivial⟩
theorem Begun_c (r : Rg) : zs Tryz.prog Γ0 80 [r.av] [iv (BegunM r)] := by
  refine zd Tryz.func80 rfl Tryz.ntmps80 (by kernel_rfl) rfl fun w0 I0 G0 => ?_
  refine zD <| zB <| g_uG (zp 1001 rfl rfl rfl rfl) rfl <| g_u (zE rfl rfl) <| zF <| zA <| zD <| zB <| g_u (zH rfl rfl rfl tA105 tS105 rfl rfl) <| g_u (zQ (micros_c _ _ _ (begun_c _)) rfl rfl) <| g_u (zE rfl rfl) <| zF <| zA <| zM ?_
  exact ⟨⟨(rfl : toAV (Al.look _ _) = some _).trans (congrArg some (by rfl)), rfl⟩, trivial⟩
theorem Lasts_c (r : Rg) : zs Tryz.prog Γ0 81 [r.av] [iv (LastsM r)] := by
  refine zd Tryz.func81 rfl Tryz.ntmps81 (by kernel_rfl) rfl fun w0 I0 G0 => ?_
  refine zD <| zB <| g_uG (zp 1001 rfl rfl rfl rfl) rfl <| g_u (zE rfl rfl) <| zF <| zA <| zD <| zB <| g_u (zH rfl rfl rfl tA105 tS105 rfl rfl) <| g_u (zQ (micros_c _ _ _ (lasts_c _)) rfl rfl) <| g_u (zE rfl rfl) <| zF <| zA <| zM ?_
  exact ⟨⟨(rfl : toAV (Al.look _ _) = some _).trans (congrArg some (by rfl)), rfl⟩, trivial⟩
theorem nano_c (us : Int) : zs Tryz.prog Γ0 85 [iv us] [uv (nanoV us), iv (nanoC us)] := by
  refine zd Tryz.func85 rfl Tryz.ntmps85 (by kernel_rfl) rfl fun w0 I0 G0 => ?_
  refine zD <| zB <| g_u (zE rfl rfl) <| g_u (zE rfl rfl) <| zF <| zA <| zD <| zD <| zB <| g_u (zC rfl rfl) <| g_u (y_ rfl rfl rfl) <| g_u (zC rfl rfl) <| yP (t := 6) rfl ?_
  rintro (hb1 | hb1)
  · rw [hb1]
    refine zP rfl rfl rfl <| zP rfl rfl rfl <| g_u (zk rfl rfl rfl) <| zF <| zA <| zy rfl <| zD <| zB <| g_u (zE rfl rfl) <| g_u (zE rfl rfl) <| zF <| zA <| zM <| zL ?_
    exact ⟨⟨(rfl : toAV (Al.look _ _) = some _).trans (congrArg some (by (simp only [decide_eq_true_eq, decide_eq_false_iff_not, qc, ne_eq, beq_iff_eq, qd, beq_eq_false_iff_ne] at *; simp only [iv, uv, nanoV, nanoC, rNanoV]; first | rw [if_pos (by omega)] | rw [if_neg (by omega)]))), rfl⟩, ⟨(rfl : toAV (Al.look _ _) = some _).trans (congrArg some (by (simp only [decide_eq_true_eq, decide_eq_false_iff_not, qc, ne_eq, beq_iff_eq, qd, beq_eq_false_iff_ne] at *; simp only [iv, uv, nanoV, nanoC, rNanoV]; first | rw [if_pos (by omega)] | rw [if_neg (by omega)]))), rfl⟩, trivial⟩
  · rw [hb1]
    refine zf rfl rfl (zC rfl rfl) <| zf rfl rfl (xu rfl rfl rfl) <| g_u (zr rfl rfl rfl) <| zF <| zA ?_
    refine zN rfl (fun hb2 => ?_) (fun hb2 => ?_)
    · refine zD ?_
      refine zB <| g_u (zE rfl rfl) <| g_u (zE rfl rfl) <| zF <| zA <| zM <| zL ?_
      exact ⟨⟨(rfl : toAV (Al.look _ _) = some _).trans (congrArg some (by (simp only [decide_eq_true_eq, decide_eq_false_iff_not, qc, ne_eq, beq_iff_eq, qd, beq_eq_false_iff_ne] at *; simp only [iv, uv, nanoV, nanoC, rNanoV]; first | rw [if_pos (by omega)] | rw [if_neg (by omega)]))), rfl⟩, ⟨(rfl : toAV (Al.look _ _) = some _).trans (congrArg some (by (simp only [decide_eq_true_eq, decide_eq_false_iff_not, qc, ne_eq, beq_iff_eq, qd, beq_eq_false_iff_ne] at *; simp only [iv, uv, nanoV, nanoC, rNanoV]; first | rw [if_pos (by omega)] | rw [if_neg (by omega)]))), rfl⟩, trivial⟩
    · refine zO ?_
      refine zA <| zD <| zB <| g_u (zC rfl rfl) <| g_u (xG rfl rfl Tryz.underlying3 Tryz.underlying57) <| g_u (s_mul rfl rfl rfl) <| g_u (zE rfl rfl) <| g_u (zE rfl rfl) <| zF <| zA <| zM ?_
      exact ⟨⟨(rfl : toAV (Al.look _ _) = some _).trans (congrArg some (by (simp only [decide_eq_true_eq, decide_eq_false_iff_not, qc, ne_eq, beq_iff_eq, qd, beq_eq_false_iff_ne] at *; simp only [iv, uv, nanoV, nanoC, rNanoV]; first | rw [if_pos (by omega)] | rw [if_neg (by omega)]))), rfl⟩, ⟨(rfl : toAV (Al.look _ _) = some _).trans (congrArg some (by (simp only [decide_eq_true_eq, decide_eq_false_iff_not, qc, ne_eq, beq_iff_eq, qd, beq_eq_false_iff_ne] at *; simp only [iv, uv, nanoV, nanoC, rNanoV]; first | rw [if_pos (by omega)] | rw [if_neg (by omega)]))), rfl⟩, trivial⟩
theorem micro_c (ns : Int) : zs Tryz.prog Γ0 86 [uv ns] [iv (microM ns)] := by
  refine zd Tryz.func86 rfl Tryz.ntmps86 (by kernel_rfl) rfl fun w0 I0 G0 => ?_
  refine zD <| zB <| g_u (zE rfl rfl) <| zF <| zA <| zD <| zB <| g_u (zC rfl rfl) ?_
  refine g_u (s_quo rfl rfl rfl (by first | decide | omega | (((try simp only [decide_eq_true_eq, decide_eq_false_iff_not, qc, ne_eq, beq_iff_eq, qd, beq_eq_false_iff_ne, Bool.not_eq_true', Bool.not_eq_false', gt_iff_lt, ge_iff_le] at *); (repeat simp (disch := omega) only [zK, za] at *)); omega))) ?_
  refine g_u (xG rfl rfl Tryz.underlying57 Tryz.underlying3) <| g_u (zE rfl rfl) <| zF <| zA <| zM ?_
  exact ⟨⟨(rfl : toAV (Al.look _ _) = some _).trans (congrArg some (by rfl)), rfl⟩, trivial⟩
theorem rmicro_c (ns : Int) : zs Tryz.prog Γ0 123 [uv ns] [iv (microM ns)] := by
  refine zd Tryz.func123 rfl Tryz.ntmps123 (by kernel_rfl) rfl fun w0 I0 G0 => ?_
  refine zD <| zB <| g_u (zE rfl rfl) <| zF <| zA <| zD <| zB <| g_u (zC rfl rfl) ?_
  refine g_u (s_quo rfl rfl rfl (by first | decide | omega | (((try simp only [decide_eq_true_eq, decide_eq_false_iff_not, qc, ne_eq, beq_iff_eq, qd, beq_eq_false_iff_ne, Bool.not_eq_true', Bool.not_eq_false', gt_iff_lt, ge_iff_le] at *); (repeat simp (disch := omega) only [zK, za] at *)); omega))) ?_
  refine g_u (xG rfl rfl Tryz.underlying57 Tryz.underlying3) <| g_u (zE rfl rfl) <| zF <| zA <| zM ?_
  exact ⟨⟨(rfl : toAV (Al.look _ _) = some _).trans (congrArg some (by rfl)), rfl⟩, trivial⟩
theorem of_c (b l : Int) : zs Tryz.prog Γ0 79 [iv b, iv l] [(ofR b l).av, iv (ofC b l)] := by
  refine zd Tryz.func79 rfl Tryz.ntmps79 (by kernel_rfl) rfl fun w0 I0 G0 => ?_
  refine zD <| zB <| g_uG (yR 1004 rfl rfl rfl tZ105) rfl <| g_u (zE rfl rfl) <| zF <| zA <| zD <| zB <| g_u (zC rfl rfl) <| g_u (s_call2 (nano_c _) rfl rfl) <| g_u (wa rfl rfl) <| g_u (zl rfl rfl rfl rfl) <| g_u (zl rfl rfl rfl rfl) <| g_u (zE rfl rfl) <| g_u (zE rfl rfl) <| zF <| zA <| zD <| zB <| g_u (zC rfl rfl) <| g_u (s_call2 (nano_c _) rfl rfl) <| g_u (wa rfl rfl) <| g_u (zl rfl rfl rfl rfl) <| g_u (zl rfl rfl rfl rfl) <| g_u (zE rfl rfl) <| g_u (zE rfl rfl) <| zF <| zA <| zD <| zD <| zB <| g_u (zC rfl rfl) <| g_u (wv rfl rfl rfl) <| g_u (zC rfl rfl) <| yP (t := 22) rfl ?_
  rintro (hb1 | hb1)
  · rw [hb1]
    refine zP rfl rfl rfl <| zP rfl rfl rfl <| g_u (zk rfl rfl rfl) <| g_u (zC rfl rfl) <| zP rfl rfl rfl <| zP rfl rfl rfl <| zP rfl rfl rfl <| zP rfl rfl rfl <| g_u (zk rfl rfl rfl) <| zF <| zA <| zy rfl <| zD <| zB <| g_u (yh rfl tU105 us105 pl105 rfl rfl rfl rfl) <| g_u (zg rfl rfl rfl tS105 rfl rfl) <| g_u (zE rfl rfl) <| zF <| zA <| zM <| zL ?_
    exact ⟨⟨_, _, _, _, _, _, _, rfl, rfl, tA105, tS105, rfl, rfl, (rfl : toAV _ = some _).trans (congrArg some (by (simp only [decide_eq_true_eq, decide_eq_false_iff_not, qc, ne_eq, beq_iff_eq, qd, beq_eq_false_iff_ne] at *; simp only [iv, uv, Rg.av, ofR, ofC, rOfA, rOfB, rOfC]; first | (rw [if_pos (by unfold ofBad; omega)]; first | done | rfl) | (rw [if_neg (by unfold ofBad; omega)]; first | done | rfl) | (rw [if_pos (by unfold rBad; omega)]; first | done | rfl) | (rw [if_neg (by unfold rBad; omega)]; first | done | rfl))))⟩, ⟨(rfl : toAV (Al.look _ _) = some _).trans (congrArg some (by (simp only [decide_eq_true_eq, decide_eq_false_iff_not, qc, ne_eq, beq_iff_eq, qd, beq_eq_false_iff_ne] at *; simp only [iv, uv, Rg.av, ofR, ofC, rOfA, rOfB, rOfC]; first | (rw [if_pos (by unfold ofBad; omega)]; first | done | rfl) | (rw [if_neg (by unfold ofBad; omega)]; first | done | rfl) | (rw [if_pos (by unfold rBad; omega)]; first | done | rfl) | (rw [if_neg (by unfold rBad; omega)]; first | done | rfl)))), rfl⟩, trivial⟩
  · rw [hb1]
    refine zf rfl rfl (zC rfl rfl) <| zf rfl rfl (wv rfl rfl rfl) <| g_u (zr rfl rfl rfl) <| g_u (zC rfl rfl) <| yP (t := 26) rfl ?_
    rintro (hb2 | hb2)
    · rw [hb2]
      refine zP rfl rfl rfl <| zP rfl rfl rfl <| zP rfl rfl rfl <| zP rfl rfl rfl <| g_u (zk rfl rfl rfl) <| zF <| zA <| zy rfl <| zD <| zB <| g_u (yh rfl tU105 us105 pl105 rfl rfl rfl rfl) <| g_u (zg rfl rfl rfl tS105 rfl rfl) <| g_u (zE rfl rfl) <| zF <| zA <| zM <| zL ?_
      exact ⟨⟨_, _, _, _, _, _, _, rfl, rfl, tA105, tS105, rfl, rfl, (rfl : toAV _ = some _).trans (congrArg some (by (simp only [decide_eq_true_eq, decide_eq_false_iff_not, qc, ne_eq, beq_iff_eq, qd, beq_eq_false_iff_ne] at *; simp only [iv, uv, Rg.av, ofR, ofC, rOfA, rOfB, rOfC]; first | (rw [if_pos (by unfold ofBad; omega)]; first | done | rfl) | (rw [if_neg (by unfold ofBad; omega)]; first | done | rfl) | (rw [if_pos (by unfold rBad; omega)]; first | done | rfl) | (rw [if_neg (by unfold rBad; omega)]; first | done | rfl))))⟩, ⟨(rfl : toAV (Al.look _ _) = some _).trans (congrArg some (by (simp only [decide_eq_true_eq, decide_eq_false_iff_not, qc, ne_eq, beq_iff_eq, qd, beq_eq_false_iff_ne] at *; simp only [iv, uv, Rg.av, ofR, ofC, rOfA, rOfB, rOfC]; first | (rw [if_pos (by unfold ofBad; omega)]; first | done | rfl) | (rw [if_neg (by unfold ofBad; omega)]; first | done | rfl) | (rw [if_pos (by unfold rBad; omega)]; first | done | rfl) | (rw [if_neg (by unfold rBad; omega)]; first | done | rfl)))), rfl⟩, trivial⟩
    · rw [hb2]
      refine zf rfl rfl (zC rfl rfl) <| zf rfl rfl (zC rfl rfl) <| zf rfl rfl (vB rfl rfl rfl) <| zf rfl rfl (xu rfl rfl rfl) <| g_u (zr rfl rfl rfl) <| zF <| zA ?_
      refine zN rfl (fun hb3 => ?_) (fun hb3 => ?_)
      · refine zD ?_
        refine zB <| g_u (yh rfl tU105 us105 pl105 rfl rfl rfl rfl) <| g_u (zg rfl rfl rfl tS105 rfl rfl) <| g_u (zE rfl rfl) <| zF <| zA <| zM <| zL ?_
        exact ⟨⟨_, _, _, _, _, _, _, rfl, rfl, tA105, tS105, rfl, rfl, (rfl : toAV _ = some _).trans (congrArg some (by (simp only [decide_eq_true_eq, decide_eq_false_iff_not, qc, ne_eq, beq_iff_eq, qd, beq_eq_false_iff_ne] at *; simp only [iv, uv, Rg.av, ofR, ofC, rOfA, rOfB, rOfC]; first | (rw [if_pos (by unfold ofBad; omega)]; first | done | rfl) | (rw [if_neg (by unfold ofBad; omega)]; first | done | rfl) | (rw [if_pos (by unfold rBad; omega)]; first | done | rfl) | (rw [if_neg (by unfold rBad; omega)]; first | done | rfl))))⟩, ⟨(rfl : toAV (Al.look _ _) = some _).trans (congrArg some (by (simp only [decide_eq_true_eq, decide_eq_false_iff_not, qc, ne_eq, beq_iff_eq, qd, beq_eq_false_iff_ne] at *; simp only [iv, uv, Rg.av, ofR, ofC, rOfA, rOfB, rOfC]; first | (rw [if_pos (by unfold ofBad; omega)]; first | done | rfl) | (rw [if_neg (by unfold ofBad; omega)]; first | done | rfl) | (rw [if_pos (by unfold rBad; omega)]; first | done | rfl) | (rw [if_neg (by unfold rBad; omega)]; first | done | rfl)))), rfl⟩, trivial⟩
      · refine zO ?_
        refine zA <| zD <| zB <| g_u (zC rfl rfl) <| g_u (zC rfl rfl) <| g_u (zC rfl rfl) <| g_u (zz rfl rfl rfl) <| g_u (yh rfl tU105 us105 pl105 rfl rfl rfl rfl) <| g_u (zg rfl rfl rfl tS105 rfl rfl) <| g_u (zE rfl rfl) <| zF <| zA <| zM ?_
        exact ⟨⟨_, _, _, _, _, _, _, rfl, rfl, tA105, tS105, rfl, rfl, (rfl : toAV _ = some _).trans (congrArg some (by (simp only [decide_eq_true_eq, decide_eq_false_iff_not, qc, ne_eq, beq_iff_eq, qd, beq_eq_false_iff_ne] at *; simp only [iv, uv, Rg.av, ofR, ofC, rOfA, rOfB, rOfC]; first | (rw [if_pos (by unfold ofBad; omega)]; first | done | rfl) | (rw [if_neg (by unfold ofBad; omega)]; first | done | rfl) | (rw [if_pos (by unfold rBad; omega)]; first | done | rfl) | (rw [if_neg (by unfold rBad; omega)]; first | done | rfl))))⟩, ⟨(rfl : toAV (Al.look _ _) = some _).trans (congrArg some (by (simp only [decide_eq_true_eq, decide_eq_false_iff_not, qc, ne_eq, beq_iff_eq, qd, beq_eq_false_iff_ne] at *; simp only [iv, uv, Rg.av, ofR, ofC, rOfA, rOfB, rOfC]; first | (rw [if_pos (by unfold ofBad; omega)]; first | done | rfl) | (rw [if_neg (by unfold ofBad; omega)]; first | done | rfl) | (rw [if_pos (by unfold rBad; omega)]; first | done | rfl) | (rw [if_neg (by unfold rBad; omega)]; first | done | rfl)))), rfl⟩, trivial⟩
theorem whole_c (r : Rg) : zs Tryz.prog Γ0 50 [r.av] [(wP r).av] := by
  refine zd Tryz.func50 rfl Tryz.ntmps50 (by kernel_rfl) rfl fun w0 I0 G0 => ?_
  refine zD <| zB <| g_uG (zp 1001 rfl rfl rfl rfl) rfl <| g_uG (yR 1002 rfl rfl rfl tZ105) rfl <| zF <| zA <| zD <| yX xb <| g_u (zH rfl rfl rfl tA105 tS105 rfl rfl) <| g_u (zQ (Begun_c _) rfl rfl) <| g_u (zH rfl rfl rfl tA105 tS105 rfl rfl) <| g_u (zQ (Lasts_c _) rfl rfl) <| g_u (s_call2 (of_c _ _) rfl rfl) <| g_u (wa rfl rfl) <| g_u (zl rfl rfl rfl rfl) <| g_u (zl rfl rfl rfl rfl) <| g_uG (yR 1003 rfl rfl rfl tZ105) rfl <| g_u (zg rfl rfl rfl tS105 rfl rfl) <| g_u (zE rfl rfl) ?_
  refine zF ⟨by kernel_rfl, ?_⟩
  refine zA <| zD <| zB <| g_u (yn rfl rfl rfl tA105 tS105 rfl rfl) <| g_u (zg rfl rfl rfl tS105 rfl rfl) <| zF <| zA <| zM ?_
  exact ⟨⟨_, _, _, _, _, _, _, rfl, rfl, tA105, tS105, rfl, rfl, (rfl : toAV _ = some _).trans (congrArg some (by rfl))⟩, trivial⟩
attribute [local irreducible] wP ofR
theorem rfine_c (s e : Int) : zs Tryz.prog Γ0 110 [uv s, uv e] [bv (rFine s e)] := by
  refine zd Tryz.func110 rfl Tryz.ntmps110 (by kernel_rfl) rfl fun w0 I0 G0 => ?_
  refine zD <| zB <| g_u (zE rfl rfl) <| zF <| zA <| zD <| zB <| g_u (zC rfl rfl) <| g_u (zC rfl rfl) <| g_u (s_leI rfl rfl rfl) <| g_u (zC rfl rfl) <| yP (t := 8) rfl ?_
  rintro (hb1 | hb1)
  · rw [hb1]
    refine zf rfl rfl (zC rfl rfl) <| zf rfl rfl (s_leI rfl rfl rfl) <| g_u (zk rfl rfl rfl) <| g_u (zE rfl rfl) <| zF <| zA <| zM ?_
    exact ⟨⟨(rfl : toAV (Al.look _ _) = some _).trans (congrArg some (by (simp only [bv, rFine, *]; rfl))), rfl⟩, trivial⟩
  · rw [hb1]
    refine zP rfl rfl rfl <| zP rfl rfl rfl <| g_u (zr rfl rfl rfl) <| g_u (zE rfl rfl) <| zF <| zA <| zM ?_
    exact ⟨⟨(rfl : toAV (Al.look _ _) = some _).trans (congrArg some (by (simp only [bv, rFine, *]; rfl))), rfl⟩, trivial⟩
theorem rbegun_c (s e : Int) : zs Tryz.prog Γ0 91 [uv s, uv e] [iv (rBegun s e)] := by
  refine zd Tryz.func91 rfl Tryz.ntmps91 (by kernel_rfl) rfl fun w0 I0 G0 => ?_
  refine zD <| zB <| g_u (zE rfl rfl) <| zF <| zA <| zD <| zD <| zB <| g_u (zC rfl rfl) <| g_u (zC rfl rfl) <| g_u (zQ (rfine_c _ _) rfl rfl) <| g_u (s_not rfl rfl) <| zF <| zA ?_
  refine zN rfl (fun hb1 => ?_) (fun hb1 => ?_)
  · refine zD ?_
    refine zB <| g_u (zE rfl rfl) <| zF <| zA <| zM <| zL ?_
    exact ⟨⟨(rfl : toAV (Al.look _ _) = some _).trans (congrArg some (by (simp only [iv, rBegun, rLasts]; simp only [Bool.not_eq_true', Bool.not_eq_false'] at *; simp only [*]; rfl))), rfl⟩, trivial⟩
  · refine zO ?_
    refine zA <| zD <| zB <| g_u (zC rfl rfl) <| g_u (zQ (rmicro_c _) rfl rfl) <| g_u (zE rfl rfl) <| zF <| zA <| zM ?_
    exact ⟨⟨(rfl : toAV (Al.look _ _) = some _).trans (congrArg some (by (simp only [iv, rBegun, rLasts]; simp only [Bool.not_eq_true', Bool.not_eq_false'] at *; simp only [*]; rfl))), rfl⟩, trivial⟩
theorem rlasts_c (s e : Int) : zs Tryz.prog Γ0 92 [uv s, uv e] [iv (rLasts s e)] := by
  refine zd Tryz.func92 rfl Tryz.ntmps92 (by kernel_rfl) rfl fun w0 I0 G0 => ?_
  refine zD <| zB <| g_u (zE rfl rfl) <| zF <| zA <| zD <| zD <| zB <| g_u (zC rfl rfl) <| g_u (zC rfl rfl) <| g_u (zQ (rfine_c _ _) rfl rfl) <| g_u (s_not rfl rfl) <| zF <| zA ?_
  refine zN rfl (fun hb1 => ?_) (fun hb1 => ?_)
  · refine zD ?_
    refine zB <| g_u (zE rfl rfl) <| zF <| zA <| zM <| zL ?_
    exact ⟨⟨(rfl : toAV (Al.look _ _) = some _).trans (congrArg some (by (simp only [iv, rBegun, rLasts]; simp only [Bool.not_eq_true', Bool.not_eq_false'] at *; simp only [*]; rfl))), rfl⟩, trivial⟩
  · refine zO ?_
    refine zA <| zD <| zB <| g_u (zC rfl rfl) <| g_u (zC rfl rfl) <| g_u (vB rfl rfl rfl) <| g_u (zQ (rmicro_c _) rfl rfl) <| g_u (zE rfl rfl) <| zF <| zA <| zM ?_
    exact ⟨⟨(rfl : toAV (Al.look _ _) = some _).trans (congrArg some (by (simp only [iv, rBegun, rLasts]; simp only [Bool.not_eq_true', Bool.not_eq_false'] at *; simp only [*]; rfl))), rfl⟩, trivial⟩
end Go.Proofs
namespace Go.Proofs
open Go Go.Al
set_option maxRecDepth 10000
theorem named_c (l : List GA) (t : ByteArray) (hr : risA none l) (hl : l.length ≤ 10000000) : zs Tryz.prog Γ0 78 [(.sl 7 (l.map avA)), sv t] [.sl 7 ((xe l t).map avA)] := by
  refine zd Tryz.func78 rfl Tryz.ntmps78 (by kernel_rfl) rfl fun w0 I0 G0 => ?_
  refine zD <| zB <| g_u (zE rfl rfl) <| zF <| zA <| zD <| zD <| zB <| g_u (zC rfl rfl) <| g_u (s_eqS rfl rfl rfl) <| zF <| zA ?_
  refine zN rfl (fun hb1 => ?_) (fun hb1 => ?_)
  · have q : t = ⟨#[]⟩ := by have e := hb1; rw [yZ] at e; exact of_decide_eq_true e
    refine zD <| zB <| g_u (zC rfl rfl) <| g_u (zm (X0 := z9) rfl Tryz.underlying27 tS9 tZ9 rfl rfl rfl rfl rfl rfl rfl rfl) ?_
    refine g_u (zQ (drop_c l [skey] hl (by decide)) rfl rfl) ?_
    refine g_u (zE rfl rfl) <| zF <| zA <| zM <| zL ?_
    exact ⟨⟨(rfl : toAV (Al.look _ _) = some _).trans (congrArg some (by (exact congrArg (fun x : List GA => AV.sl 7 (x.map avA)) (by unfold xe; first | rw [if_pos q] | (rw [if_neg q]; done) | rw [if_neg q, into_drop hr])))), rfl⟩, trivial⟩
  · have q : ¬ t = ⟨#[]⟩ := by have e := hb1; rw [yZ] at e; exact of_decide_eq_false e
    refine zO <| zA <| zD <| zB <| g_u (zC rfl rfl) <| g_u (zC rfl rfl) <| g_u (yh rfl tU70 us70 pl70 rfl rfl rfl rfl) <| g_u (zQ (putA_c l skey (tv t) hr hl) rfl rfl) <| g_u (zE rfl rfl) <| zF <| zA <| zM ?_
    exact ⟨⟨(rfl : toAV (Al.look _ _) = some _).trans (congrArg some (by (exact congrArg (fun x : List GA => AV.sl 7 (x.map avA)) (by unfold xe; first | rw [if_pos q] | (rw [if_neg q]; done) | rw [if_neg q, into_drop hr])))), rfl⟩, trivial⟩
end Go.Proofs
namespace Go.Proofs
open Go Go.Al
theorem wholeN_rg (n : Int) : u64 (wholeN n) := by have := nano_rg (microM n); unfold u64 wholeN; omega
theorem ofR_rg (b l : Int) : u64 (ofR b l).lo ∧ u64 (ofR b l).hi := by
  have h := nano_rg b
  unfold ofR
  split
  · unfold u64; simp
  · refine ⟨by unfold u64; dsimp only; omega, ?_⟩
    unfold u64
    dsimp only
    simp only [IntKind.wrap, IntKind.bits, IntKind.signed, Bool.false_and, Bool.false_eq_true, if_false]
    omega
theorem mapP_idem (ks : List Int) (l : List GA) : (l.map (yY ks)).map (yY ks) = l.map (yY ks) := by
  rw [List.map_map]; exact List.map_congr_left fun a _ => plainA_idem ks a
theorem map_into (ks : List Int) (a : GA) : ∀ l : List GA, (wh l a).map (yY ks) = wh (l.map (yY ks)) (yY ks a)
  | [] => rfl
  | x :: l => by
    rw [wh, List.map_cons, wh, vL, vL]
    split
    · rw [List.map_cons, map_into ks a l]
    · split <;> rfl
theorem getA_dropped (k : ByteArray) : ∀ l : List GA, getA (xO [k] l) k = none
  | [] => rfl
  | x :: l => by
    rw [xO]
    split
    · exact getA_dropped k l
    · rename_i h
      rw [getA, if_neg (by rintro rfl; simp at h), getA_dropped k l]
theorem textM_zero : xM zeroV = ⟨#[]⟩ := by rw [textE (by decide), simp6 (by decide)]; rfl
theorem textM_tv (t : ByteArray) : xM (tv t) = t := by rw [textE (v := tv t) (by rintro (h | h) <;> cases h), simp1 (v := tv t) rfl]; rfl
theorem plainA_tv (k t : ByteArray) : yY nJ (.mk k (tv t)) = .mk k (tv t) := by unfold yY; rw [if_neg]; show ¬ (nJ.any fun x => x == (1 : Int)) = true; decide
theorem kept_none (l : List GA) : keptA [] l = l.map (yY nJ) := dropA_nil _
theorem named_stays {l : List GA} (hr : risA none l) (t : ByteArray) : keptA [] (xe (keptA [] l) t) = xe (keptA [] l) t ∧ textA (xe (keptA [] l) t) skey = t := by
  have hk := ris_kept [] hr
  rw [kept_none (xe _ _), kept_none l]
  rw [kept_none] at hk
  unfold xe
  split
  · rename_i ht
    exact ⟨by rw [← drop_plain, mapP_idem], by unfold textA; rw [getA_dropped, Option.getD_none, textM_zero, ht]⟩
  · exact ⟨by rw [map_into, plainA_tv, mapP_idem], by unfold textA; rw [getA_into _ _ _ none hk, Option.getD_some, textM_tv]⟩
theorem e0_ok : (⟨#[]⟩ : ByteArray).size ≤ maxLen := by decide
theorem skey_ok : skey.size ≤ maxLen := by decide
theorem tv_ok {t : ByteArray} (ht : t.size ≤ maxLen) : (tv t).ok := by
  rw [GV.ok_iff]
  exact ⟨by show (0 : Int) ≤ 1 ∧ (1 : Int) < 256; decide, ht, by show (-9223372036854775808 : Int) ≤ 0 ∧ (0 : Int) < 9223372036854775808; decide, by show (0 : Int) ≤ 0 ∧ (0 : Int) < 18446744073709551616; decide, (fun x h => by cases h), (fun x h => by cases h)⟩
theorem namedM_ok {l : List GA} {t : ByteArray} (ho : ∀ a ∈ l, a.ok) (ht : t.size ≤ maxLen) : ∀ a ∈ xe l t, a.ok := fun a h => by
  unfold xe at h
  split at h
  · exact ho a (vD h).1
  · rcases mem_intoA h with rfl | h
    · exact (GA.ok_iff _).2 ⟨skey_ok, tv_ok ht⟩
    · exact ho a h
theorem sumBy_map_le2 {α : Type} {f : α → α} {g : α → Nat} (k : Nat) (h : ∀ x, g (f x) ≤ k * g x) : ∀ l : List α, zh g (l.map f) ≤ k * zh g l
  | [] => by simp [zh]
  | x :: l => by simp only [List.map_cons, zh, Nat.mul_add]; have := h x; have := sumBy_map_le2 k h l; omega
theorem spansOf_wt : ∀ l : List GScope, zh GSpan.wt (z0 l) ≤ zh GScope.wt l
  | [] => Nat.le_refl _
  | c :: l => by
    rw [z0, y8, zh]
    have := spansOf_wt l
    have h3 : c.wt = 1 + c.name.size + c.version.size + zh GSpan.wt c.spans := rfl
    omega
theorem namedM_wt (l : List GA) (t : ByteArray) : wtAs (xe l t) ≤ wtAs l + 13 + t.size := by
  unfold xe; split
  · have := dropA_wt [skey] l; omega
  · have h1 := wt_intoA l (.mk skey (tv t))
    have h2 : (GA.mk skey (tv t)).wt = 12 + (1 + t.size + 0 + 0) := by rw [GA.wt_eq, GV.wt_eq]; rfl
    omega
end Go.Proofs
namespace Go.Proofs
open Go Go.Al
set_option maxRecDepth 10000
theorem plR_len : ∀ (i : Nat) (l : List GRes), (plR i l).length ≤ zh GRes.wt l
  | _, [] => Nat.le_refl _
  | i, r :: l => by
    rw [plR, List.length_append, plC_len, zh]
    have h1 := plR_len (i + 1) l
    have h2 := spansOf_len r.scopes
    have h3 : r.wt = 1 + wtAs r.attrs + zh GScope.wt r.scopes := rfl
    omega
def p00 : Nat × Nat × Nat := (0, 0, 0)
def nthP (l : List (Nat × Nat × Nat)) (i : Nat) : Nat × Nat × Nat := nth l i p00
theorem ixP {l : List (Nat × Nat × Nat)} {i : Nat} (h : i < l.length) : (l.map plav)[((i : Nat) : Int).toNat]? = some (plav (nthP l i)) := wj (d := p00) h
theorem nthP_mem {l : List (Nat × Nat × Nat)} {i : Nat} (h : i < l.length) : nthP l i ∈ l := nth_mem h
set_option maxHeartbeats 2000000 in
theorem places_c (b : List GRes) (hw : wtB b ≤ 9000000) : zs Tryz.prog Γ0 26 [yr b] [.sl 3 ((plR 0 b).map plav)] := by
  have ql := yo GRes.wt (fun e => by unfold GRes.wt; omega) b
  have qw : wtB b = zh GRes.wt b := rfl
  refine zd Tryz.func26 rfl Tryz.ntmps26 (by kernel_rfl) rfl fun w0 I0 G0 => ?_
  refine zD <| zB <| g_uG (zp 1001 rfl rfl rfl rfl) rfl <| g_u (zE rfl rfl) <| zF <| zA <| zD <| zB <| g_u (zE rfl rfl) <| zF <| zA <| zD <| zD <| aw_newtok 3003 3 3 rfl rfl rfl rfl <| zB <| g_u (zE rfl rfl) <| zF <| zA <| zV ?_
  refine zu (fun i : Nat => [(1, .ptr 1001 0), (1001, .box 24 (.imm (yr b))), (3, .slg 3003 3 (((plR 0 (b.take i))).map plav)), (3003, .tok 3 (((plR 0 (b.take i))).map plav)), (4, .imm (iv (i : Int)))]) (fun i => i ≤ b.length) (fun i => b.length - i) (0) ?_ ⟨rfl, rfl, rfl, rfl, rfl, trivial⟩ ?_
  · exact Nat.zero_le _
  · rintro i h1; have h1 : i ≤ b.length := h1
    refine zD <| zD <| zB <| g_u (zC rfl rfl) <| g_u (zG rfl rfl fa24_0 rfl) <| g_u (zH rfl rfl rfl tA22 tS22 rfl rfl) <| g_u (yJ rfl rfl Tryz.underlying22) <| g_u (y_ rfl rfl rfl) <| zF <| zA ?_
    refine zN rfl (fun hb1 => ?_) (fun hb1 => ?_)
    · have hi : i < b.length := by have := of_decide_eq_true hb1; (try simp only [List.length_map] at this); omega
      have hrx := yg GRes.wt (nthR_mem hi)
      have hrq : (nthR b i).wt = 1 + wtAs (nthR b i).attrs + zh GScope.wt (nthR b i).scopes := rfl
      have hcl := yo GScope.wt (fun e => by unfold GScope.wt; omega) (nthR b i).scopes
      have hl1 : (plR 0 (b.take i)).length ≤ 9000000 := by have h1 := plR_len 0 (b.take i); have h2 := wH GRes.wt b i; omega
      refine zO <| zA <| zD <| zV <| zD <| zB <| g_u (zE rfl rfl) <| zF <| zA <| zV ?_
      refine zu (fun k : Nat => [(1, .ptr 1001 0), (1001, .box 24 (.imm (yr b))), (3, .slg 3003 3 (((plR 0 (b.take i)) ++ (plC i 0 ((nthR b i).scopes.take k))).map plav)), (3003, .tok 3 (((plR 0 (b.take i)) ++ (plC i 0 ((nthR b i).scopes.take k))).map plav)), (4, .imm (iv (i : Int))), (5, .imm (iv (k : Int)))]) (fun k => k ≤ (nthR b i).scopes.length) (fun k => (nthR b i).scopes.length - k) (0) ?_ ⟨rfl, rfl, yp rfl (by simp [plC]), yc rfl (by simp [plC]), rfl, rfl, trivial⟩ ?_
      · exact Nat.zero_le _
      · rintro k g1; have g1 : k ≤ (nthR b i).scopes.length := g1
        refine zD <| zD <| zB <| g_u (zC rfl rfl) <| g_u (zG rfl rfl fa24_0 rfl) <| g_u (zH rfl rfl rfl tA22 tS22 rfl rfl) <| g_u (zC rfl rfl) ?_
        refine g_u (zR rfl rfl rfl Tryz.underlying22 tS47 (by omega) (ixR hi)) ?_
        refine g_u (zW rfl rfl wq rfl rfl) <| g_u (z_ rfl rfl tA45 tS45 rfl rfl) <| g_u (yJ rfl rfl Tryz.underlying45) <| g_u (y_ rfl rfl rfl) <| zF <| zA ?_
        refine zN rfl (fun hb2 => ?_) (fun hb2 => ?_)
        · have hk : k < (nthR b i).scopes.length := by have := of_decide_eq_true hb2; (try simp only [List.length_map] at this); omega
          have hcx := yg GScope.wt (nthC_mem hk)
          have hcq : (nthC (nthR b i).scopes k).wt = 1 + (nthC (nthR b i).scopes k).name.size + (nthC (nthR b i).scopes k).version.size + zh GSpan.wt (nthC (nthR b i).scopes k).spans := rfl
          have hsl := yo GSpan.wt (fun e => by unfold GSpan.wt; omega) (nthC (nthR b i).scopes k).spans
          have hl2 : (plC i 0 ((nthR b i).scopes.take k)).length ≤ 9000000 := by have h1 := plC_len i 0 ((nthR b i).scopes.take k); have h2 := spansOf_len ((nthR b i).scopes.take k); have h3 := wH GScope.wt (nthR b i).scopes k; omega
          refine zO <| zA <| zD <| zV <| zD <| zB <| g_u (zE rfl rfl) <| zF <| zA <| zV ?_
          refine zu (fun m : Nat => [(1, .ptr 1001 0), (1001, .box 24 (.imm (yr b))), (3, .slg 3003 3 (((plR 0 (b.take i)) ++ (plC i 0 ((nthR b i).scopes.take k)) ++ ((List.range m).map fun m => (i, k, m))).map plav)), (3003, .tok 3 (((plR 0 (b.take i)) ++ (plC i 0 ((nthR b i).scopes.take k)) ++ ((List.range m).map fun m => (i, k, m))).map plav)), (4, .imm (iv (i : Int))), (5, .imm (iv (k : Int))), (6, .imm (iv (m : Int)))]) (fun m => m ≤ (nthC (nthR b i).scopes k).spans.length) (fun m => (nthC (nthR b i).scopes k).spans.length - m) (0) ?_ ⟨rfl, rfl, yp rfl (by simp), yc rfl (by simp), rfl, rfl, rfl, trivial⟩ ?_
          · exact Nat.zero_le _
          · rintro m f1; have f1 : m ≤ (nthC (nthR b i).scopes k).spans.length := f1
            refine zD <| zD <| zB <| g_u (zC rfl rfl) <| g_u (zG rfl rfl fa24_0 rfl) <| g_u (zH rfl rfl rfl tA22 tS22 rfl rfl) <| g_u (zC rfl rfl) ?_
            refine g_u (zR rfl rfl rfl Tryz.underlying22 tS47 (by omega) (ixR hi)) ?_
            refine g_u (zW rfl rfl wq rfl rfl) <| g_u (z_ rfl rfl tA45 tS45 rfl rfl) <| g_u (zC rfl rfl) ?_
            refine g_u (zR rfl rfl rfl Tryz.underlying45 tS51 (by omega) (ixC hk)) ?_
            refine g_u (zW rfl rfl fa51_2 rfl rfl) <| g_u (z_ rfl rfl tA49 tS49 rfl rfl) <| g_u (yJ rfl rfl Tryz.underlying49) <| g_u (y_ rfl rfl rfl) <| zF <| zA ?_
            refine zN rfl (fun hb3 => ?_) (fun hb3 => ?_)
            · have hm : m < (nthC (nthR b i).scopes k).spans.length := by have := of_decide_eq_true hb3; (try simp only [List.length_map] at this); omega
              refine zO <| zA <| zD <| zV <| zB <| g_u (yW rfl rfl) <| g_u (zC rfl rfl) <| g_u (zC rfl rfl) <| g_u (zC rfl rfl) <| g_u (yh rfl tU98 us98 pl98 rfl rfl rfl rfl) <| g_u (zm (X0 := z98) rfl Tryz.underlying66 tS98 tZ98 rfl rfl rfl rfl rfl rfl rfl rfl) ?_
              refine g_u (yj rfl rfl rfl rfl rfl Tryz.underlying66 Tryz.underlying66 tS98 zv98 rfl (by decide) by98 (by (try dsimp only); simp only [List.length_append, List.length_cons, List.length_nil, List.length_map, List.length_range]; omega) (by (try dsimp only); simp only [List.length_append, List.length_cons, List.length_nil, List.length_map, List.length_range]; omega)) ?_
              refine g_u (yS rfl rfl) <| zF <| zY <| zA <| zB <| g_u (zC rfl rfl) <| g_u (zz rfl rfl rfl) <| g_u (zE rfl rfl) <| zF <| zA ?_
              have et : (((plR 0 (b.take i)) ++ (plC i 0 ((nthR b i).scopes.take k)) ++ ((List.range (m + 1)).map fun m => (i, k, m))).map plav) = (((plR 0 (b.take i)) ++ (plC i 0 ((nthR b i).scopes.take k)) ++ ((List.range m).map fun m => (i, k, m))).map plav) ++ [plav (i, k, m)] := by rw [range_snoc, ← List.append_assoc, List.map_append]; rfl
              refine ⟨m + 1, hm, ⟨rfl, rfl, yp rfl et.symm, yc rfl et.symm, rfl, rfl, zZ rfl (by rw [zK (by omega) (by omega)]; rfl), trivial⟩, by (try dsimp only); omega⟩
            · have hmn : m = (nthC (nthR b i).scopes k).spans.length := by have := of_decide_eq_false hb3; (try simp only [List.length_map] at this); omega
              refine z7 <| zT <| zT <| zq <| zY <| zA <| zB <| g_u (zC rfl rfl) <| g_u (zz rfl rfl rfl) <| g_u (zE rfl rfl) <| zF <| zA ?_
              have et : (((plR 0 (b.take i)) ++ (plC i 0 ((nthR b i).scopes.take (k + 1)))).map plav) = (((plR 0 (b.take i)) ++ (plC i 0 ((nthR b i).scopes.take k)) ++ ((List.range m).map fun m => (i, k, m))).map plav) := by rw [plC_take hk, hmn, List.append_assoc]
              refine ⟨k + 1, hk, ⟨rfl, rfl, yp rfl et.symm, yc rfl et.symm, rfl, zZ rfl (by rw [zK (by omega) (by omega)]; rfl), trivial⟩, by (try dsimp only); omega⟩
        · have hkn : k = (nthR b i).scopes.length := by have := of_decide_eq_false hb2; (try simp only [List.length_map] at this); omega
          refine z7 <| zT <| zT <| zq <| zY <| zA <| zB <| g_u (zC rfl rfl) <| g_u (zz rfl rfl rfl) <| g_u (zE rfl rfl) <| zF <| zA ?_
          have et : ((plR 0 (b.take (i + 1))).map plav) = (((plR 0 (b.take i)) ++ (plC i 0 ((nthR b i).scopes.take k))).map plav) := by rw [plR_take hi, hkn, List.take_length]
          refine ⟨i + 1, hi, ⟨rfl, rfl, yp rfl et.symm, yc rfl et.symm, zZ rfl (by rw [zK (by omega) (by omega)]; rfl), trivial⟩, by (try dsimp only); omega⟩
    · have hin : i = b.length := by have := of_decide_eq_false hb1; (try simp only [List.length_map] at this); omega
      refine z7 <| zT <| zT <| zq <| zA <| zD <| zB <| g_u (yW rfl rfl) <| g_u (yS rfl rfl) <| zF <| zA <| zM ?_
      exact ⟨⟨(rfl : toAV (Al.look _ _) = some _).trans (congrArg some (by (rw [hin, List.take_length]))), rfl⟩, trivial⟩
end Go.Proofs
namespace Go.Proofs
open Go Go.Al
set_option maxRecDepth 10000
end Go.Proofs
namespace Go.Al
open Go.RowKit
theorem up_bytes {l : List UInt8} {n : Nat} (h : l.length = n) : Up (.agg (zo l)) (.arr n l) := by
  have hw : ∀ x ∈ zo l, x.width = 1 := W1.bytes l
  refine ⟨rfl, ?_, fun w I c r => ?_⟩
  · have key : ∀ l : List UInt8, AV.widths (zo l) = l.length := by
      intro l
      induction l with
      | nil => rfl
      | cons b l ih => simp only [zo, List.map_cons, AV.widths, List.length_cons] at ih ⊢; rw [ih]; simp only [AV.width, wN, Value.cells]; show 1 + _ = _; omega
    show n = AV.widths (zo l)
    rw [key, h]
  · simp only [RepC] at r ⊢
    exact ⟨repE_bytes_inv l c ((repCs_E (n := 1) hw).1 r), h⟩
end Go.Al
namespace Go.Proofs
open Go Go.Al
set_option maxRecDepth 10000
theorem tV54 : yu Tryz.prog 54 (.agg (List.replicate 16 (.v (.int .u8 0)))) := ⟨.agg #[.int .u8 0, .int .u8 0, .int .u8 0, .int .u8 0, .int .u8 0, .int .u8 0, .int .u8 0, .int .u8 0, .int .u8 0, .int .u8 0, .int .u8 0, .int .u8 0, .int .u8 0, .int .u8 0, .int .u8 0, .int .u8 0], by kernel_rfl, by kernel_rfl⟩
theorem tV56 : yu Tryz.prog 56 (.agg (List.replicate 8 (.v (.int .u8 0)))) := ⟨.agg #[.int .u8 0, .int .u8 0, .int .u8 0, .int .u8 0, .int .u8 0, .int .u8 0, .int .u8 0, .int .u8 0], by kernel_rfl, by kernel_rfl⟩
end Go.Proofs
namespace Go.Al
open Go.RowKit
theorem SimG.turnOG {C : Cx} {A : Nat → SV} {G : Gh} {a : Act} {w : World} (S : SimG C A G a w) {g : Nat} {X' : SV} {o' : Obj}
    (how : Owned C.w0 C.E w (G.blk g)) (hni : ∀ o, ¬ G.I (G.blk g) o) (hown : zi G g (G.blk g) (A g)) (hown' : ∀ b, zi G g b X' → G.blk g = b)
    (hnew : Le w G.I (yL w (G.blk g) o') G.I → Holds C.w0 C.E G a (yL w (G.blk g) o') g X') :
    SimG C (upd A [(g, X')]) G a (yL w (G.blk g) o') := by
  have hlt : G.blk g < w.heap.size := how.2
  have hle : Le w G.I (yL w (G.blk g) o') G.I := fun b o h => ⟨h, by
    have : b ≠ G.blk g := by rintro rfl; exact hni o h
    exact yx (xE this)⟩
  have hu : ∀ k, upd A [(g, X')] k = if k = g then X' else A k := xv A g X'
  have conv : ∀ k b, zi G k b (upd A [(g, X')] k) → zi G k b (A k) := by
    intro k b h
    rw [hu] at h
    split at h
    · rename_i hk; subst hk; have := hown' b h; rw [← this]; exact hown
    · exact h
  refine ⟨S.os, S.tape, S.output, by rw [yM]; exact S.size, fun k h1 h2 => ?_, S.sub.trans hle, S.rel, S.glob.mono hle, S.new, fun b o h => by rw [yM]; exact S.val b o h, S.nts, S.dfs, fun k => ?_, fun k j b hkj h1 h2 => S.apart k j b hkj (conv k b h1) (conv j b h2)⟩
  · have : k ≠ G.blk g := by
      rintro rfl
      rcases how.1 with h | h
      · omega
      · exact h2 h
    rw [xE this]; exact S.block k h1 h2
  · rw [hu]
    split
    · rename_i hk; subst hk; exact hnew hle
    · rename_i hk
      refine (S.holds k).keep hle (GRel.refl G) (xX.1 _) (by rw [yM]; exact Nat.le_refl _) (fun h => ⟨h, rfl⟩) (fun _ => ⟨rfl, rfl, rfl⟩) (fun b hb => ⟨?_, fun _ h => h⟩)
      have : b ≠ G.blk g := by
        rintro rfl
        exact S.apart k g (G.blk g) hk hb hown
      exact xE this
theorem SimG.turnO {C : Cx} {A : Nat → SV} {G : Gh} {a : Act} {w : World} (S : SimG C A G a w) {g : Nat} {X' : SV} {o' : Obj}
    (how : Owned C.w0 C.E w (G.blk g)) (hni : ∀ o, ¬ G.I (G.blk g) o) (hown : zi G g (G.blk g) (A g)) (hown' : ∀ b, zi G g b X' → G.blk g = b)
    (hnew : Le w G.I (yL w (G.blk g) o') G.I → Holds C.w0 C.E G a (yL w (G.blk g) o') g X') :
    Sim C (upd A [(g, X')]) a (yL w (G.blk g) o') := ⟨G, S.turnOG how hni hown hown' hnew⟩
def mfind : List ByteArray → ByteArray → Nat → Option Nat
  | [], _, _ => none
  | x :: xs, s, i => if s = x then some i else mfind xs s (i + 1)
def strs (l : List ByteArray) : List AV := l.map fun s => .v (.string s)
def mputK (l : List ByteArray) (s : ByteArray) : List ByteArray := match mfind l s 0 with | some _ => l | none => l ++ [s]
def mputV (l : List ByteArray) (vs : List AV) (s : ByteArray) (v : AV) : List AV := match mfind l s 0 with | some i => vs.set i v | none => vs ++ [v]
theorem mfind_lt : ∀ {l : List ByteArray} {s : ByteArray} {i j : Nat}, mfind l s i = some j → i ≤ j ∧ j < i + l.length
  | x :: xs, s, i, j, h => by
    rw [mfind] at h
    split at h
    · cases h; simp
    · have := mfind_lt h; simp; omega
theorem mfind_get : ∀ {l : List ByteArray} {s : ByteArray} {i j : Nat}, mfind l s i = some j → l[j - i]? = some s
  | x :: xs, s, i, j, h => by
    rw [mfind] at h
    split at h
    · rename_i hs; cases h; simp [hs]
    · have h1 := mfind_lt h
      have h2 := mfind_get h
      rw [show j - i = (j - (i + 1)) + 1 by omega, List.getElem?_cons_succ]; exact h2
theorem repVs_strs {w : World} {I : Nat → Nat → Prop} : ∀ {l : List ByteArray} {vs : List Value}, yV w I (strs l) vs → vs = l.map Value.string
  | [], vs, h => by simpa [strs, yV] using h
  | x :: xs, vs, h => by
    simp only [strs, List.map_cons, yV] at h
    obtain ⟨c, r, rfl, h1, h2⟩ := h
    simp only [RepC] at h1
    rw [repVs_strs (l := xs) h2, h1.1]
    simp [mkV, AV.isAgg, Value.cells]
theorem ba_beq (a b : ByteArray) : (a == b) = decide (a = b) := by
  rcases a with ⟨a⟩; rcases b with ⟨b⟩
  show (a == b) = _
  rw [Bool.eq_iff_iff]; simp
theorem findNow_str : ∀ (es : List MapEntry) (l : List ByteArray) (s : ByteArray) (i : Nat), es.map (·.key) = l.map Value.string →
    Instr.findNow .string (.string s) es i = some ((mfind l s i).bind fun j => (es[j - i]?).map fun e => (j, e.val))
  | [], l, s, i, h => by
    cases l with
    | nil => rfl
    | cons x l => simp at h
  | e :: es, l, s, i, h => by
    cases l with
    | nil => simp at h
    | cons x l =>
      simp only [List.map_cons, List.cons.injEq] at h
      simp only [Instr.findNow, h.1, Instr.sameNow]
      by_cases hs : s = x
      · subst hs
        simp [mfind, ba_beq]
      · have : (s == x) = false := by rw [ba_beq]; simpa using hs
        rw [this]
        simp only
        rw [findNow_str es l s (i + 1) h.2, mfind, if_neg hs]
        cases hm : mfind l s (i + 1) with
        | none => rfl
        | some j =>
          have := mfind_lt hm
          simp only [Option.bind_some]
          rw [show j - i = (j - (i + 1)) + 1 by omega, List.getElem?_cons_succ]
theorem run_checkKey {P : Program} {kt : TypeId} {s : ByteArray} (h : P.underlying kt = some .string) (b : Bool) (n : Nat) (w : World) : (Instr.checkKey b (n + 1) kt (.string s)).run P w = .ok () w := by
  simp only [Instr.checkKey, Sem.run_bind, zU h, Result.andThen_ok, Sem.run_pure]
theorem run_findKey {P : Program} {kt : TypeId} {s : ByteArray} (h : P.underlying kt = some .string) {es : List MapEntry} {l : List ByteArray} (he : es.map (·.key) = l.map Value.string) (w : World) :
    (Instr.findKey kt (.string s) es).run P w = .ok ((mfind l s 0).bind fun j => (es[j]?).map fun e => (j, e.val)) w := by
  have := findNow_str es l s 0 he
  simp only [Nat.sub_zero] at this
  simp only [Instr.findKey, Sem.run_bind, zU h, Result.andThen_ok, this, Sem.run_pure]
theorem run_getMap {P : Program} {w : World} {r : Nat} {es : Array MapEntry} {ck : Nat} (h : w.heap[r]? = some (.map es ck)) : (getObj r).run P w = .ok (.map es ck) w := by simp [getObj, Sem.run, h]
theorem run_setMap {P : Program} {w : World} {r : Nat} {es : Array MapEntry} {ck : Nat} {o' : Obj} (h : w.heap[r]? = some (.map es ck)) : (setObj r o').run P w = .ok () (yL w r o') := by simp [setObj, Sem.run, h, yL]
section
variable {C : Cx} {A : Nat → SV} {d : Nat} {ty : TypeId} {pos : String} {af : Array Edge} {gd : Option (Nat × Bool)} {x y z : Operand} {T T' : TypeId}
theorem s_makeMap (g : Nat) (hgN : Nat.ble C.N g = true) (hgK : Nat.blt g C.K = true) (hN : Nat.blt d C.N = true) :
    zn C ⟨some d, .makeMap T none, ty, pos, af, gd⟩ [] [g] A [(g, .mpr [] []), (d, .mref g)] := by
  intro A' a w hR hF ⟨G, S⟩
  have hN' : d < C.N := by simpa [Nat.blt_eq] using hN
  have hgd : g ≠ d := by have := Nat.le_of_ble_eq_true hgN; omega
  unfold Oper.wp
  have hrun : (execOp a.eval ⟨some d, .makeMap T none, ty, pos, af, gd⟩).run C.P w = .ok (.value (.map (some w.heap.size))) (w.alloc (.map #[] 0)) := by
    simp only [execOp, Option.map_none, Instr.makeMap, Sem.run_bind, Sem.run_pure, Result.andThen_ok, run_newObj]
    rfl
  rw [hrun, Oper.upon_value]
  refine S.allocO hgd (by simpa [Nat.blt_eq] using hgK) hN' (fun _ _ h => by simpa only [zi] using h) (fun G' e _ hg hle hni => ?_) (fun G' e => ?_) (fun k hk => hF k hk)
  · simp only [Holds]
    refine ⟨⟨.inl (by rw [e]; exact S.size), by rw [e]; simp⟩, ⟨#[], by rw [e]; exact alloc_new, fun i h => by simp at h, by simp [yV], by simp [yV]⟩, fun o => ?_⟩
    rw [e]; exact hni o
  · exact ⟨[.map (some w.heap.size)], by simp [RepS, e], by simp [mkS, SV.isAgg]⟩
theorem repVs_set {w : World} {I : Nat → Nat → Prop} : ∀ {xs : List AV} {vs : List Value} {i : Nat} {y : AV} {v : Value}, yV w I xs vs → Rep w I y v → yV w I (xs.set i y) (vs.set i v)
  | [], vs, i, y, v, h, _ => by
    simp only [yV] at h; subst h; simp [yV]
  | x :: xs, vs, 0, y, v, h, k => by
    simp only [yV] at h
    obtain ⟨c, r, rfl, h1, h2⟩ := h
    obtain ⟨c', k1, k2⟩ := k
    simp only [List.set_cons_zero, yV]
    exact ⟨c', r, by rw [k2], k1, h2⟩
  | x :: xs, vs, i + 1, y, v, h, k => by
    simp only [yV] at h
    obtain ⟨c, r, rfl, h1, h2⟩ := h
    simp only [List.set_cons_succ, yV]
    exact ⟨c, _, rfl, h1, repVs_set h2 k⟩
theorem s_mapUpdate {g : Nat} {kt vt : TypeId} {l : List ByteArray} {vs : List AV} {s : ByteArray} {v : AV} (hx : opS A x = .mref g) (hg : A g = .mpr (strs l) vs) (hy : opV A y = some (.v (.string s))) (hz : opV A z = some v)
    (hT : C.P.underlying T = some (.map kt vt)) (hk : C.P.underlying kt = some .string) :
    zn C ⟨none, .mapUpdate T x y z, ty, pos, af, gd⟩ (g :: (opR x ++ (opR y ++ opR z))) [] A [(g, .mpr (strs (mputK l s)) (mputV l vs s v))] := by
  intro A' a w hR hF ⟨G, S⟩
  have hgA : A' g = .mpr (strs l) vs := (hR g List.mem_cons_self).trans hg
  obtain ⟨c, hc1, hc2⟩ := S.opS ((yU (fun k hk => hR k (List.mem_cons_of_mem _ (List.mem_append_left _ hk)))).trans hx) rfl
  simp only [RepS] at hc1
  have hev : a.eval x = .map (some (G.blk g)) := by rw [hc2, hc1]; rfl
  rw [← yO (fun k hk => hR k (List.mem_cons_of_mem _ (List.mem_append_right _ (List.mem_append_left _ hk))))] at hy
  rw [← yO (fun k hk => hR k (List.mem_cons_of_mem _ (List.mem_append_right _ (List.mem_append_right _ hk))))] at hz
  have hys := x_ (S.opV hy)
  have hzv := S.opV hz
  have hb := S.holds g
  rw [hgA] at hb
  simp only [Holds] at hb
  obtain ⟨how, ⟨es, h1, h2, h3, h4⟩, hni⟩ := hb
  have hkeys : es.toList.map (·.key) = l.map Value.string := repVs_strs h3
  have hlen : es.size = l.length := by have := congrArg List.length hkeys; simpa using this
  have hfind := run_findKey (P := C.P) (s := s) hk hkeys w
  have hobj := run_getMap (P := C.P) h1
  unfold Oper.wp
  cases hm : mfind l s 0 with
  | some i =>
    have hi := mfind_lt hm
    have hie : i < es.size := by omega
    have hkey : es[i].key = .string s := by
      have hk2 : (es.toList.map (·.key))[i]? = (l.map Value.string)[i]? := by rw [hkeys]
      have hsl : l[i]? = some s := by
        have := mfind_get hm
        simpa using this
      simp only [List.getElem?_map, hsl, Option.map_some] at hk2
      rw [Array.getElem?_toList, Array.getElem?_eq_getElem hie] at hk2
      simpa using hk2
    have hrun : (execOp a.eval ⟨none, .mapUpdate T x y z, ty, pos, af, gd⟩).run C.P w = .ok .skip (yL w (G.blk g) (.map (es.modify i fun e => { e with key := .string s, val := a.eval z }) es.size)) := by
      have e1 : (es[i]?).map (·.key) = some (.string s) := by rw [Array.getElem?_eq_getElem hie]; simp [hkey]
      have e2 : (es.toList[i]?).map (fun e => (i, e.val)) = some (i, es[i].val) := by rw [Array.getElem?_toList, Array.getElem?_eq_getElem hie]; rfl
      have e3 : Instr.sameBits 10000 (.string s) (.string s) = true := by simp [Instr.sameBits, ba_beq]
      simp only [execOp, Instr.mapUpdate, Sem.run_bind, zU hT, Result.andThen_ok, hev, hobj, hys, run_checkKey hk, hfind, hm, Option.bind_some, e2, e1, Option.getD_some, Instr.keyThatStays, e3, if_true, Sem.run_pure, run_setMap h1]
    rw [hrun, Oper.upon_skip]
    have hmp : mputK l s = l ∧ mputV l vs s v = vs.set i v := by unfold mputK mputV; rw [hm]; exact ⟨rfl, rfl⟩
    rw [hmp.1, hmp.2]
    refine S.turnO how hni (by rw [hgA]; simp [zi]) (fun b h => by simpa only [zi] using h) fun hle => ?_
    simp only [Holds]
    refine ⟨⟨how.1, by rw [yM]; exact how.2⟩, ⟨es.modify i fun e => { e with key := .string s, val := a.eval z }, by rw [xp how.2]; simp, fun j hj => ?_, ?_, ?_⟩, hni⟩
    · simp only [Array.getElem_modify]
      split
      · exact h2 j (by simpa using hj)
      · exact h2 j (by simpa using hj)
    · have : ((es.modify i fun e => { e with key := .string s, val := a.eval z }).toList.map (·.key)) = es.toList.map (·.key) := by
        refine List.ext_getElem (by simp) fun j h5 h6 => ?_
        simp only [List.getElem_map, Array.getElem_toList, Array.getElem_modify]
        split
        · rename_i hij; subst hij; rw [hkey]
        · rfl
      rw [this]; exact yV.mono hle _ _ h3
    · have : ((es.modify i fun e => { e with key := .string s, val := a.eval z }).toList.map (·.val)) = (es.toList.map (·.val)).set i (a.eval z) := by
        refine List.ext_getElem (by simp) fun j h5 h6 => ?_
        simp only [List.getElem_map, Array.getElem_toList, Array.getElem_modify, List.getElem_set]
        split <;> rfl
      rw [this]; exact repVs_set (yV.mono hle _ _ h4) (hzv.mono hle)
  | none =>
    have hrun : (execOp a.eval ⟨none, .mapUpdate T x y z, ty, pos, af, gd⟩).run C.P w = .ok .skip (yL w (G.blk g) (.map (es.push { key := .string s, val := a.eval z, born := es.size }) (es.size + 1))) := by
      simp only [execOp, Instr.mapUpdate, Sem.run_bind, zU hT, Result.andThen_ok, hev, hobj, hys, run_checkKey hk, hfind, hm, Option.bind_none, Sem.run_pure, run_setMap h1]
    rw [hrun, Oper.upon_skip]
    have hmp : mputK l s = l ++ [s] ∧ mputV l vs s v = vs ++ [v] := by unfold mputK mputV; rw [hm]; exact ⟨rfl, rfl⟩
    rw [hmp.1, hmp.2]
    refine S.turnO how hni (by rw [hgA]; simp [zi]) (fun b h => by simpa only [zi] using h) fun hle => ?_
    simp only [Holds]
    refine ⟨⟨how.1, by rw [yM]; exact how.2⟩, ⟨es.push { key := .string s, val := a.eval z, born := es.size }, by rw [xp how.2]; simp, fun j hj => ?_, ?_, ?_⟩, hni⟩
    · simp only [Array.getElem_push]
      split
      · rename_i hj2; exact h2 j hj2
      · rename_i hj2; simp at hj; show es.size = j; omega
    · have e : strs (l ++ [s]) = strs l ++ [.v (.string s)] := by simp [strs]
      rw [e]
      simp only [Array.toList_push, List.map_append, List.map_cons, List.map_nil]
      exact repVs_append (yV.mono hle _ _ h3) (by simp only [yV]; exact ⟨[.string s], [], by simp [mkV, AV.isAgg], by simp [RepC, Value.cells, Al.plain], rfl⟩)
    · simp only [Array.toList_push, List.map_append, List.map_cons, List.map_nil]
      obtain ⟨cz, k1, k2⟩ := hzv.mono hle
      exact repVs_append (yV.mono hle _ _ h4) (by simp only [yV]; exact ⟨cz, [], by rw [k2], k1, rfl⟩)
end
end Go.Al
namespace Go.Al
open Go.RowKit
def units (n : Nat) : List AV := List.replicate n (.agg [])
@[simp] theorem units_length (n : Nat) : (units n).length = n := List.length_replicate
section
variable {C : Cx} {A : Nat → SV} {d : Nat} {ty : TypeId} {pos : String} {af : Array Edge} {gd : Option (Nat × Bool)} {x y z : Operand} {T T' : TypeId}
end
end Go.Al
namespace Go.Al
open Go.RowKit
structure SortC (P : Program) (Γ : List (Nat × AV)) (f : FuncId) : Prop where
  call : callable P f = true
  sorts : ∀ (blk cap : Nat) (ss : List (List UInt8)) (w : World), Sort.Holds Proofs.encStr w blk 0 ss.toArray → blk < w.heap.size → ss.length < 4611686018427387904 →
    Calls P f #[.slice (some ⟨blk, 0, none⟩) ss.length cap] w fun e w' =>
      e = .returned (.tuple #[]) ∧ ∃ n os, w' = Sort.grow (Sort.putRow Proofs.encStr (Sort.ahead w n) blk 0 (ss.mergeSort fun x y => decide (x ≤ y)).toArray) os
  empty : zs P Γ f [.v (.slice none 0 0)] []
section
variable {C : Cx} {A : Nat → SV} {d : Nat} {ty : TypeId} {pos : String} {af : Array Edge} {gd : Option (Nat × Bool)} {x y z : Operand} {T T' : TypeId}
end
end Go.Al
namespace Go.Proofs
open Go Go.Al
end Go.Proofs
namespace Go.Al
open Go.RowKit
section
variable {C : Cx} {d : Nat} {ty : TypeId} {pos : String} {af : Array Edge} {x : Operand}
end
end Go.Al
namespace Go.Al
section
variable {C : Cx} {A : Nat → SV} {d : Nat} {ty : TypeId} {pos : String} {af : Array Edge} {gd : Option (Nat × Bool)} {x : Operand}
end
end Go.Al
namespace Go.Proofs
open Go Go.Al
end Go.Proofs
namespace Go.Proofs
open Go Go.Al
set_option maxRecDepth 10000
end Go.Proofs
namespace Go.Proofs
open Go Go.Al
set_option maxRecDepth 10000
end Go.Proofs
namespace Go.Proofs
open Go Go.Al
theorem wD {a b : Int} (h : orC a b = 0) : a = 0 ∧ b = 0 := by unfold orC at h; split at h <;> omega
theorem checkVs_mem {d : Int} : ∀ {l : List GV}, checkVs d l = 0 → ∀ y ∈ l, y9 d y = 0
  | x :: l, h, y, hy => by
    rw [checkVs] at h
    obtain ⟨h1, h2⟩ := wD h
    rcases List.mem_cons.1 hy with rfl | hy
    · exact h1
    · exact checkVs_mem h2 y hy
theorem checkV_parts {d : Int} {v : GV} (h : y9 d v = 0) : checkVs (d + 1) v.list = 0 ∧ entC (d + 1) none v.map = 0 := by
  rw [zw] at h
  split at h; · omega
  split at h; · omega
  split at h; · omega
  split at h; · omega
  split at h; · omega
  exact wD h
end Go.Proofs
namespace Go.Proofs
open Go Go.Al
set_option maxRecDepth 10000
end Go.Proofs
namespace Go.Proofs
open Go Go.Al
def firstC : List Int → Int
  | [] => 0
  | c :: cs => orC c (firstC cs)
theorem evC_drop {l : List GE} {i : Nat} (h : i < l.length) : evC (l.drop i) = if 9223372036854775807 < (nthE l i).time then 11 else orC (orC (xB (nthE l i).name) (yq (nthE l i).attrs)) (evC (l.drop (i + 1))) := by
  rw [xS (d := ge0) h, evC]; rfl
theorem lkC_drop {l : List GL} {i : Nat} (h : i < l.length) : lkC (l.drop i) = if xm (nthL l i).trace || xm (nthL l i).span then 10 else orC (orC (xB (nthL l i).state) (yq (nthL l i).attrs)) (lkC (l.drop (i + 1))) := by
  rw [xS (d := gl0) h, lkC]; rfl
def vI (s : GSpan) : Int :=
  firstC [if xm s.trace || xm s.id then 10 else 0, xB s.state, xB s.name, if s.kind < 0 ∨ 5 < s.kind then 7 else 0, xi ⟨s.start, s.fin⟩, yq s.attrs, evsC s.events, lksC s.links, if s.code < 0 ∨ 2 < s.code then 7 else 0, xB s.note]
end Go.Proofs
namespace Go.Al
section
variable {P : Program} {b : Frame} {a : Act} {k : List Item} {cs : List Frame} {w : World}
end
end Go.Al
namespace Go.Proofs
open Go Go.Al
set_option maxRecDepth 10000
end Go.Proofs
namespace Go.Proofs
open Go Go.Al
set_option maxRecDepth 10000
end Go.Proofs
namespace Go.Proofs
open Go Go.Al
set_option maxRecDepth 10000
end Go.Proofs
namespace Go.Proofs
open Go Go.Al
set_option maxRecDepth 10000
end Go.Proofs
namespace Go.Al
open Go.RowKit
section
variable {C : Cx} {A : Nat → SV} {d : Nat} {ty : TypeId} {pos : String} {af : Array Edge} {gd : Option (Nat × Bool)} {x y : Operand} {T T' : TypeId}
theorem s_loadByte {g o n : Nat} {l : List UInt8} {T0 : TypeId} (hN : Nat.blt d C.N = true) (h : opS A x = .ptr g o) (hg : A g = .box T0 (.imm (.arr n l))) (hq : xY C.P T = some false) (hn : yE C.P T = some 1) (ho : o < n) :
    zn C ⟨some d, .load T x, ty, pos, af, gd⟩ (g :: opR x) [] A [(d, .imm (.v (wN (l.getD o 0))))] := by
  refine zn.value rfl hN fun A' G a w hR S => ?_
  have hgA : A' g = .box T0 (.imm (.arr n l)) := (hR g List.mem_cons_self).trans hg
  obtain ⟨c, h1, h2⟩ := S.opS ((yU (fun k hk => hR k (List.mem_cons_of_mem _ hk))).trans h) rfl
  simp only [RepS] at h1
  have hev : a.eval x = .pointer (some ⟨G.blk g, o, none⟩) := by rw [h2, h1]; rfl
  have hb := S.holds g
  rw [hgA] at hb
  simp only [Holds] at hb
  obtain ⟨how, ⟨cs, fr, hb0, hrep, huf⟩, hni⟩ := hb
  simp only [RepS, RepC] at hrep
  obtain ⟨e1, e2⟩ := hrep
  have hol : o < l.length := by omega
  have hcell : w.cell? ⟨G.blk g, o, none⟩ = some (wN (l.getD o 0)) := by
    simp only [World.cell?, hb0, Option.isSome_none, Bool.false_eq_true, if_false]
    rw [← Array.getElem?_toList, e1, List.getElem?_map, List.getElem?_eq_getElem hol]
    simp [List.getD_eq_getElem?_getD, hol]
  refine ⟨wN (l.getD o 0), ?_, ya.2 (xf _ _ rfl)⟩
  simp only [execOp, Instr.loadAt, Instr.sureAddr, hev, Sem.run_bind, Sem.run_pure, Result.andThen_ok]
  rw [vM (cs := [wN (l.getD o 0)]) hq (by simpa using hn) (fun _ => rfl) (fun j hj => by
    have : j = 0 := by simpa using hj
    subst this; simpa using hcell)]
  rfl
end
end Go.Al
namespace Go.Proofs
open Go Go.Al
theorem orC_assoc (a b c : Int) : orC (orC a b) c = orC a (orC b c) := by
  by_cases ha : a = 0
  · rw [zI a b ha, zI a (orC b c) ha]
  · rw [ze a b ha, ze a c ha, ze a (orC b c) ha]
theorem vF (s : GSpan) : vI s = orC (if xm s.trace || xm s.id then 10 else 0) (orC (orC (xB s.state) (xB s.name)) (orC (if s.kind < 0 ∨ 5 < s.kind then 7 else 0) (orC (xi ⟨s.start, s.fin⟩) (orC (orC (yq s.attrs) (orC (evsC s.events) (lksC s.links))) (orC (if s.code < 0 ∨ 2 < s.code then 7 else 0) (xB s.note)))))) := by
  unfold vI
  simp only [firstC, orC_right, orC_assoc]
theorem zeros_snoc : ∀ (m : Bs) (x : UInt8), xm (m ++ [x]) = (xm m && (x == 0))
  | [], x => by simp [xm]
  | y :: m, x => by
    have := zeros_snoc m x
    simp only [xm, List.cons_append, List.all_cons] at this ⊢
    rw [this, Bool.and_assoc]
theorem byte0 (x : UInt8) : (((x.toNat : Nat) : Int) == 0) = (x == 0) := by
  rw [Bool.eq_iff_iff, beq_iff_eq, beq_iff_eq]
  constructor
  · intro h
    have h2 : x.toNat = (0 : UInt8).toNat := by show x.toNat = 0; omega
    exact UInt8.toNat_inj.1 h2
  · rintro rfl; rfl
theorem zeros_take {l : Bs} {i : Nat} (h : i < l.length) : xm (l.take (i + 1)) = (xm (l.take i) && ((((l.getD i 0).toNat : Nat) : Int) == 0)) := by
  rw [byte0, ← zeros_snoc]
  congr 1
  rw [List.take_succ_eq_append_getElem h]
  simp [List.getD_eq_getElem?_getD, h]
end Go.Proofs
namespace Go.Proofs
open Go Go.Al
set_option maxRecDepth 10000
theorem rname_c (t : ByteArray) (ht : t.size < 9223372036854775808) : zs Tryz.prog Γ0 75 [sv t] [iv (xB t)] := by
  have cr := check_range t
  have ce := check_eq t
  refine zd Tryz.func75 rfl Tryz.ntmps75 (by kernel_rfl) rfl fun w0 I0 G0 => ?_
  refine zD <| zB <| g_u (zE rfl rfl) <| zF <| zA <| zD <| zD <| zB <| g_u (zC rfl rfl) ?_
  refine g_u (zQ (rcheck_c _ (by omega)) rfl rfl) ?_
  refine g_u (wv rfl rfl rfl) <| zF <| zA ?_
  refine zN rfl (fun hb1 => ?_) (fun hb1 => ?_)
  · have q := qc.1 hb1
    refine zD <| zB <| g_u (zE rfl rfl) <| zF <| zA <| zM <| zL ?_
    exact ⟨⟨(rfl : toAV (Al.look _ _) = some _).trans (congrArg some (by (exact congrArg iv (by unfold xB; (repeat' split) <;> first | rfl | omega)))), rfl⟩, trivial⟩
  · have q := qd.1 hb1
    refine zO <| zA <| zD <| zD <| zB <| g_u (zC rfl rfl) <| g_u (yf rfl rfl Tryz.underlying9) <| g_u (xu rfl rfl rfl) <| zF <| zA ?_
    refine zN rfl (fun hb2 => ?_) (fun hb2 => ?_)
    · have q := of_decide_eq_true hb2
      refine zD <| zB <| g_u (zE rfl rfl) <| zF <| zA <| zM <| zL ?_
      exact ⟨⟨(rfl : toAV (Al.look _ _) = some _).trans (congrArg some (by (exact congrArg iv (by unfold xB; (repeat' split) <;> first | rfl | omega)))), rfl⟩, trivial⟩
    · have q := of_decide_eq_false hb2
      refine zO <| zA <| zD <| zB <| g_u (zE rfl rfl) <| zF <| zA <| zM ?_
      exact ⟨⟨(rfl : toAV (Al.look _ _) = some _).trans (congrArg some (by (exact congrArg iv (by unfold xB; (repeat' split) <;> first | rfl | omega)))), rfl⟩, trivial⟩
theorem or_c (a b : Int) : zs Tryz.prog Γ0 109 [iv a, iv b] [iv (orC a b)] := by
  refine zd Tryz.func109 rfl Tryz.ntmps109 (by kernel_rfl) rfl fun w0 I0 G0 => ?_
  refine zD <| zB <| g_u (zE rfl rfl) <| zF <| zA <| zD <| zD <| zB <| g_u (zC rfl rfl) <| g_u (wv rfl rfl rfl) <| zF <| zA ?_
  refine zN rfl (fun hb1 => ?_) (fun hb1 => ?_)
  · have q := qc.1 hb1
    refine zD <| zB <| g_u (zC rfl rfl) <| g_u (zE rfl rfl) <| zF <| zA <| zM <| zL ?_
    exact ⟨⟨(rfl : toAV (Al.look _ _) = some _).trans (congrArg some (by (exact congrArg iv (by first | (rw [ze _ _ q]; done) | (rw [zI _ _ q]; done))))), rfl⟩, trivial⟩
  · have q := qd.1 hb1
    refine zO <| zA <| zD <| zB <| g_u (zC rfl rfl) <| g_u (zE rfl rfl) <| zF <| zA <| zM ?_
    exact ⟨⟨(rfl : toAV (Al.look _ _) = some _).trans (congrArg some (by (exact congrArg iv (by first | (rw [ze _ _ q]; done) | (rw [zI _ _ q]; done))))), rfl⟩, trivial⟩
set_option maxHeartbeats 1000000 in
theorem none_c (t id : Bs) (h1 : t.length = 16) (h2 : id.length = 8) : zs Tryz.prog Γ0 108 [.arr 16 t, .arr 8 id] [bv (xm t || xm id)] := by
  refine zd Tryz.func108 rfl Tryz.ntmps108 (by kernel_rfl) rfl fun w0 I0 G0 => ?_
  refine zD <| zB <| g_uG (zp 1002 rfl rfl rfl rfl) rfl <| g_uG (zp 1003 rfl rfl rfl rfl) rfl <| g_u (zE rfl rfl) <| zF <| zA <| zD <| zB <| g_u (zE rfl rfl) <| g_u (zE rfl rfl) <| zF <| zA <| zD <| zD <| zB <| g_u (zE rfl rfl) <| zF <| zA <| zV ?_
  refine zu (fun i : Nat => [(2, .ptr 1002 0), (1002, .box 54 (.imm (.arr 16 t))), (3, .ptr 1003 0), (1003, .box 56 (.imm (.arr 8 id))), (5, .imm (bv (xm (t.take i)))), (6, .imm (bv true)), (7, .imm (iv (i : Int)))]) (fun i => i ≤ 16) (fun i => 16 - i) (0) ?_ ⟨rfl, rfl, rfl, rfl, rfl, rfl, rfl, trivial⟩ ?_
  · exact Nat.zero_le _
  · rintro i h1i; have h1i : i ≤ 16 := h1i
    refine zD <| zD <| zB <| g_u (zC rfl rfl) <| g_u (y_ rfl rfl rfl) <| zF <| zA ?_
    refine zN rfl (fun hb1 => ?_) (fun hb1 => ?_)
    · have hii : i + 1 ≤ 16 := by have := of_decide_eq_true hb1; omega
      refine zO <| zA <| zD <| zV <| zB <| g_u (zC rfl rfl) <| g_u (zC rfl rfl) <| yP (t := 14) rfl ?_
      rintro (hb2 | hb2)
      · rw [hb2]
        have q : xm (t.take i) = true := hb2
        refine zf rfl rfl (zC rfl rfl) ?_
        refine zf rfl rfl (s_ixOwn rfl rfl rfl Tryz.underlying54 tS5 (by ((try simp only [decide_eq_true_eq, decide_eq_false_iff_not, qc, ne_eq, beq_iff_eq, qd, beq_eq_false_iff_ne, Bool.not_eq_true', Bool.not_eq_false', gt_iff_lt, ge_iff_le] at *); (repeat simp (disch := omega) only [zK, za] at *)); omega)) ?_
        refine zf rfl rfl (s_loadByte rfl rfl rfl tA5 tS5 (by (try dsimp only); omega)) ?_
        refine zf rfl rfl (yy rfl rfl rfl) <| g_u (zk rfl rfl rfl) <| g_u (zE rfl rfl) <| zF <| zY <| zA <| zB <| g_u (zC rfl rfl) <| g_u (zz rfl rfl rfl) <| g_u (zE rfl rfl) <| zF <| zA ?_
        have ez := zeros_take (l := t) (i := i) (by omega)
        have ei : (0 + ((i : Nat) : Int).toNat) = i := by omega
        refine ⟨i + 1, hii, ⟨rfl, rfl, rfl, rfl, y7 rfl (by first | (rw [ez, q]; done) | (rw [ez, q]; rfl) | (rw [ez, q]; simp only [ei, Bool.true_and]; done) | (rw [ez, q]; simp only [ei, Bool.true_and]; rfl)), rfl, zZ rfl (by rw [zK (by omega) (by omega)]; rfl), trivial⟩, by (try dsimp only); omega⟩
      · rw [hb2]
        have q : xm (t.take i) = false := hb2
        refine zP rfl rfl rfl <| zP rfl rfl rfl <| zP rfl rfl rfl <| zP rfl rfl rfl <| g_u (zr rfl rfl rfl) <| g_u (zE rfl rfl) <| zF <| zY <| zA <| zB <| g_u (zC rfl rfl) <| g_u (zz rfl rfl rfl) <| g_u (zE rfl rfl) <| zF <| zA ?_
        have ez := zeros_take (l := t) (i := i) (by omega)
        have ei : (0 + ((i : Nat) : Int).toNat) = i := by omega
        refine ⟨i + 1, hii, ⟨rfl, rfl, rfl, rfl, y7 rfl (by first | (rw [ez, q]; done) | (rw [ez, q]; rfl) | (rw [ez, q]; simp only [ei, Bool.true_and]; done) | (rw [ez, q]; simp only [ei, Bool.true_and]; rfl)), rfl, zZ rfl (by rw [zK (by omega) (by omega)]; rfl), trivial⟩, by (try dsimp only); omega⟩
    · have hin : i = 16 := by have := of_decide_eq_false hb1; omega
      refine z7 <| zT <| zT <| zq <| zA <| zD <| zD <| zB <| g_u (zE rfl rfl) <| zF <| zA <| zV ?_
      refine zu (fun j : Nat => [(2, .ptr 1002 0), (1002, .box 54 (.imm (.arr 16 t))), (3, .ptr 1003 0), (1003, .box 56 (.imm (.arr 8 id))), (5, .imm (bv (xm t))), (6, .imm (bv (xm (id.take j)))), (8, .imm (iv (j : Int)))]) (fun j => j ≤ 8) (fun j => 8 - j) (0) ?_ ⟨rfl, rfl, rfl, rfl, y7 rfl (by rw [hin, ← h1, List.take_length]), rfl, rfl, trivial⟩ ?_
      · exact Nat.zero_le _
      · rintro j h1j; have h1j : j ≤ 8 := h1j
        refine zD <| zD <| zB <| g_u (zC rfl rfl) <| g_u (y_ rfl rfl rfl) <| zF <| zA ?_
        refine zN rfl (fun hb3 => ?_) (fun hb3 => ?_)
        · have hij : j + 1 ≤ 8 := by have := of_decide_eq_true hb3; omega
          refine zO <| zA <| zD <| zV <| zB <| g_u (zC rfl rfl) <| g_u (zC rfl rfl) <| yP (t := 25) rfl ?_
          rintro (hb4 | hb4)
          · rw [hb4]
            have q : xm (id.take j) = true := hb4
            refine zf rfl rfl (zC rfl rfl) ?_
            refine zf rfl rfl (s_ixOwn rfl rfl rfl Tryz.underlying56 tS5 (by ((try simp only [decide_eq_true_eq, decide_eq_false_iff_not, qc, ne_eq, beq_iff_eq, qd, beq_eq_false_iff_ne, Bool.not_eq_true', Bool.not_eq_false', gt_iff_lt, ge_iff_le] at *); (repeat simp (disch := omega) only [zK, za] at *)); omega)) ?_
            refine zf rfl rfl (s_loadByte rfl rfl rfl tA5 tS5 (by (try dsimp only); omega)) ?_
            refine zf rfl rfl (yy rfl rfl rfl) <| g_u (zk rfl rfl rfl) <| g_u (zE rfl rfl) <| zF <| zY <| zA <| zB <| g_u (zC rfl rfl) <| g_u (zz rfl rfl rfl) <| g_u (zE rfl rfl) <| zF <| zA ?_
            have ez := zeros_take (l := id) (i := j) (by omega)
            have ei : (0 + ((j : Nat) : Int).toNat) = j := by omega
            refine ⟨j + 1, hij, ⟨rfl, rfl, rfl, rfl, rfl, y7 rfl (by first | (rw [ez, q]; done) | (rw [ez, q]; rfl) | (rw [ez, q]; simp only [ei, Bool.true_and]; done) | (rw [ez, q]; simp only [ei, Bool.true_and]; rfl)), zZ rfl (by rw [zK (by omega) (by omega)]; rfl), trivial⟩, by (try dsimp only); omega⟩
          · rw [hb4]
            have q : xm (id.take j) = false := hb4
            refine zP rfl rfl rfl <| zP rfl rfl rfl <| zP rfl rfl rfl <| zP rfl rfl rfl <| g_u (zr rfl rfl rfl) <| g_u (zE rfl rfl) <| zF <| zY <| zA <| zB <| g_u (zC rfl rfl) <| g_u (zz rfl rfl rfl) <| g_u (zE rfl rfl) <| zF <| zA ?_
            have ez := zeros_take (l := id) (i := j) (by omega)
            have ei : (0 + ((j : Nat) : Int).toNat) = j := by omega
            refine ⟨j + 1, hij, ⟨rfl, rfl, rfl, rfl, rfl, y7 rfl (by first | (rw [ez, q]; done) | (rw [ez, q]; rfl) | (rw [ez, q]; simp only [ei, Bool.true_and]; done) | (rw [ez, q]; simp only [ei, Bool.true_and]; rfl)), zZ rfl (by rw [zK (by omega) (by omega)]; rfl), trivial⟩, by (try dsimp only); omega⟩
        · have hjn : j = 8 := by have := of_decide_eq_false hb3; omega
          refine z7 <| zT <| zT <| zq <| zA <| zD <| zB <| g_u (zC rfl rfl) <| g_u (zC rfl rfl) <| yP (t := 32) rfl ?_
          rintro (hb5 | hb5)
          · rw [hb5]
            have q : xm t = true := hb5
            refine zP rfl rfl rfl <| g_u (zk rfl rfl rfl) <| g_u (zE rfl rfl) <| zF <| zA <| zM ?_
            exact ⟨⟨(rfl : toAV (Al.look _ _) = some _).trans (congrArg some (by (exact congrArg bv (by (try rw [q]); first | rfl | (rw [hjn, ← h2, List.take_length]; rfl))))), rfl⟩, trivial⟩
          · rw [hb5]
            have q : xm t = false := hb5
            refine zf rfl rfl (zC rfl rfl) <| g_u (zr rfl rfl rfl) <| g_u (zE rfl rfl) <| zF <| zA <| zM ?_
            exact ⟨⟨(rfl : toAV (Al.look _ _) = some _).trans (congrArg some (by (exact congrArg bv (by (try rw [q]); first | rfl | (rw [hjn, ← h2, List.take_length]; rfl))))), rfl⟩, trivial⟩
set_option maxHeartbeats 1000000 in
theorem revents_c (l : List GE) (ho : ∀ e ∈ l, e.ok) (hw : zh GE.wt l ≤ 1000000) : zs Tryz.prog Γ0 111 [.sl 3 (l.map GE.av)] [iv (evsC l)] := by
  have ql := yo GE.wt (fun e => by unfold GE.wt; omega) l
  refine zd Tryz.func111 rfl Tryz.ntmps111 (by kernel_rfl) rfl fun w0 I0 G0 => ?_
  refine zD <| zB <| g_u (zE rfl rfl) <| zF <| zA <| zD <| zD <| zB <| g_u (zC rfl rfl) <| g_u (yJ rfl rfl Tryz.underlying58) <| g_u (xu rfl rfl rfl) <| zF <| zA ?_
  refine zN rfl (fun hb1 => ?_) (fun hb1 => ?_)
  · have q16 : 16 < l.length := by have := of_decide_eq_true hb1; (try simp only [List.length_map] at this); omega
    refine zD <| zB <| g_u (zE rfl rfl) <| zF <| zA <| zM <| zL ?_
    exact ⟨⟨(rfl : toAV (Al.look _ _) = some _).trans (congrArg some (by (exact congrArg iv (by unfold evsC; first | (rw [if_pos q16]; done) | (rw [if_neg q16, h2, hin, List.drop_length]; rfl) | (rw [if_neg q16, h2, E, if_pos qt]; done) | (rw [if_neg q16, h2, E, if_neg qt, ze _ _ q]; done))))), rfl⟩, trivial⟩
  · have q16 : ¬ 16 < l.length := by have := of_decide_eq_false hb1; (try simp only [List.length_map] at this); omega
    refine zO <| zA <| zD <| zD <| zB <| g_u (zE rfl rfl) <| zF <| zA <| zV ?_
    refine zu (fun i : Nat => [(0, .imm (.sl 3 (l.map GE.av))), (3, .imm (iv (i : Int)))]) (fun i => i ≤ l.length ∧ evC l = evC (l.drop i)) (fun i => l.length - i) (0) ?_ ⟨rfl, rfl, trivial⟩ ?_
    · exact ⟨Nat.zero_le _, rfl⟩
    · rintro i ⟨h1, h2⟩; (try dsimp only at h1 h2)
      refine zD <| zD <| zB <| g_u (zC rfl rfl) <| g_u (zC rfl rfl) <| g_u (yJ rfl rfl Tryz.underlying58) <| g_u (y_ rfl rfl rfl) <| zF <| zA ?_
      refine zN rfl (fun hb2 => ?_) (fun hb2 => ?_)
      · have hi : i < l.length := by have := of_decide_eq_true hb2; (try simp only [List.length_map] at this); omega
        have hx := yg GE.wt (nthE_mem hi)
        have hx2 : (nthE l i).wt = 1 + (nthE l i).name.size + wtAs (nthE l i).attrs := rfl
        have hxo := (ho _ (nthE_mem hi)).2.2
        have E := evC_drop hi
        refine zO <| zA <| zD <| zV <| zD <| zD <| zB <| g_u (zC rfl rfl) <| g_u (zC rfl rfl) ?_
        refine g_u (zR rfl rfl rfl Tryz.underlying58 tS92 (by omega) (ixE hi)) ?_
        refine g_u (zW rfl rfl fa92_0 rfl rfl) <| g_u (z_ rfl rfl tA57 tS57 rfl rfl) <| g_u (xu rfl rfl rfl) <| zF <| zA ?_
        refine zN rfl (fun hb3 => ?_) (fun hb3 => ?_)
        · have qt : 9223372036854775807 < (nthE l i).time := of_decide_eq_true hb3
          refine zD <| zB <| g_u (zE rfl rfl) <| zF <| zA <| zM <| zL <| zt <| zL <| zL <| zt <| zL ?_
          exact ⟨⟨(rfl : toAV (Al.look _ _) = some _).trans (congrArg some (by (exact congrArg iv (by unfold evsC; first | (rw [if_pos q16]; done) | (rw [if_neg q16, h2, hin, List.drop_length]; rfl) | (rw [if_neg q16, h2, E, if_pos qt]; done) | (rw [if_neg q16, h2, E, if_neg qt, ze _ _ q]; done))))), rfl⟩, trivial⟩
        · have qt : ¬ 9223372036854775807 < (nthE l i).time := of_decide_eq_false hb3
          refine zO <| zA <| zD <| yX xb <| g_u (zC rfl rfl) <| g_u (zC rfl rfl) ?_
          refine g_u (zR rfl rfl rfl Tryz.underlying58 tS92 (by omega) (ixE hi)) ?_
          refine g_u (zW rfl rfl fa92_1 rfl rfl) <| g_u (z_ rfl rfl tA9 tS9 rfl rfl) ?_
          refine g_u (zQ (rname_c _ (by omega)) rfl rfl) ?_
          refine g_u (zC rfl rfl) <| g_u (zC rfl rfl) ?_
          refine g_u (zR rfl rfl rfl Tryz.underlying58 tS92 (by omega) (ixE hi)) ?_
          refine g_u (zW rfl rfl fa92_2 rfl rfl) <| g_u (z_ rfl rfl tA44 tS44 rfl rfl) ?_
          refine g_u (zQ (rcheckAs_c _ (by assumption) (by omega)) rfl rfl) ?_
          refine g_u (zQ (or_c _ _) rfl rfl) <| g_u (zE rfl rfl) ?_
          refine zF ⟨by kernel_rfl, ?_⟩
          refine zA <| zD <| zB <| g_u (zC rfl rfl) <| g_u (wv rfl rfl rfl) <| zF <| zA ?_
          refine zN rfl (fun hb4 => ?_) (fun hb4 => ?_)
          · have q := qc.1 hb4
            refine zD <| zB <| g_u (zC rfl rfl) <| g_u (zE rfl rfl) <| zF <| zA <| zM <| zt <| zL <| zL <| zt <| zL ?_
            exact ⟨⟨(rfl : toAV (Al.look _ _) = some _).trans (congrArg some (by (exact congrArg iv (by unfold evsC; first | (rw [if_pos q16]; done) | (rw [if_neg q16, h2, hin, List.drop_length]; rfl) | (rw [if_neg q16, h2, E, if_pos qt]; done) | (rw [if_neg q16, h2, E, if_neg qt, ze _ _ q]; done))))), rfl⟩, trivial⟩
          · have q := qd.1 hb4
            refine zO <| zY <| zA <| zB <| g_u (zC rfl rfl) <| g_u (zz rfl rfl rfl) <| g_u (zE rfl rfl) <| zF <| zA ?_
            refine ⟨i + 1, ⟨hi, by (try dsimp only); rw [h2, E, if_neg qt, zI _ _ q]⟩, ⟨rfl, zZ rfl (by rw [zK (by omega) (by omega)]; rfl), trivial⟩, by (try dsimp only); omega⟩
      · have hin : i = l.length := by have := of_decide_eq_false hb2; (try simp only [List.length_map] at this); omega
        refine z7 <| zT <| zT <| zq <| zA <| zD <| zB <| g_u (zE rfl rfl) <| zF <| zA <| zM ?_
        exact ⟨⟨(rfl : toAV (Al.look _ _) = some _).trans (congrArg some (by (exact congrArg iv (by unfold evsC; first | (rw [if_pos q16]; done) | (rw [if_neg q16, h2, hin, List.drop_length]; rfl) | (rw [if_neg q16, h2, E, if_pos qt]; done) | (rw [if_neg q16, h2, E, if_neg qt, ze _ _ q]; done))))), rfl⟩, trivial⟩
set_option maxHeartbeats 2000000 in
theorem rlinks_c (l : List GL) (ho : ∀ e ∈ l, e.ok) (hw : zh GL.wt l ≤ 1000000) : zs Tryz.prog Γ0 112 [.sl 26 (l.map GL.av)] [iv (lksC l)] := by
  have ql := yo GL.wt (fun e => by unfold GL.wt; omega) l
  refine zd Tryz.func112 rfl Tryz.ntmps112 (by kernel_rfl) rfl fun w0 I0 G0 => ?_
  refine zD <| zB <| g_u (zE rfl rfl) <| zF <| zA <| zD <| zD <| zB <| g_u (zC rfl rfl) <| g_u (yJ rfl rfl Tryz.underlying59) <| g_u (xu rfl rfl rfl) <| zF <| zA ?_
  refine zN rfl (fun hb1 => ?_) (fun hb1 => ?_)
  · have q16 : 16 < l.length := by have := of_decide_eq_true hb1; (try simp only [List.length_map] at this); omega
    refine zD <| zB <| g_u (zE rfl rfl) <| zF <| zA <| zM <| zL ?_
    exact ⟨⟨(rfl : toAV (Al.look _ _) = some _).trans (congrArg some (by (exact congrArg iv (by unfold lksC; first | (rw [if_pos q16]; done) | (rw [if_neg q16, h2, hin, List.drop_length]; rfl) | (rw [if_neg q16, h2, E, if_pos q]; done) | (rw [if_neg q16, h2, E, q, if_neg (by decide), ze _ _ q2]; done))))), rfl⟩, trivial⟩
  · have q16 : ¬ 16 < l.length := by have := of_decide_eq_false hb1; (try simp only [List.length_map] at this); omega
    refine zO <| zA <| zD <| zD <| zB <| g_u (zE rfl rfl) <| zF <| zA <| zV ?_
    refine zu (fun i : Nat => [(0, .imm (.sl 26 (l.map GL.av))), (3, .imm (iv (i : Int)))]) (fun i => i ≤ l.length ∧ lkC l = lkC (l.drop i)) (fun i => l.length - i) (0) ?_ ⟨rfl, rfl, trivial⟩ ?_
    · exact ⟨Nat.zero_le _, rfl⟩
    · rintro i ⟨h1, h2⟩; (try dsimp only at h1 h2)
      refine zD <| zD <| zB <| g_u (zC rfl rfl) <| g_u (zC rfl rfl) <| g_u (yJ rfl rfl Tryz.underlying59) <| g_u (y_ rfl rfl rfl) <| zF <| zA ?_
      refine zN rfl (fun hb2 => ?_) (fun hb2 => ?_)
      · have hi : i < l.length := by have := of_decide_eq_true hb2; (try simp only [List.length_map] at this); omega
        have hx := yg GL.wt (nthL_mem hi)
        have hx2 : (nthL l i).wt = 1 + (nthL l i).state.size + wtAs (nthL l i).attrs := rfl
        have hx3 := ho _ (nthL_mem hi)
        have hxo := hx3.2.2.2
        have hx4 := hx3.1
        have hx5 := hx3.2.1
        have E := lkC_drop hi
        refine zO <| zA <| zD <| zV <| zD <| zD <| yX xb <| g_u (zC rfl rfl) <| g_u (zC rfl rfl) ?_
        refine g_u (zR rfl rfl rfl Tryz.underlying59 tS94 (by omega) (ixL hi)) ?_
        refine g_u (zW rfl rfl fa94_0 rfl rfl) <| g_u (z_ rfl rfl tA54 tS54 rfl rfl) <| g_u (zC rfl rfl) <| g_u (zC rfl rfl) ?_
        refine g_u (zR rfl rfl rfl Tryz.underlying59 tS94 (by omega) (ixL hi)) ?_
        refine g_u (zW rfl rfl fa94_1 rfl rfl) <| g_u (z_ rfl rfl tA56 tS56 rfl rfl) ?_
        refine g_u (zQ (none_c _ _ (by assumption) (by assumption)) rfl rfl) ?_
        refine zF ⟨by kernel_rfl, ?_⟩
        refine zA ?_
        refine zN rfl (fun hb3 => ?_) (fun hb3 => ?_)
        · have q : (xm (nthL l i).trace || xm (nthL l i).span) = true := hb3
          refine zD <| zB <| g_u (zE rfl rfl) <| zF <| zA <| zM <| zL <| zt <| zL <| zL <| zt <| zL ?_
          exact ⟨⟨(rfl : toAV (Al.look _ _) = some _).trans (congrArg some (by (exact congrArg iv (by unfold lksC; first | (rw [if_pos q16]; done) | (rw [if_neg q16, h2, hin, List.drop_length]; rfl) | (rw [if_neg q16, h2, E, if_pos q]; done) | (rw [if_neg q16, h2, E, q, if_neg (by decide), ze _ _ q2]; done))))), rfl⟩, trivial⟩
        · have q : (xm (nthL l i).trace || xm (nthL l i).span) = false := hb3
          refine zO <| zA <| zD <| yX xb <| g_u (zC rfl rfl) <| g_u (zC rfl rfl) ?_
          refine g_u (zR rfl rfl rfl Tryz.underlying59 tS94 (by omega) (ixL hi)) ?_
          refine g_u (zW rfl rfl fa94_2 rfl rfl) <| g_u (z_ rfl rfl tA9 tS9 rfl rfl) ?_
          refine g_u (zQ (rname_c _ (by omega)) rfl rfl) ?_
          refine g_u (zC rfl rfl) <| g_u (zC rfl rfl) ?_
          refine g_u (zR rfl rfl rfl Tryz.underlying59 tS94 (by omega) (ixL hi)) ?_
          refine g_u (zW rfl rfl fa94_3 rfl rfl) <| g_u (z_ rfl rfl tA44 tS44 rfl rfl) ?_
          refine g_u (zQ (rcheckAs_c _ (by assumption) (by omega)) rfl rfl) ?_
          refine g_u (zQ (or_c _ _) rfl rfl) <| g_u (zE rfl rfl) ?_
          refine zF ⟨by kernel_rfl, ?_⟩
          refine zA <| zD <| zB <| g_u (zC rfl rfl) <| g_u (wv rfl rfl rfl) <| zF <| zA ?_
          refine zN rfl (fun hb4 => ?_) (fun hb4 => ?_)
          · have q2 := qc.1 hb4
            refine zD <| zB <| g_u (zC rfl rfl) <| g_u (zE rfl rfl) <| zF <| zA <| zM <| zt <| zL <| zL <| zt <| zL ?_
            exact ⟨⟨(rfl : toAV (Al.look _ _) = some _).trans (congrArg some (by (exact congrArg iv (by unfold lksC; first | (rw [if_pos q16]; done) | (rw [if_neg q16, h2, hin, List.drop_length]; rfl) | (rw [if_neg q16, h2, E, if_pos q]; done) | (rw [if_neg q16, h2, E, q, if_neg (by decide), ze _ _ q2]; done))))), rfl⟩, trivial⟩
          · have q2 := qd.1 hb4
            refine zO <| zY <| zA <| zB <| g_u (zC rfl rfl) <| g_u (zz rfl rfl rfl) <| g_u (zE rfl rfl) <| zF <| zA ?_
            refine ⟨i + 1, ⟨hi, by (try dsimp only); rw [h2, E, q, if_neg (by decide), zI _ _ q2]⟩, ⟨rfl, zZ rfl (by rw [zK (by omega) (by omega)]; rfl), trivial⟩, by (try dsimp only); omega⟩
      · have hin : i = l.length := by have := of_decide_eq_false hb2; (try simp only [List.length_map] at this); omega
        refine z7 <| zT <| zT <| zq <| zA <| zD <| zB <| g_u (zE rfl rfl) <| zF <| zA <| zM ?_
        exact ⟨⟨(rfl : toAV (Al.look _ _) = some _).trans (congrArg some (by (exact congrArg iv (by unfold lksC; first | (rw [if_pos q16]; done) | (rw [if_neg q16, h2, hin, List.drop_length]; rfl) | (rw [if_neg q16, h2, E, if_pos q]; done) | (rw [if_neg q16, h2, E, q, if_neg (by decide), ze _ _ q2]; done))))), rfl⟩, trivial⟩
set_option maxHeartbeats 4000000 in
theorem rspanCheck_c (s : GSpan) (ho : s.ok) (hw : s.wt ≤ 1000000) : zs Tryz.prog Γ0 76 [s.av] [iv (vI s)] := by
  have qw : s.wt = 1 + s.state.size + s.name.size + s.note.size + wtAs s.attrs + zh GE.wt s.events + zh GL.wt s.links := rfl
  have ql := yo GE.wt (fun e => by unfold GE.wt; omega) s.events
  have qm := yo GL.wt (fun e => by unfold GL.wt; omega) s.links
  obtain ⟨⟨o1, o2, o3⟩, ⟨o4, o5, o6⟩, o7, ho8, ho9, ho10⟩ := ho
  refine zd Tryz.func76 rfl Tryz.ntmps76 (by kernel_rfl) rfl fun w0 I0 G0 => ?_
  refine zD <| zB <| g_uG (zp 1001 rfl rfl rfl rfl) rfl <| g_u (zE rfl rfl) <| zF <| zA <| zD <| zD <| zB <| g_u (zG rfl rfl fa63_0 rfl) <| g_u (zH rfl rfl rfl tA54 tS54 rfl rfl) <| g_u (zG rfl rfl fa63_1 rfl) <| g_u (zH rfl rfl rfl tA56 tS56 rfl rfl) ?_
  refine g_u (zQ (none_c _ _ (by assumption) (by assumption)) rfl rfl) ?_
  refine zF <| zA ?_
  refine zN rfl (fun hb1 => ?_) (fun hb1 => ?_)
  · have hz : (xm s.trace || xm s.id) = true := hb1
    refine zD <| zB <| g_u (zE rfl rfl) <| zF <| zA <| zM <| zL ?_
    exact ⟨⟨(rfl : toAV (Al.look _ _) = some _).trans (congrArg some (by (exact congrArg iv (by rw [vF]; first | (rw [hz, if_pos rfl, ze _ _ (by decide)]; done) | (rw [hz, if_neg (by decide), zI _ _ rfl, ze _ _ q23]; done) | (rw [hz, if_neg (by decide), zI _ _ rfl, zI _ _ q23, if_pos hk, ze _ _ (by decide)]; done) | (rw [hz, if_neg (by decide), zI _ _ rfl, zI _ _ q23, if_neg hk, zI _ _ rfl, hf, ze _ _ (by decide)]; done) | (rw [hz, if_neg (by decide), zI _ _ rfl, zI _ _ q23, if_neg hk, zI _ _ rfl, zI _ _ hf, ze _ _ q6]; done) | (rw [hz, if_neg (by decide), zI _ _ rfl, zI _ _ q23, if_neg hk, zI _ _ rfl, zI _ _ hf, zI _ _ q6, if_pos hc, ze _ _ (by decide)]; done) | (rw [hz, if_neg (by decide), zI _ _ rfl, zI _ _ q23, if_neg hk, zI _ _ rfl, zI _ _ hf, zI _ _ q6, if_neg hc, zI _ _ rfl]; done))))), rfl⟩, trivial⟩
  · have hz : (xm s.trace || xm s.id) = false := hb1
    refine zO <| zA <| zD <| zD <| yX xb <| g_u (zG rfl rfl fa63_3 rfl) <| g_u (zH rfl rfl rfl tA9 tS9 rfl rfl) ?_
    refine g_u (zQ (rname_c _ (by omega)) rfl rfl) ?_
    refine g_u (zG rfl rfl fa63_4 rfl) <| g_u (zH rfl rfl rfl tA9 tS9 rfl rfl) ?_
    refine g_u (zQ (rname_c _ (by omega)) rfl rfl) ?_
    refine g_u (zQ (or_c _ _) rfl rfl) <| g_u (zE rfl rfl) ?_
    refine zF ⟨by kernel_rfl, ?_⟩
    refine zA <| zD <| zB <| g_u (zC rfl rfl) <| g_u (wv rfl rfl rfl) <| zF <| zA ?_
    refine zN rfl (fun hb2 => ?_) (fun hb2 => ?_)
    · have q23 := qc.1 hb2
      refine zD <| zB <| g_u (zC rfl rfl) <| g_u (zE rfl rfl) <| zF <| zA <| zM <| zL ?_
      exact ⟨⟨(rfl : toAV (Al.look _ _) = some _).trans (congrArg some (by (exact congrArg iv (by rw [vF]; first | (rw [hz, if_pos rfl, ze _ _ (by decide)]; done) | (rw [hz, if_neg (by decide), zI _ _ rfl, ze _ _ q23]; done) | (rw [hz, if_neg (by decide), zI _ _ rfl, zI _ _ q23, if_pos hk, ze _ _ (by decide)]; done) | (rw [hz, if_neg (by decide), zI _ _ rfl, zI _ _ q23, if_neg hk, zI _ _ rfl, hf, ze _ _ (by decide)]; done) | (rw [hz, if_neg (by decide), zI _ _ rfl, zI _ _ q23, if_neg hk, zI _ _ rfl, zI _ _ hf, ze _ _ q6]; done) | (rw [hz, if_neg (by decide), zI _ _ rfl, zI _ _ q23, if_neg hk, zI _ _ rfl, zI _ _ hf, zI _ _ q6, if_pos hc, ze _ _ (by decide)]; done) | (rw [hz, if_neg (by decide), zI _ _ rfl, zI _ _ q23, if_neg hk, zI _ _ rfl, zI _ _ hf, zI _ _ q6, if_neg hc, zI _ _ rfl]; done))))), rfl⟩, trivial⟩
    · have q23 := qd.1 hb2
      refine zO <| zA <| zD <| zD <| zB <| g_u (zG rfl rfl fa63_5 rfl) <| g_u (zH rfl rfl rfl tA3 tS3 rfl rfl) <| g_u (y_ rfl rfl rfl) <| g_u (zC rfl rfl) <| yP (t := 23) rfl ?_
      rintro (hb3 | hb3)
      · rw [hb3]
        have hk : s.kind < 0 ∨ 5 < s.kind := .inl (of_decide_eq_true hb3)
        refine zP rfl rfl rfl <| zP rfl rfl rfl <| zP rfl rfl rfl <| g_u (zk rfl rfl rfl) <| zF <| zA <| zy rfl <| zD <| zB <| g_u (zE rfl rfl) <| zF <| zA <| zM <| zL ?_
        exact ⟨⟨(rfl : toAV (Al.look _ _) = some _).trans (congrArg some (by (exact congrArg iv (by rw [vF]; first | (rw [hz, if_pos rfl, ze _ _ (by decide)]; done) | (rw [hz, if_neg (by decide), zI _ _ rfl, ze _ _ q23]; done) | (rw [hz, if_neg (by decide), zI _ _ rfl, zI _ _ q23, if_pos hk, ze _ _ (by decide)]; done) | (rw [hz, if_neg (by decide), zI _ _ rfl, zI _ _ q23, if_neg hk, zI _ _ rfl, hf, ze _ _ (by decide)]; done) | (rw [hz, if_neg (by decide), zI _ _ rfl, zI _ _ q23, if_neg hk, zI _ _ rfl, zI _ _ hf, ze _ _ q6]; done) | (rw [hz, if_neg (by decide), zI _ _ rfl, zI _ _ q23, if_neg hk, zI _ _ rfl, zI _ _ hf, zI _ _ q6, if_pos hc, ze _ _ (by decide)]; done) | (rw [hz, if_neg (by decide), zI _ _ rfl, zI _ _ q23, if_neg hk, zI _ _ rfl, zI _ _ hf, zI _ _ q6, if_neg hc, zI _ _ rfl]; done))))), rfl⟩, trivial⟩
      · rw [hb3]
        have hk0 : ¬ s.kind < 0 := of_decide_eq_false hb3
        refine zf rfl rfl (zG rfl rfl fa63_5 rfl) <| zf rfl rfl (zH rfl rfl rfl tA3 tS3 rfl rfl) <| zf rfl rfl (xu rfl rfl rfl) <| g_u (zr rfl rfl rfl) <| zF <| zA ?_
        refine zN rfl (fun hb4 => ?_) (fun hb4 => ?_)
        · have hk : s.kind < 0 ∨ 5 < s.kind := .inr (of_decide_eq_true hb4)
          refine zD <| zB <| g_u (zE rfl rfl) <| zF <| zA <| zM <| zL ?_
          exact ⟨⟨(rfl : toAV (Al.look _ _) = some _).trans (congrArg some (by (exact congrArg iv (by rw [vF]; first | (rw [hz, if_pos rfl, ze _ _ (by decide)]; done) | (rw [hz, if_neg (by decide), zI _ _ rfl, ze _ _ q23]; done) | (rw [hz, if_neg (by decide), zI _ _ rfl, zI _ _ q23, if_pos hk, ze _ _ (by decide)]; done) | (rw [hz, if_neg (by decide), zI _ _ rfl, zI _ _ q23, if_neg hk, zI _ _ rfl, hf, ze _ _ (by decide)]; done) | (rw [hz, if_neg (by decide), zI _ _ rfl, zI _ _ q23, if_neg hk, zI _ _ rfl, zI _ _ hf, ze _ _ q6]; done) | (rw [hz, if_neg (by decide), zI _ _ rfl, zI _ _ q23, if_neg hk, zI _ _ rfl, zI _ _ hf, zI _ _ q6, if_pos hc, ze _ _ (by decide)]; done) | (rw [hz, if_neg (by decide), zI _ _ rfl, zI _ _ q23, if_neg hk, zI _ _ rfl, zI _ _ hf, zI _ _ q6, if_neg hc, zI _ _ rfl]; done))))), rfl⟩, trivial⟩
        · have hk : ¬ (s.kind < 0 ∨ 5 < s.kind) := fun h => h.elim hk0 (of_decide_eq_false hb4)
          refine zO <| zA <| zD <| zD <| zB <| g_u (zG rfl rfl fa63_6 rfl) <| g_u (zH rfl rfl rfl tA57 tS57 rfl rfl) <| g_u (zG rfl rfl fa63_7 rfl) <| g_u (zH rfl rfl rfl tA57 tS57 rfl rfl) <| g_u (zQ (rfine_c _ _) rfl rfl) <| g_u (s_not rfl rfl) <| zF <| zA ?_
          refine zN rfl (fun hb5 => ?_) (fun hb5 => ?_)
          · have hf := rgCheck_bad (s := s.start) (e := s.fin) (by have e := hb5; simpa using e)
            refine zD <| zB <| g_u (zE rfl rfl) <| zF <| zA <| zM <| zL ?_
            exact ⟨⟨(rfl : toAV (Al.look _ _) = some _).trans (congrArg some (by (exact congrArg iv (by rw [vF]; first | (rw [hz, if_pos rfl, ze _ _ (by decide)]; done) | (rw [hz, if_neg (by decide), zI _ _ rfl, ze _ _ q23]; done) | (rw [hz, if_neg (by decide), zI _ _ rfl, zI _ _ q23, if_pos hk, ze _ _ (by decide)]; done) | (rw [hz, if_neg (by decide), zI _ _ rfl, zI _ _ q23, if_neg hk, zI _ _ rfl, hf, ze _ _ (by decide)]; done) | (rw [hz, if_neg (by decide), zI _ _ rfl, zI _ _ q23, if_neg hk, zI _ _ rfl, zI _ _ hf, ze _ _ q6]; done) | (rw [hz, if_neg (by decide), zI _ _ rfl, zI _ _ q23, if_neg hk, zI _ _ rfl, zI _ _ hf, zI _ _ q6, if_pos hc, ze _ _ (by decide)]; done) | (rw [hz, if_neg (by decide), zI _ _ rfl, zI _ _ q23, if_neg hk, zI _ _ rfl, zI _ _ hf, zI _ _ q6, if_neg hc, zI _ _ rfl]; done))))), rfl⟩, trivial⟩
          · have hf := rgCheck_fine (s := s.start) (e := s.fin) (by have e := hb5; simpa using e)
            refine zO <| zA <| zD <| yX xb <| g_u (zG rfl rfl fa63_8 rfl) <| g_u (zH rfl rfl rfl tA44 tS44 rfl rfl) ?_
            refine g_u (zQ (rcheckAs_c _ (by assumption) (by omega)) rfl rfl) ?_
            refine g_u (zG rfl rfl fa63_9 rfl) <| g_u (zH rfl rfl rfl tA58 tS58 rfl rfl) ?_
            refine g_u (zQ (revents_c _ (by assumption) (by omega)) rfl rfl) ?_
            refine g_u (zG rfl rfl fa63_10 rfl) <| g_u (zH rfl rfl rfl tA59 tS59 rfl rfl) ?_
            refine g_u (zQ (rlinks_c _ (by assumption) (by omega)) rfl rfl) ?_
            refine g_u (zQ (or_c _ _) rfl rfl) <| g_u (zQ (or_c _ _) rfl rfl) <| g_u (zE rfl rfl) ?_
            refine zF ⟨by kernel_rfl, ?_⟩
            refine zA <| zD <| zD <| zB <| g_u (zC rfl rfl) <| g_u (wv rfl rfl rfl) <| zF <| zA ?_
            refine zN rfl (fun hb6 => ?_) (fun hb6 => ?_)
            · have q6 := qc.1 hb6
              refine zD <| zB <| g_u (zC rfl rfl) <| g_u (zE rfl rfl) <| zF <| zA <| zM <| zL ?_
              exact ⟨⟨(rfl : toAV (Al.look _ _) = some _).trans (congrArg some (by (exact congrArg iv (by rw [vF]; first | (rw [hz, if_pos rfl, ze _ _ (by decide)]; done) | (rw [hz, if_neg (by decide), zI _ _ rfl, ze _ _ q23]; done) | (rw [hz, if_neg (by decide), zI _ _ rfl, zI _ _ q23, if_pos hk, ze _ _ (by decide)]; done) | (rw [hz, if_neg (by decide), zI _ _ rfl, zI _ _ q23, if_neg hk, zI _ _ rfl, hf, ze _ _ (by decide)]; done) | (rw [hz, if_neg (by decide), zI _ _ rfl, zI _ _ q23, if_neg hk, zI _ _ rfl, zI _ _ hf, ze _ _ q6]; done) | (rw [hz, if_neg (by decide), zI _ _ rfl, zI _ _ q23, if_neg hk, zI _ _ rfl, zI _ _ hf, zI _ _ q6, if_pos hc, ze _ _ (by decide)]; done) | (rw [hz, if_neg (by decide), zI _ _ rfl, zI _ _ q23, if_neg hk, zI _ _ rfl, zI _ _ hf, zI _ _ q6, if_neg hc, zI _ _ rfl]; done))))), rfl⟩, trivial⟩
            · have q6 := qd.1 hb6
              refine zO <| zA <| zD <| zD <| zB <| g_u (zG rfl rfl fa63_11 rfl) <| g_u (zG rfl rfl fa61_0 rfl) <| g_u (zH rfl rfl rfl tA3 tS3 rfl rfl) <| g_u (y_ rfl rfl rfl) <| g_u (zC rfl rfl) <| yP (t := 52) rfl ?_
              rintro (hb7 | hb7)
              · rw [hb7]
                have hc : s.code < 0 ∨ 2 < s.code := .inl (of_decide_eq_true hb7)
                refine zP rfl rfl rfl <| zP rfl rfl rfl <| zP rfl rfl rfl <| zP rfl rfl rfl <| g_u (zk rfl rfl rfl) <| zF <| zA <| zy rfl <| zD <| zB <| g_u (zE rfl rfl) <| zF <| zA <| zM <| zL ?_
                exact ⟨⟨(rfl : toAV (Al.look _ _) = some _).trans (congrArg some (by (exact congrArg iv (by rw [vF]; first | (rw [hz, if_pos rfl, ze _ _ (by decide)]; done) | (rw [hz, if_neg (by decide), zI _ _ rfl, ze _ _ q23]; done) | (rw [hz, if_neg (by decide), zI _ _ rfl, zI _ _ q23, if_pos hk, ze _ _ (by decide)]; done) | (rw [hz, if_neg (by decide), zI _ _ rfl, zI _ _ q23, if_neg hk, zI _ _ rfl, hf, ze _ _ (by decide)]; done) | (rw [hz, if_neg (by decide), zI _ _ rfl, zI _ _ q23, if_neg hk, zI _ _ rfl, zI _ _ hf, ze _ _ q6]; done) | (rw [hz, if_neg (by decide), zI _ _ rfl, zI _ _ q23, if_neg hk, zI _ _ rfl, zI _ _ hf, zI _ _ q6, if_pos hc, ze _ _ (by decide)]; done) | (rw [hz, if_neg (by decide), zI _ _ rfl, zI _ _ q23, if_neg hk, zI _ _ rfl, zI _ _ hf, zI _ _ q6, if_neg hc, zI _ _ rfl]; done))))), rfl⟩, trivial⟩
              · rw [hb7]
                have hc0 : ¬ s.code < 0 := of_decide_eq_false hb7
                refine zf rfl rfl (zG rfl rfl fa63_11 rfl) <| zf rfl rfl (zG rfl rfl fa61_0 rfl) <| zf rfl rfl (zH rfl rfl rfl tA3 tS3 rfl rfl) <| zf rfl rfl (xu rfl rfl rfl) <| g_u (zr rfl rfl rfl) <| zF <| zA ?_
                refine zN rfl (fun hb8 => ?_) (fun hb8 => ?_)
                · have hc : s.code < 0 ∨ 2 < s.code := .inr (of_decide_eq_true hb8)
                  refine zD <| zB <| g_u (zE rfl rfl) <| zF <| zA <| zM <| zL ?_
                  exact ⟨⟨(rfl : toAV (Al.look _ _) = some _).trans (congrArg some (by (exact congrArg iv (by rw [vF]; first | (rw [hz, if_pos rfl, ze _ _ (by decide)]; done) | (rw [hz, if_neg (by decide), zI _ _ rfl, ze _ _ q23]; done) | (rw [hz, if_neg (by decide), zI _ _ rfl, zI _ _ q23, if_pos hk, ze _ _ (by decide)]; done) | (rw [hz, if_neg (by decide), zI _ _ rfl, zI _ _ q23, if_neg hk, zI _ _ rfl, hf, ze _ _ (by decide)]; done) | (rw [hz, if_neg (by decide), zI _ _ rfl, zI _ _ q23, if_neg hk, zI _ _ rfl, zI _ _ hf, ze _ _ q6]; done) | (rw [hz, if_neg (by decide), zI _ _ rfl, zI _ _ q23, if_neg hk, zI _ _ rfl, zI _ _ hf, zI _ _ q6, if_pos hc, ze _ _ (by decide)]; done) | (rw [hz, if_neg (by decide), zI _ _ rfl, zI _ _ q23, if_neg hk, zI _ _ rfl, zI _ _ hf, zI _ _ q6, if_neg hc, zI _ _ rfl]; done))))), rfl⟩, trivial⟩
                · have hc : ¬ (s.code < 0 ∨ 2 < s.code) := fun h => h.elim hc0 (of_decide_eq_false hb8)
                  refine zO <| zA <| zD <| zB <| g_u (zG rfl rfl fa63_11 rfl) <| g_u (zG rfl rfl fa61_1 rfl) <| g_u (zH rfl rfl rfl tA9 tS9 rfl rfl) ?_
                  refine g_u (zQ (rname_c _ (by omega)) rfl rfl) ?_
                  refine g_u (zE rfl rfl) <| zF <| zA <| zM ?_
                  exact ⟨⟨(rfl : toAV (Al.look _ _) = some _).trans (congrArg some (by (exact congrArg iv (by rw [vF]; first | (rw [hz, if_pos rfl, ze _ _ (by decide)]; done) | (rw [hz, if_neg (by decide), zI _ _ rfl, ze _ _ q23]; done) | (rw [hz, if_neg (by decide), zI _ _ rfl, zI _ _ q23, if_pos hk, ze _ _ (by decide)]; done) | (rw [hz, if_neg (by decide), zI _ _ rfl, zI _ _ q23, if_neg hk, zI _ _ rfl, hf, ze _ _ (by decide)]; done) | (rw [hz, if_neg (by decide), zI _ _ rfl, zI _ _ q23, if_neg hk, zI _ _ rfl, zI _ _ hf, ze _ _ q6]; done) | (rw [hz, if_neg (by decide), zI _ _ rfl, zI _ _ q23, if_neg hk, zI _ _ rfl, zI _ _ hf, zI _ _ q6, if_pos hc, ze _ _ (by decide)]; done) | (rw [hz, if_neg (by decide), zI _ _ rfl, zI _ _ q23, if_neg hk, zI _ _ rfl, zI _ _ hf, zI _ _ q6, if_neg hc, zI _ _ rfl]; done))))), rfl⟩, trivial⟩
end Go.Proofs
namespace Go.Proofs
open Go Go.Al
set_option maxRecDepth 10000
end Go.Proofs
namespace Go.Proofs
open Go Go.Al
set_option maxRecDepth 10000
end Go.Proofs
namespace Go.Al
open Go.RowKit
def base (P : Program) (Γ : List (Nat × AV)) (N : Nat) (w : World) (G : Gh) : Cx := ⟨P, w, G.I, fun _ => False, N, 100000, G, Γ, [], none⟩
theorem notOwn_res {G : Gh} {k b : Nat} {x : SV} (h : x.res = false) : ¬ zi G k b x := by cases x <;> simp [SV.res, zi] at h ⊢
theorem Holds.mono_slot {w0 w1 : World} {E E' : Nat → Prop} {G G' : Gh} {a : Act} {w w' : World} {k : Nat} {x : SV} (hx : x.res = false) (hle : Le w G.I w' G'.I) (hg : GRel [] G G') (h : Holds w0 E G a w k x) : Holds w1 E' G' a w' k x := by
  cases x <;> simp only [Holds] at h ⊢ <;> first | trivial | exact ⟨h.1, xV.mono hle hg (xX.1 _) h.2⟩ | cases hx
theorem SimG.turned {P : Program} {Γ : List (Nat × AV)} {N : Nat} {A : Nat → SV} {G : Gh} {a : Act} {w w' : World} {I' : Nat → Nat → Prop} (S : SimG (base P Γ N w G) A G a w) (hr : ∀ k, (A k).res = false)
    (hle : Le w G.I w' I') (hv : ValI w' I') : SimG (base P Γ N w' { G with I := I' }) A { G with I := I' } a w' :=
  ⟨rfl, rfl, rfl, Nat.le_refl _, fun _ _ _ => rfl, Le.refl _ _, fun _ _ => ⟨rfl, .inl ⟨rfl, rfl⟩⟩, S.glob.mono hle, fun _ _ h => .inl h, hv, S.nts, S.dfs,
    fun k => (S.holds k).mono_slot (hr k) hle (fun _ _ => ⟨rfl, .inl ⟨rfl, rfl⟩⟩), fun k _ _ _ h _ => notOwn_res (hr k) h⟩
section
variable {ι : Type} {P : Program} {Γ : List (Nat × AV)} {N n : Nat} {J : ι → (Nat → Nat → Prop) → World → Prop}
variable {c x y : Code} {st : St} {j : ι} {K : St → ι → Prop} {Q : Exit → St → ι → Prop}
theorem Go1.mono {C : Cx} {ops : Array Oper} {K K' : St → List Tr → Prop} (hK : ∀ st tr, K st tr → K' st tr) : ∀ {os : List Oper} {st : St} {tr : List Tr}, Go1 C ops os st tr K → Go1 C ops os st tr K'
  | [], _, _, h => hK _ _ h
  | _ :: _, _, _, ⟨t, h1, h2, h3⟩ => ⟨t, h1, h2, Go1.mono hK h3⟩
end
end Go.Al
namespace Go.Al
open Go.RowKit
theorem Holds.kind {w0 : World} {E : Nat → Prop} {G : Gh} {a : Act} {w : World} {k b : Nat} {x : SV} (r : Holds w0 E G a w k x) (h : zi G k b x) {o : Obj} (ho : w.heap[b]? = some o) : isBook o = false := by
  cases x <;> simp only [zi] at h <;> simp only [Holds] at r
  case box T x =>
    obtain ⟨_, ⟨cs, fr, h1, _⟩, _⟩ := r
    rw [h, ho] at h1; cases h1; rfl
  case mpr ks vs =>
    obtain ⟨_, ⟨es, h1, _⟩, _⟩ := r
    rw [h, ho] at h1; cases h1; rfl
  case gen R => exact (R _ _ _).kind _ _ _ _ r.2 h ho
  case row l =>
    obtain ⟨ad, n', c, h1, h2⟩ := h
    rcases r.2 with ⟨e, _⟩ | ⟨b', cap, e, _, _, _, ⟨cs, T, h5, _⟩, _⟩
    · rw [e] at h1; cases h1
    · rw [e] at h1; cases h1; rw [← h2, h5] at ho; cases ho; rfl
  case itr m n s =>
    have h1 := r.2.1
    rw [h, ho] at h1; cases h1; rfl
  case tok n l =>
    obtain ⟨ad, n', c, h1, h2⟩ := h
    rcases r.2 with ⟨e, _⟩ | ⟨b', cap, e, _, _, _, _, ⟨cs, T, fr, h5, _⟩, _⟩
    · rw [e] at h1; cases h1
    · rw [e] at h1; cases h1; rw [← h2, h5] at ho; cases ho; rfl
theorem cell_book {w : World} {d : Nat} {o : Obj} (h : w.heap[d]? = some o) (ho : isBook o = true) (n : Nat) : w.cell? ⟨d, n, none⟩ = none := by
  unfold World.cell?
  cases o <;> simp_all [isBook]
theorem putObj_size (w : World) (d : Nat) (o : Obj) : (w.putObj d o).heap.size = w.heap.size := by simp [World.putObj]
theorem SimG.book {C : Cx} {A : Nat → SV} {G : Gh} {a : Act} {w : World} (S : SimG C A G a w) {d : Nat} {o o' : Obj} (h : w.heap[d]? = some o) (ho : isBook o = true) (ho' : isBook o' = true) (hd : C.w0.heap.size ≤ d ∨ C.E d) :
    SimG C A G a (w.putObj d o') := by
  have hlt : d < w.heap.size := (Array.getElem?_eq_some_iff.1 h).1
  have hsame : (w.putObj d o').heap[d]? = some o' := World.putObj_heap_same hlt
  have hoth : ∀ k, k ≠ d → (w.putObj d o').heap[k]? = w.heap[k]? := fun k hk => World.putObj_heap_other hk
  have hle : Le w G.I (w.putObj d o') G.I := by
    intro b n hi
    refine ⟨hi, ?_⟩
    by_cases e : b = d
    · subst e
      refine ⟨by rw [cell_book hsame ho', cell_book h ho], fun es ck h1 => ?_⟩
      rw [h] at h1; cases h1; cases ho
    · exact yx (hoth b e)
  refine ⟨S.os, S.tape, S.output, by rw [putObj_size]; exact S.size, fun k h1 h2 => ?_, S.sub.trans hle, S.rel, S.glob.mono hle, S.new, fun b o h => by rw [putObj_size]; exact S.val b o h, S.nts, S.dfs, fun k => ?_, S.apart⟩
  · have : k ≠ d := by
      rintro rfl
      rcases hd with hd | hd
      · omega
      · exact h2 hd
    rw [hoth k this]; exact S.block k h1 h2
  · refine (S.holds k).keep (Gs := []) hle (fun _ _ => ⟨rfl, .inl ⟨rfl, rfl⟩⟩) (xX.1 _) (by rw [putObj_size]; exact Nat.le_refl _) (fun h => ⟨h, rfl⟩) (fun _ => ⟨rfl, rfl, rfl⟩) (fun b hbk => ?_)
    have hne : b ≠ d := by
      rintro rfl
      have := (S.holds k).kind hbk h
      rw [ho] at this; cases this
    exact ⟨hoth b hne, fun _ hi => hi⟩
def own (A : Nat → SV) (G : Gh) (b : Nat) : Prop := ∃ k, zi G k b (A k)
theorem SimG.back {C : Cx} {A A' : Nat → SV} {G G' : Gh} {a a' : Act} {w w' : World} (S : SimG C A G a w) {K : Nat} {D : List Deferred} {R : Option Nat} (hK : K ≤ C.K)
    (S' : SimG ⟨C.P, w, G.I, own A G, C.N, K, G, C.Γ, D, R⟩ A' G' a' w') : SimG ⟨C.P, C.w0, C.I0, C.E, C.N, C.K, C.G0, C.Γ, D, R⟩ A' G' a' w' := by
  have hown : ∀ b, own A G b → C.w0.heap.size ≤ b ∨ C.E b := fun b ⟨k, hk⟩ => ((S.holds k).owned hk).1
  have hsz : w.heap.size ≤ w'.heap.size := S'.size
  refine ⟨S'.os.trans S.os, S'.tape.trans S.tape, S'.output.trans S.output, Nat.le_trans S.size hsz, fun k h1 h2 => ?_, S.sub.trans S'.sub, fun g hg => (S.rel g hg).trans (S'.rel g (Nat.le_trans hK hg)), S'.glob, fun b o hi => ?_, S'.val, S'.nts, S'.dfs, fun k => ?_, S'.apart⟩
  · have hno : ¬ own A G k := by
      intro ho
      rcases hown k ho with h | h
      · exact absurd h1 (by show ¬ k < C.w0.heap.size; omega)
      · exact h2 h
    exact (S'.block k (Nat.lt_of_lt_of_le h1 S.size) hno).trans (S.block k h1 h2)
  · rcases S'.new b o hi with h | h | h
    · exact S.new b o h
    · exact .inr (.inl (Nat.le_trans S.size h))
    · exact .inr (hown b h)
  · cases hr : (A' k).res
    · exact (S'.holds k).mono_slot hr (Le.refl _ _) (GRel.refl _)
    · exact (S'.holds k).reown hr (fun b _ _ h => by
        rcases h with h | h
        · exact .inl (Nat.le_trans S.size h)
        · exact hown b h)
structure Sw (C : Cx) (w1 : World) (I1 : Nat → Nat → Prop) (E1 : Nat → Prop) (G1 : Gh) (Ds : List Nat) : Prop where
  os : w1.os = C.w0.os
  tape : w1.tape = C.w0.tape
  output : w1.output = C.w0.output
  size : C.w0.heap.size ≤ w1.heap.size
  block : ∀ k, k < C.w0.heap.size → ¬ C.E k → w1.heap[k]? = C.w0.heap[k]?
  own : ∀ b, (w1.heap.size ≤ b ∨ E1 b) → C.w0.heap.size ≤ b ∨ C.E b
  sub : Le C.w0 C.I0 w1 I1
  rel : ∀ g, C.K ≤ g → Turns C.G0 G1 g
  new : ∀ b o, I1 b o → C.I0 b o ∨ C.w0.heap.size ≤ b ∨ C.E b
  marks : ∀ d ∈ Ds, d < w1.heap.size ∧ ¬ E1 d ∧ C.w0.heap.size ≤ d ∧ w1.heap[d]? = some (.deferred (some []))
  nodup : Ds.Nodup
def upC (C : Cx) (w1 : World) (I1 : Nat → Nat → Prop) (E1 : Nat → Prop) (G1 : Gh) (D1 : List Deferred) : Cx := ⟨C.P, w1, I1, E1, C.N, C.K, G1, C.Γ, D1, C.R⟩
theorem Sw.start (C : Cx) : Sw C C.w0 C.I0 C.E C.G0 [] :=
  ⟨rfl, rfl, rfl, Nat.le_refl _, fun _ _ _ => rfl, fun _ h => h, Le.refl _ _, fun _ _ => ⟨rfl, .inl ⟨rfl, rfl⟩⟩, fun _ _ h => .inl h, fun d h => (by cases h), List.nodup_nil⟩
theorem Sw.back {C : Cx} {w1 : World} {I1 : Nat → Nat → Prop} {E1 : Nat → Prop} {G1 : Gh} {Ds : List Nat} (h : Sw C w1 I1 E1 G1 Ds) {D1 : List Deferred} {A : Nat → SV} {G : Gh} {a : Act} {w : World} (S : SimG (upC C w1 I1 E1 G1 D1) A G a w) :
    SimG ⟨C.P, C.w0, C.I0, C.E, C.N, C.K, C.G0, C.Γ, D1, C.R⟩ A G a w := by
  refine ⟨S.os.trans h.os, S.tape.trans h.tape, S.output.trans h.output, Nat.le_trans h.size S.size, fun k h1 h2 => ?_, h.sub.trans S.sub, fun g hg => (h.rel g hg).trans (S.rel g hg), S.glob, fun b o hi => ?_, S.val, S.nts, S.dfs, fun k => ?_, S.apart⟩
  · have hno : ¬ E1 k := by
      intro ho
      rcases h.own k (.inr ho) with h3 | h3
      · exact absurd h1 (by show ¬ k < C.w0.heap.size; omega)
      · exact h2 h3
    exact (S.block k (Nat.lt_of_lt_of_le h1 h.size) hno).trans (h.block k h1 h2)
  · rcases S.new b o hi with h3 | h3 | h3
    · exact h.new b o h3
    · exact .inr (h.own b (.inl h3))
    · exact .inr (h.own b (.inr h3))
  · cases hr : (A k).res
    · exact (S.holds k).mono_slot hr (Le.refl _ _) (GRel.refl _)
    · exact (S.holds k).reown hr (fun b _ _ h3 => h.own b h3)
end Go.Al
namespace Go.Al
open Go.RowKit
end Go.Al
namespace Go.Proofs
open Go Go.Al
theorem plC_app (i : Nat) : ∀ (k : Nat) (l m : List GScope), plC i k (l ++ m) = plC i k l ++ plC i (k + l.length) m
  | k, [], m => by simp [plC]
  | k, x :: l, m => by
    simp only [List.cons_append, plC, plC_app i (k + 1) l m, List.append_assoc, List.length_cons]
    rw [show k + 1 + l.length = k + (l.length + 1) by omega]
theorem plR_app : ∀ (i : Nat) (l m : List GRes), plR i (l ++ m) = plR i l ++ plR (i + l.length) m
  | i, [], m => by simp [plR]
  | i, x :: l, m => by
    simp only [List.cons_append, plR, plR_app (i + 1) l m, List.append_assoc, List.length_cons]
    rw [show i + 1 + l.length = i + (l.length + 1) by omega]
theorem nthC_at {l : List GScope} {k : Nat} (h : k < l.length) : l = l.take k ++ nthC l k :: l.drop (k + 1) := by
  have : nthC l k = l[k] := by simp [nthC, nth, h]
  rw [this, List.getElem_cons_drop, List.take_append_drop]
theorem nthR_at {l : List GRes} {k : Nat} (h : k < l.length) : l = l.take k ++ nthR l k :: l.drop (k + 1) := by
  have : nthR l k = l[k] := by simp [nthR, nth, h]
  rw [this, List.getElem_cons_drop, List.take_append_drop]
theorem plC_at {i : Nat} {l : List GScope} {k m : Nat} (hk : k < l.length) (hm : m < (nthC l k).spans.length) : (plC i 0 l)[(plC i 0 (l.take k)).length + m]? = some (i, k, m) := by
  conv => lhs; arg 1; rw [nthC_at hk]
  have hlen : (l.take k).length = k := by rw [List.length_take]; omega
  rw [plC_app, List.getElem?_append_right (by omega), Nat.add_sub_cancel_left, Nat.zero_add, hlen, plC, List.getElem?_append_left (by simpa using hm)]
  simp [hm]
theorem pl_at {b : List GRes} {i k m : Nat} (hi : i < b.length) (hk : k < (nthR b i).scopes.length) (hm : m < (nthC (nthR b i).scopes k).spans.length) :
    (plR 0 b)[(plR 0 (b.take i)).length + (plC i 0 ((nthR b i).scopes.take k)).length + m]? = some (i, k, m) := by
  conv => lhs; arg 1; rw [nthR_at hi]
  have hlen : (b.take i).length = i := by rw [List.length_take]; omega
  rw [plR_app, Nat.add_assoc, List.getElem?_append_right (by omega), Nat.add_sub_cancel_left, Nat.zero_add, hlen, plR]
  have h1 := plC_at (i := i) hk hm
  rw [List.getElem?_append_left (List.getElem?_eq_some_iff.1 h1).1]
  exact h1
def spAt (b : List GRes) (p : Nat × Nat × Nat) : GSpan := nthS (nthC (nthR b p.1).scopes p.2.1).spans p.2.2
theorem plR_mem' : ∀ {l m : List GRes} {p : Nat × Nat × Nat}, p ∈ plR m.length l → p.1 < (m ++ l).length ∧ p.2.1 < (nthR (m ++ l) p.1).scopes.length ∧ p.2.2 < (nthC (nthR (m ++ l) p.1).scopes p.2.1).spans.length
  | [], m, p, h => by simp [plR] at h
  | r :: l, m, p, h => by
    rw [plR] at h
    rcases List.mem_append.1 h with h | h
    · have hr : nthR (m ++ r :: l) m.length = r := by simp [nthR, nth]
      have h1 : p.1 = m.length := by
        have : ∀ (k : Nat) (cs : List GScope), p ∈ plC m.length k cs → p.1 = m.length := by
          intro k cs
          induction cs generalizing k with
          | nil => intro h; simp [plC] at h
          | cons c cs ih =>
            intro h
            rw [plC] at h
            rcases List.mem_append.1 h with h | h
            · obtain ⟨j, _, rfl⟩ := List.mem_map.1 h; rfl
            · exact ih _ h
        exact this _ _ h
      have h2 := plC_mem (i := m.length) (l := r.scopes) (m := []) (p := p) h
      rw [h1, hr]
      exact ⟨by simp, h2⟩
    · have := plR_mem' (l := l) (m := m ++ [r]) (p := p) (by simpa using h)
      simpa using this
theorem pl_mem {b : List GRes} {p : Nat × Nat × Nat} (h : p ∈ plR 0 b) : p.1 < b.length ∧ p.2.1 < (nthR b p.1).scopes.length ∧ p.2.2 < (nthC (nthR b p.1).scopes p.2.1).spans.length := plR_mem' (m := []) h
theorem pl_mem_iff {b : List GRes} {p : Nat × Nat × Nat} : p ∈ plR 0 b ↔ p.1 < b.length ∧ p.2.1 < (nthR b p.1).scopes.length ∧ p.2.2 < (nthC (nthR b p.1).scopes p.2.1).spans.length :=
  ⟨pl_mem, fun ⟨h1, h2, h3⟩ => List.mem_of_getElem? (pl_at h1 h2 h3)⟩
def zS : GSpan := ⟨List.replicate 16 0, List.replicate 8 0, List.replicate 8 0, ⟨#[]⟩, ⟨#[]⟩, 0, 0, 0, [], [], [], 0, ⟨#[]⟩⟩
def inB (b : List GRes) (p : Int × Int × Int) : Bool :=
  decide (0 ≤ p.1) && decide (p.1 < b.length) && (decide (0 ≤ p.2.1) && decide (p.2.1 < (nthR b p.1.toNat).scopes.length)) && (decide (0 ≤ p.2.2) && decide (p.2.2 < (nthC (nthR b p.1.toNat).scopes p.2.1.toNat).spans.length))
def natP (p : Int × Int × Int) : Nat × Nat × Nat := (p.1.toNat, p.2.1.toNat, p.2.2.toNat)
def intP (p : Nat × Nat × Nat) : Int × Int × Int := ((p.1 : Int), (p.2.1 : Int), (p.2.2 : Int))
def placeAv (p : Int × Int × Int) : AV := .agg [iv p.1, iv p.2.1, iv p.2.2]
def atS (b : List GRes) (p : Int × Int × Int) : GSpan := if inB b p then spAt b (natP p) else zS
theorem inB_iff {b : List GRes} {p : Int × Int × Int} : inB b p = true ↔ 0 ≤ p.1 ∧ p.1 < b.length ∧ (0 ≤ p.2.1 ∧ p.2.1 < (nthR b p.1.toNat).scopes.length) ∧ 0 ≤ p.2.2 ∧ p.2.2 < (nthC (nthR b p.1.toNat).scopes p.2.1.toNat).spans.length := by
  simp only [inB, Bool.and_eq_true, decide_eq_true_eq, and_assoc]
theorem inB_mem {b : List GRes} {p : Int × Int × Int} : inB b p = true ↔ ∃ q ∈ plR 0 b, intP q = p := by
  rw [inB_iff]
  constructor
  · rintro ⟨h1, h2, ⟨h3, h4⟩, h5, h6⟩
    refine ⟨natP p, pl_mem_iff.2 ⟨by show p.1.toNat < _; omega, by show p.2.1.toNat < (nthR b p.1.toNat).scopes.length; omega, by show p.2.2.toNat < (nthC (nthR b p.1.toNat).scopes p.2.1.toNat).spans.length; omega⟩, ?_⟩
    obtain ⟨x, y, z⟩ := p
    simp only [intP, natP]
    dsimp only at h1 h3 h5
    rw [Int.toNat_of_nonneg h1, Int.toNat_of_nonneg h3, Int.toNat_of_nonneg h5]
  · rintro ⟨q, hq, rfl⟩
    obtain ⟨h1, h2, h3⟩ := pl_mem hq
    simp only [intP, Int.toNat_natCast]
    omega
theorem inB_nat {b : List GRes} {q : Nat × Nat × Nat} (h : q ∈ plR 0 b) : inB b (intP q) = true := inB_mem.2 ⟨q, h, rfl⟩
theorem atS_nat {b : List GRes} {q : Nat × Nat × Nat} (h : q ∈ plR 0 b) : atS b (intP q) = spAt b q := by
  unfold atS; rw [if_pos (inB_nat h)]; rfl
end Go.Proofs
namespace Go.Al
section
variable {C : Cx} {A : Nat → SV} {d : Nat} {ty : TypeId} {pos : String} {af : Array Edge} {gd : Option (Nat × Bool)} {x y : Operand} {T T' : TypeId}
end
end Go.Al
namespace Go.Proofs
open Go Go.Al
set_option maxRecDepth 10000
end Go.Proofs
namespace Go.Proofs
open Go Go.Al
set_option maxRecDepth 10000
end Go.Proofs
namespace Go.Proofs
open Go Go.Al
set_option maxRecDepth 10000
end Go.Proofs
namespace Go.Proofs
open Go Go.Al
set_option maxRecDepth 10000
set_option maxHeartbeats 4000000 in
theorem rspan28_c (b : List GRes) (p : Int × Int × Int) (h : inB b p = true) : zs Tryz.prog Γ0 59 [yr b, placeAv p] [(atS b p).av] := by
  have h9 := inB_iff.1 h
  have n1 : (p.1.toNat : Int) = p.1 := Int.toNat_of_nonneg (by omega)
  have n2 : (p.2.1.toNat : Int) = p.2.1 := Int.toNat_of_nonneg (by omega)
  have n3 : (p.2.2.toNat : Int) = p.2.2 := Int.toNat_of_nonneg (by omega)
  refine zd Tryz.func59 rfl Tryz.ntmps59 (by kernel_rfl) rfl fun w0 I0 G0 => ?_
  refine zD <| zB <| g_uG (zp 1002 rfl rfl rfl rfl) rfl <| g_uG (zp 1003 rfl rfl rfl rfl) rfl <| g_uG (yR 1004 rfl rfl rfl tZ63) rfl <| zF <| zA <| zD <| yX xb <| g_u (zG rfl rfl fa24_0 rfl) <| g_u (zH rfl rfl rfl tA22 tS22 rfl rfl) <| g_u (zG rfl rfl fa98_0 rfl) <| g_u (zH rfl rfl rfl tA3 tS3 rfl rfl) ?_
  refine g_u (zR rfl rfl rfl Tryz.underlying22 tS47 (by omega) (wj (d := gr0) (show p.1.toNat < b.length by omega))) ?_
  refine g_u (zW rfl rfl wq rfl rfl) <| g_u (z_ rfl rfl tA45 tS45 rfl rfl) <| g_u (zG rfl rfl fa98_1 rfl) <| g_u (zH rfl rfl rfl tA3 tS3 rfl rfl) ?_
  refine g_u (zR rfl rfl rfl Tryz.underlying45 tS51 (by omega) (wj (d := gc0) (show p.2.1.toNat < (nthR b p.1.toNat).scopes.length by omega))) ?_
  refine g_u (zW rfl rfl fa51_2 rfl rfl) <| g_u (z_ rfl rfl tA49 tS49 rfl rfl) <| g_u (zG rfl rfl fa98_2 rfl) <| g_u (zH rfl rfl rfl tA3 tS3 rfl rfl) ?_
  refine g_u (zR rfl rfl rfl Tryz.underlying49 tS63 (by omega) (wj (d := gs0) (show p.2.2.toNat < (nthC (nthR b p.1.toNat).scopes p.2.1.toNat).spans.length by omega))) ?_
  refine g_u (z_ rfl rfl tA63 tS63 rfl (by first | exact getS_w (GSpan.width _) rfl | rfl)) ?_
  refine g_u (zg rfl rfl rfl tS63 (by first | exact beqW (GSpan.width _) | rfl) (by first | exact setS_w (z63_w.trans (GSpan.width _).symm) rfl | rfl)) ?_
  refine zF ⟨by kernel_rfl, ?_⟩
  refine zA <| zM ?_
  exact ⟨⟨_, _, _, _, _, _, _, rfl, rfl, tA63, tS63, rfl, rfl, (rfl : toAV _ = some _).trans (congrArg some (by (unfold atS; rw [h]; rfl)))⟩, trivial⟩
end Go.Proofs
namespace Go.Proofs
open Go Go.Al
set_option maxRecDepth 10000
end Go.Proofs
namespace Go.Proofs
open Go Go.Al
def rt (s : ByteArray) : Prop := wT s = -1
theorem rt_app {s t : ByteArray} (h : rt s) (k : rt t) : rt (s ++ t) := (joins1 s t h k).1
def rB (l : Bs) : Prop := rt (yB l)
theorem rB_app {a b : Bs} (h : rB a) (k : rB b) : rB (a ++ b) := by unfold rB; rw [← xy]; exact rt_app h k
theorem rB_iff (l : Bs) : rB l ↔ ∃ c, Path (fM (yB l)) 0 l.length c := by
  have hz : (yB l).size = l.length := zX l
  constructor
  · intro h
    have p := (end_spec (yB l)).1
    rw [(check_iff _).1 h, hz] at p
    exact ⟨_, p⟩
  · rintro ⟨c, p⟩
    rw [← hz] at p
    exact (check_iff _).2 (by rw [end_iff _ _ p])
theorem rB_nil : rB [] := (rB_iff _).2 ⟨0, .refl _⟩
theorem bAt_strOf (l : Bs) (i : Nat) : bAt (yB l) i = ((l.getD i 0).toNat : Int) := by
  unfold bAt; rw [xP, Int.toNat_natCast]
theorem rB_one {c : UInt8} (h : c.toNat < 128) : rB [c] := by
  have hz : (yB [c]).size = 1 := zX [c]
  have hb : bAt (yB [c]) 0 = c.toNat := bAt_strOf [c] 0
  have hf : fM (yB [c]) 0 = 1 := by
    rw [fM_DS _ _ (Int.le_refl _)]; unfold DS; rw [hb]; unfold D4; rw [if_neg (by omega), if_pos (by omega)]
  refine (rB_iff _).2 ⟨0 + 1, .step (by rw [hf]; decide) ?_⟩
  rw [hf]; exact .refl _
theorem vG : ∀ {l : Bs}, (∀ c ∈ l, c.toNat < 128) → rB l
  | [], _ => rB_nil
  | c :: l, h => rB_app (a := [c]) (rB_one (h c List.mem_cons_self)) (vG fun x hx => h x (List.mem_cons_of_mem _ hx))
theorem path_app3 {s t : ByteArray} {p q c : Int} (h : Path (fM (s ++ t)) p q c) (hp : (s.size : Int) ≤ p) : Path (fM t) (p - s.size) (q - s.size) c := by
  induction h with
  | refl p => exact .refl _
  | @step p q c h k ih =>
    have h2 := f_pos _ _ h
    have hz := zj s t
    have e := f_same (s := s ++ t) (t := t) (p := p) (q := p - s.size) h2.1 (by omega) h (by omega) (fun i a b => by
      have := bAt_app2 s t (p - s.size + i) (by omega)
      rw [show (s.size : Int) + (p - s.size + i) = p + i by omega] at this
      rw [this])
    refine .step (by rw [e]; exact h) ?_
    rw [e]
    have := ih (by omega)
    rwa [show p + fM (s ++ t) p - (s.size : Int) = p - s.size + fM (s ++ t) p by omega] at this
theorem D4_high {n b0 b1 b2 b3 : Int} (h : (D4 n b0 b1 b2 b3).2 ≠ 0) : (b0 < 128 ∧ (D4 n b0 b1 b2 b3).2 = 1) ∨
    (128 ≤ b0 ∧ (1 < (D4 n b0 b1 b2 b3).2 → 128 ≤ b1) ∧ (2 < (D4 n b0 b1 b2 b3).2 → 128 ≤ b2) ∧ (3 < (D4 n b0 b1 b2 b3).2 → 128 ≤ b3) ∧ (D4 n b0 b1 b2 b3).2 ≤ 4) := by
  unfold D4 at h ⊢
  by_cases a0 : n < 1
  · rw [if_pos a0] at h; exact absurd rfl h
  rw [if_neg a0] at *
  by_cases a1 : b0 < 128
  · rw [if_pos a1]; exact .inl ⟨a1, rfl⟩
  rw [if_neg a1] at *
  right
  refine ⟨by omega, ?_⟩
  by_cases a2 : ok2 n b0 b1
  · rw [if_pos a2]; obtain ⟨o1, o2, o3, o4⟩ := a2; unfold isC at o4; dsimp only; omega
  rw [if_neg a2] at *
  by_cases a3 : ok3 n b0 b1 b2
  · rw [if_pos a3]; obtain ⟨o1, o2, o3, o4, o5, _⟩ := a3; unfold isC at o4 o5; dsimp only; omega
  rw [if_neg a3] at *
  by_cases a4 : ok4 n b0 b1 b2 b3
  · rw [if_pos a4]; obtain ⟨o1, o2, o3, o4, o5, o6, _⟩ := a4; unfold isC at o4 o5 o6; dsimp only; omega
  · rw [if_neg a4] at h; exact absurd rfl h
theorem rB_head {c : UInt8} {l : Bs} (h : rB (c :: l)) : (c.toNat < 128 ∧ rB l) ∨ ∃ a b : Bs, c :: l = a ++ b ∧ a ≠ [] ∧ rB a ∧ rB b ∧ ∀ x ∈ a, 128 ≤ x.toNat := by
  obtain ⟨n, p⟩ := (rB_iff _).1 h
  have hz : (yB (c :: l)).size = (c :: l).length := zX _
  obtain ⟨hf, m, p2⟩ := p.first (by simp only [List.length_cons]; omega)
  have h2 := f_pos _ _ hf
  rw [Int.zero_add] at p2
  generalize hk : fM (yB (c :: l)) 0 = k at *
  obtain ⟨k, rfl⟩ : ∃ j : Nat, k = j := ⟨k.toNat, by omega⟩
  have hlen : ((c :: l).take k).length = k := by rw [List.length_take]; omega
  have es : yB (c :: l) = yB ((c :: l).take k) ++ yB ((c :: l).drop k) := by rw [xy, List.take_append_drop]
  have sa : (yB ((c :: l).take k)).size = k := (zX _).trans hlen
  have hb : rB ((c :: l).drop k) := by
    rw [es] at p2
    have := path_app3 p2 (by omega)
    refine (rB_iff _).2 ⟨m, ?_⟩
    rwa [sa, Int.sub_self, show (((c :: l).length : Nat) : Int) - (k : Int) = (((c :: l).drop k).length : Int) by rw [List.length_drop]; omega] at this
  have ha : rB ((c :: l).take k) := by
    have e := f_same (s := yB (c :: l)) (t := yB ((c :: l).take k)) (p := 0) (q := 0) (by omega) (by omega) (by rw [hk]; omega) (by rw [hk]; omega) (fun i a b => by
      rw [hk] at b
      rw [es]; exact bAt_app1 _ _ _ (by omega) (by omega))
    refine (rB_iff _).2 ⟨0 + 1, .step (by rw [e, hk]; omega) ?_⟩
    rw [e, hk, hlen, Int.zero_add]; exact .refl _
  have e1 := fM_DS (yB (c :: l)) 0 (Int.le_refl _)
  rw [hk] at e1
  unfold DS at e1
  have hd := D4_high (n := (yB (c :: l)).size - 0) (b0 := bAt (yB (c :: l)) 0) (b1 := bAt (yB (c :: l)) (0 + 1)) (b2 := bAt (yB (c :: l)) (0 + 2)) (b3 := bAt (yB (c :: l)) (0 + 3)) (by rw [← e1]; omega)
  rw [← e1] at hd
  have g0 := bAt_strOf (c :: l) 0
  have g1 := bAt_strOf (c :: l) 1
  have g2 := bAt_strOf (c :: l) 2
  have g3 := bAt_strOf (c :: l) 3
  rcases hd with ⟨d1, d2⟩ | ⟨d1, d2, d3, d4, d5⟩
  · left
    obtain rfl : k = 1 := by omega
    exact ⟨by have : ((c.toNat : Nat) : Int) < 128 := by rw [show bAt (yB (c :: l)) 0 = _ from g0] at d1; simpa using d1
              omega, hb⟩
  · right
    refine ⟨_, _, (List.take_append_drop k (c :: l)).symm, fun h0 => by rw [h0] at hlen; simp at hlen; omega, ha, hb, fun x hx => ?_⟩
    obtain ⟨j, hj, rfl⟩ := List.mem_iff_getElem.1 hx
    have hjk : j < k := by omega
    have ej : ((c :: l).take k)[j] = (c :: l).getD j 0 := by
      rw [List.getElem_take, List.getD_eq_getElem?_getD, List.getElem?_eq_getElem]; rfl
    rw [ej]
    rcases j with _ | _ | _ | _ | j
    · rw [show bAt (yB (c :: l)) 0 = _ from g0] at d1; omega
    · have := d2 (by omega); rw [show bAt (yB (c :: l)) (0 + 1) = _ from g1] at this; show 128 ≤ ((c :: l).getD 1 0).toNat; omega
    · have := d3 (by omega); rw [show bAt (yB (c :: l)) (0 + 2) = _ from g2] at this; show 128 ≤ ((c :: l).getD 2 0).toNat; omega
    · have := d4 (by omega); rw [show bAt (yB (c :: l)) (0 + 3) = _ from g3] at this; show 128 ≤ ((c :: l).getD 3 0).toNat; omega
    · omega
theorem hexD_ascii {n : Nat} (h : n < 16) : (hexD n).toNat < 128 := by
  unfold hexD; rw [UInt8.toNat_ofNat']; split <;> omega
theorem hexB_ascii : ∀ l : Bs, ∀ x ∈ hexB l, x.toNat < 128
  | c :: l, x, h => by
    have hc := UInt8.toNat_lt c
    rw [hexB] at h
    rcases List.mem_cons.1 h with rfl | h
    · exact hexD_ascii (by omega)
    rcases List.mem_cons.1 h with rfl | h
    · exact hexD_ascii (by omega)
    · exact hexB_ascii l x h
theorem escB_ascii {c : UInt8} (h : c.toNat < 128) : ∀ x ∈ escB c, x.toNat < 128 := by
  unfold escB
  split
  · intro x hx; rcases List.mem_cons.1 hx with rfl | hx
    · decide
    · cases List.mem_singleton.1 hx; exact h
  split
  · intro x hx
    simp only [List.mem_cons] at hx
    rcases hx with rfl | rfl | rfl | rfl | hx
    · decide
    · decide
    · decide
    · decide
    · exact hexB_ascii _ x hx
  · intro x hx; cases List.mem_singleton.1 hx; exact h
theorem escs_high : ∀ {l : Bs}, (∀ x ∈ l, 128 ≤ x.toNat) → escs l = l
  | [], _ => rfl
  | c :: l, h => by
    have hc := h c List.mem_cons_self
    rw [escs, escs_high fun x hx => h x (List.mem_cons_of_mem _ hx)]
    unfold escB
    rw [if_neg, if_neg]
    · rfl
    · intro h2; have : c.toNat < (32 : UInt8).toNat := UInt8.lt_iff_toNat_lt.1 h2
      have e : (32 : UInt8).toNat = 32 := rfl
      omega
    · rintro (rfl | rfl)
      · exact absurd hc (by decide)
      · exact absurd hc (by decide)
theorem rB_escs : ∀ (n : Nat) (l : Bs), l.length ≤ n → rB l → rB (escs l)
  | _, [], _, _ => rB_nil
  | n + 1, c :: l, hn, h => by
    rcases rB_head h with ⟨hc, h⟩ | ⟨a, b, e, hne, ha, hb, hx⟩
    · rw [escs]; exact rB_app (vG (escB_ascii hc)) (rB_escs n l (by simpa using hn) h)
    · have : b.length ≤ n := by
        have h1 := congrArg List.length e
        have h2 : a.length ≠ 0 := fun h => hne (List.eq_nil_of_length_eq_zero h)
        rw [List.length_append] at h1
        omega
      rw [e, escs_append, escs_high hx]; exact rB_app ha (rB_escs n b this hb)
theorem rB_quote {l : Bs} (h : rB l) : rB (vE l) :=
  rB_app (a := [34]) (rB_one (by decide)) (rB_app (rB_escs _ l (Nat.le_refl _) h) (rB_one (by decide)))
theorem natF_ascii : ∀ (f n : Nat), ∀ x ∈ natF f n, x.toNat < 128
  | 0, _, x, h => by cases h
  | f + 1, n, x, h => by
    rw [natF] at h
    split at h
    · cases List.mem_singleton.1 h; rw [UInt8.toNat_ofNat']; omega
    · rcases List.mem_append.1 h with h | h
      · exact natF_ascii f _ x h
      · cases List.mem_singleton.1 h; rw [UInt8.toNat_ofNat']; omega
theorem decB_ascii (n : Int) : ∀ x ∈ decB n, x.toNat < 128 := by
  unfold decB; split
  · intro x h; rcases List.mem_cons.1 h with rfl | h
    · decide
    · exact natF_ascii _ _ x h
  · exact natF_ascii _ _
theorem rB_simp {v : GV} (h : v.kind = 1 → rt v.text) : rB (wA v) := by
  unfold wA
  split
  · rename_i h1; unfold rB; rw [strOf_lst]; exact h h1
  split
  · split
    · exact vG (by decide)
    · exact vG (by decide)
  split
  · exact vG (decB_ascii _)
  split
  · have := rB_app (a := [48, 120]) (b := hexB (be 8 v.bits.toNat)) (vG (by decide)) (vG (hexB_ascii _)); exact this
  split
  · exact vG (hexB_ascii _)
  · exact rB_nil
theorem checkV_text {d : Int} {v : GV} (h : y9 d v = 0) (h1 : v.kind = 1) : rt v.text := by
  rw [zw] at h
  split at h; · omega
  split at h; · omega
  split at h; · omega
  split at h
  · omega
  · rename_i h4
    by_cases hr : wT v.text = -1
    · exact hr
    · exact absurd ⟨h1, hr⟩ h4
theorem keyC_right {k : ByteArray} (h : keyC k = 0) : rt k := by
  unfold keyC at h
  split at h; · omega
  split at h
  · omega
  · rename_i h2
    by_cases hr : wT k = -1
    · exact hr
    · exact absurd hr h2
theorem entC_iff {d : Int} : ∀ {l : List GA} {p : Option ByteArray}, entC d p l = 0 ↔ risA p l ∧ ∀ a ∈ l, keyC a.key = 0 ∧ y9 d a.val = 0
  | [], p => ⟨fun _ => ⟨trivial, fun a h => by cases h⟩, fun _ => by rw [entC]⟩
  | x :: l, p => by
    have ih := entC_iff (d := d) (l := l) (p := some x.key)
    have hp : prevBad p x.key = false ↔ (match p with | some q => ltB q x.key = true | none => True) := by
      cases p with
      | none => exact ⟨fun _ => trivial, fun _ => rfl⟩
      | some q => simp only [prevBad]; cases ltB q x.key <;> simp
    rw [entC, checkA_eq]
    constructor
    · intro h
      obtain ⟨h1, h2⟩ := wD h
      cases hb : prevBad p x.key
      · rw [hb, if_neg (by decide)] at h2
        obtain ⟨h3, h4⟩ := wD h2
        obtain ⟨h5, h6⟩ := ih.1 h4
        refine ⟨⟨hp.1 hb, h5⟩, fun a ha => ?_⟩
        rcases List.mem_cons.1 ha with rfl | ha
        · exact ⟨h1, h3⟩
        · exact h6 a ha
      · rw [hb, if_pos rfl] at h2; omega
    · rintro ⟨⟨h1, h2⟩, h3⟩
      have h4 := h3 x List.mem_cons_self
      rw [hp.2 h1, if_neg (by decide), zI _ _ h4.1, zI _ _ h4.2]
      exact ih.2 ⟨h2, fun a ha => h3 a (List.mem_cons_of_mem _ ha)⟩
theorem rB_comma (f : Bool) : rB (comma f) := by cases f <;> exact vG (by decide)
theorem rB_json (v : GV) : ∀ d : Int, y9 d v = 0 → rB (y3 v) := by
  refine GV.ind (P := fun v => ∀ d : Int, y9 d v = 0 → rB (y3 v)) ?_ v
  intro v h1 h2 d hc
  obtain ⟨h3, h4⟩ := checkV_parts hc
  have h5 := (entC_iff.1 h4).2
  have hv : ∀ (l : List GV) (f : Bool), (∀ y ∈ l, rB (y3 y)) → rB (wU f l) := by
    intro l
    induction l with
    | nil => intro f _; rw [wU]; exact rB_nil
    | cons x xs ih =>
      intro f h
      rw [wU]
      exact rB_app (rB_app (rB_comma f) (h x List.mem_cons_self)) (ih false fun y hy => h y (List.mem_cons_of_mem _ hy))
  have ha : ∀ (l : List GA) (f : Bool), (∀ y ∈ l, rt y.key ∧ rB (y3 y.val)) → rB (wW f l) := by
    intro l
    induction l with
    | nil => intro f _; rw [wW]; exact rB_nil
    | cons x xs ih =>
      intro f h
      have hx := h x List.mem_cons_self
      rw [wW, jsonA_eq]
      refine rB_app (rB_app (rB_comma f) (rB_app (rB_app (rB_quote ?_) (rB_one (by decide))) hx.2)) (ih false fun y hy => h y (List.mem_cons_of_mem _ hy))
      unfold rB; rw [strOf_lst]; exact hx.1
  have hs : rB (wA v) := rB_simp fun h => checkV_text hc h
  rw [jsonB_eq]
  split
  · exact vG (by decide)
  split
  · exact rB_quote hs
  split
  · exact rB_app (a := [91]) (rB_one (by decide)) (rB_app (hv _ _ fun y hy => h1 y hy _ (checkVs_mem h3 y hy)) (rB_one (by decide)))
  split
  · exact rB_app (a := [123]) (rB_one (by decide)) (rB_app (ha _ _ fun y hy => ⟨keyC_right (h5 y hy).1, h2 y hy _ (h5 y hy).2⟩) (rB_one (by decide)))
  · exact hs
theorem rt_text {v : GV} {d : Int} (h : y9 d v = 0) : rt (xM v) := by
  show rB (textB v)
  unfold textB; split
  · exact rB_json v d h
  · exact rB_simp fun h1 => checkV_text h h1
end Go.Proofs
namespace Go.Proofs
open Go Go.Al
theorem attrsC_iff {l : List GA} : yq l = 0 ↔ l.length ≤ 32 ∧ risA none l ∧ ∀ a ∈ l, keyC a.key = 0 ∧ y9 0 a.val = 0 ∧ (xM a.val).size ≤ 1024 := by
  unfold yq
  constructor
  · intro h
    split at h
    · omega
    · rename_i hl
      obtain ⟨h1, h2⟩ := wD h
      obtain ⟨h3, h4⟩ := entC_iff.1 h1
      refine ⟨by omega, h3, fun a ha => ⟨(h4 a ha).1, (h4 a ha).2, ?_⟩⟩
      split at h2
      · omega
      · rename_i h5
        have h6 : ¬ decide (1024 < (xM a.val).size) = true := fun h => h5 (List.any_eq_true.2 ⟨a, ha, h⟩)
        simpa using h6
  · rintro ⟨h1, h2, h3⟩
    rw [if_neg (by omega), zI _ _ (entC_iff.2 ⟨h2, fun a ha => ⟨(h3 a ha).1, (h3 a ha).2.1⟩⟩), if_neg]
    intro h
    obtain ⟨a, ha, hd⟩ := List.any_eq_true.1 h
    have := (h3 a ha).2.2
    have : 1024 < (xM a.val).size := of_decide_eq_true hd
    omega
theorem check_tv {t : ByteArray} (h : rt t) (d : Int) : y9 d (tv t) = 0 := by
  have hk : (tv t).kind = 1 := rfl
  have ht : (tv t).text = t := rfl
  rw [zw, if_neg (by omega), if_neg (by rw [show emptyV (tv t) = true from rfl]; decide), if_neg (by omega), if_neg (by rintro ⟨_, h2⟩; exact h2 (ht ▸ h)), if_neg (by omega)]
  show orC (checkVs (d + 1) []) (entC (d + 1) none []) = 0
  rw [checkVs, entC]; rfl
theorem textM_plain (ks : List Int) (a : GA) : xM (yY ks a).val = xM a.val := by
  unfold yY; split
  · exact textM_tv (xM a.val)
  · rfl
theorem check_plain (ks : List Int) {a : GA} {d : Int} (h : y9 d a.val = 0) : y9 d (yY ks a).val = 0 := by
  unfold yY; split
  · exact check_tv (rt_text h) d
  · exact h
theorem attrsC_kept (ks : List Int) (but : List ByteArray) {l : List GA} (h : yq l = 0) : yq (xO but (l.map (yY ks))) = 0 := by
  obtain ⟨h1, h2, h3⟩ := attrsC_iff.1 h
  refine attrsC_iff.2 ⟨?_, ris_dropA _ (ris_plain _ h2), fun a ha => ?_⟩
  · have := dropA_len but (l.map (yY ks)); rw [List.length_map] at this; omega
  · obtain ⟨x, hx, rfl⟩ := List.mem_map.1 (vD ha).1
    have h4 := h3 x hx
    rw [vL, textM_plain]
    exact ⟨h4.1, check_plain ks h4.2.1, h4.2.2⟩
theorem rt_empty : rt ⟨#[]⟩ := rB_nil
theorem getA_memK : ∀ {l : List GA} {k : ByteArray} {v : GV}, getA l k = some v → ∃ a ∈ l, a.key = k ∧ a.val = v
  | x :: l, k, v, h => by
    rw [getA] at h
    split at h
    · exact ⟨x, List.mem_cons_self, by assumption, Option.some.inj h⟩
    · obtain ⟨a, h1, h2⟩ := getA_memK h
      exact ⟨a, List.mem_cons_of_mem _ h1, h2⟩
theorem textA_right {l : List GA} (h : yq l = 0) (k : ByteArray) : rt (textA l k) ∧ (textA l k).size ≤ 1024 := by
  unfold textA
  cases e : getA l k with
  | none => rw [Option.getD_none, textM_zero]; exact ⟨rt_empty, Nat.zero_le _⟩
  | some v =>
    obtain ⟨a, ha, _, rfl⟩ := getA_memK e
    have := (attrsC_iff.1 h).2.2 a ha
    rw [Option.getD_some]
    exact ⟨rt_text this.2.1, this.2.2⟩
theorem len_intoR : ∀ {l : List GA} {a : GA} {p : Option ByteArray}, risA p l → (wh l a).length = if (getA l a.key).isSome then l.length else l.length + 1
  | [], a, p, _ => rfl
  | x :: l, a, p, h => by
    rw [wh, getA]
    by_cases hl : ltB x.key a.key = true
    · have hne : x.key ≠ a.key := by rintro e; rw [e, wm] at hl; cases hl
      rw [if_pos hl, if_neg hne, List.length_cons, len_intoR h.2]
      split <;> simp
    · rw [if_neg hl]
      by_cases he : x.key = a.key
      · rw [if_pos he, if_pos he]; rfl
      · rw [if_neg he, if_neg he]
        have hk : ltB a.key x.key = true := by
          cases hb : ltB a.key x.key
          · exact absurd (ltB_tri (by simpa using hl) hb) he
          · rfl
        have : getA l a.key = none := by
          cases e : getA l a.key with
          | none => rfl
          | some v =>
            obtain ⟨b, hb, hbk, _⟩ := getA_memK e
            exact absurd hbk (ris_ne (risA_weak h.2 hk) b hb)
        rw [this]; rfl
theorem keyC_skey : keyC skey = 0 := by
  unfold keyC
  rw [if_neg (by decide), if_neg (by rw [show wT skey = -1 from vG (l := lst skey) (by decide)]; decide), if_neg (by decide)]
theorem attrsC_named {l : List GA} {t : ByteArray} (h : yq l = 0) (hr : rt t) (hs : t.size ≤ 1024) (hl : t = ⟨#[]⟩ ∨ (getA l skey).isSome = true ∨ l.length < 32) : yq (xe l t) = 0 := by
  obtain ⟨h1, h2, h3⟩ := attrsC_iff.1 h
  refine attrsC_iff.2 ⟨?_, ris_named h2 t, fun a ha => ?_⟩
  · unfold xe; split
    · have := dropA_len [skey] l; omega
    · rename_i hne
      rw [len_intoR h2]
      split
      · exact h1
      · rename_i hn
        rcases hl with hl | hl | hl
        · exact absurd hl hne
        · exact absurd hl hn
        · omega
  · unfold xe at ha; split at ha
    · exact h3 a (vD ha).1
    · rcases mem_intoA ha with rfl | ha
      · refine ⟨keyC_skey, check_tv hr 0, ?_⟩
        show (xM (tv t)).size ≤ 1024
        rw [textM_tv]; exact hs
      · exact h3 a ha
theorem spanOk_iff (s : GSpan) : vI s = 0 ↔ (xm s.trace || xm s.id) = false ∧ xB s.state = 0 ∧ xB s.name = 0 ∧ (0 ≤ s.kind ∧ s.kind ≤ 5) ∧ xi ⟨s.start, s.fin⟩ = 0 ∧ yq s.attrs = 0 ∧ evsC s.events = 0 ∧ lksC s.links = 0 ∧ (0 ≤ s.code ∧ s.code ≤ 2) ∧ xB s.note = 0 := by
  unfold vI
  simp only [firstC]
  constructor
  · intro h
    obtain ⟨a1, h⟩ := wD h
    obtain ⟨a2, h⟩ := wD h
    obtain ⟨a3, h⟩ := wD h
    obtain ⟨a4, h⟩ := wD h
    obtain ⟨a5, h⟩ := wD h
    obtain ⟨a6, h⟩ := wD h
    obtain ⟨a7, h⟩ := wD h
    obtain ⟨a8, h⟩ := wD h
    obtain ⟨a9, h⟩ := wD h
    obtain ⟨b1, h⟩ := wD h
    refine ⟨?_, a2, a3, ?_, a5, a6, a7, a8, ?_, b1⟩
    · cases hz : (xm s.trace || xm s.id)
      · rfl
      · rw [hz, if_pos rfl] at a1; omega
    · split at a4 <;> omega
    · split at a9 <;> omega
  · rintro ⟨a1, a2, a3, a4, a5, a6, a7, a8, a9, b1⟩
    rw [a1, if_neg (by decide), a2, a3, if_neg (by omega), a5, a6, a7, a8, if_neg (by omega), b1]
    rfl
theorem nameC_empty : xB ⟨#[]⟩ = 0 := by
  unfold xB
  rw [if_neg (by rw [show wT ⟨#[]⟩ = -1 from rB_nil]; decide), if_neg (by decide)]
theorem evC_iff : ∀ {l : List GE}, evC l = 0 ↔ ∀ e ∈ l, e.time ≤ 9223372036854775807 ∧ xB e.name = 0 ∧ yq e.attrs = 0
  | [] => Iff.intro (fun _ e h => by cases h) (fun _ => rfl)
  | x :: l => by
    have ih := evC_iff (l := l)
    rw [evC]
    constructor
    · intro h
      split at h
      · omega
      · obtain ⟨h1, h2⟩ := wD h
        obtain ⟨h3, h4⟩ := wD h1
        intro e he
        rcases List.mem_cons.1 he with rfl | he
        · exact ⟨by omega, h3, h4⟩
        · exact ih.1 h2 e he
    · intro h
      have h1 := h x List.mem_cons_self
      rw [if_neg (by omega), h1.2.1, h1.2.2, zI _ _ rfl]
      exact ih.2 fun e he => h e (List.mem_cons_of_mem _ he)
theorem attrsC_nil : yq [] = 0 := attrsC_iff.2 ⟨by simp, trivial, fun a h => by cases h⟩
theorem evsC_map {f : GE → GE} (hf : ∀ e, e.time ≤ 9223372036854775807 ∧ xB e.name = 0 ∧ yq e.attrs = 0 → (f e).time ≤ 9223372036854775807 ∧ xB (f e).name = 0 ∧ yq (f e).attrs = 0) {l : List GE} (h : evsC l = 0) : evsC (l.map f) = 0 := by
  unfold evsC at h ⊢
  rw [List.length_map]
  split at h
  · omega
  · rw [if_neg (by assumption)]
    refine evC_iff.2 fun e he => ?_
    obtain ⟨x, hx, rfl⟩ := List.mem_map.1 he
    exact hf x (evC_iff.1 h x hx)
theorem wholeN_le (n : Int) : wholeN n ≤ 9223372036854775807 := by have := nano_rg (microM n); unfold wholeN; omega
theorem whole_check {s e : Int} (hs : u64 s) (he : u64 e) : xi ⟨(wP ⟨s, e⟩).lo, (wP ⟨s, e⟩).hi⟩ = 0 := by
  rcases whole_facts s e hs.1 he.1 hs.2 he.2 with ⟨_, h⟩ | ⟨_, A, B, h, h2, _⟩
  · rw [h]; rfl
  · rw [h]; exact h2
theorem attrsW_drop (ks : List ByteArray) : ∀ l : List GA, yb (xO ks l) ≤ yb l
  | [] => Nat.le_refl _
  | x :: l => by
    have := attrsW_drop ks l
    rw [xO]; split
    · rw [yb]; omega
    · rw [yb, yb]; omega
theorem attrsW_plain (ks : List Int) : ∀ l : List GA, yb (l.map (yY ks)) = yb l
  | [] => rfl
  | x :: l => by rw [List.map_cons, yb, yb, vL, textM_plain, attrsW_plain ks l]
theorem attrsW_kept (ks : List Int) (but : List ByteArray) (l : List GA) : yb (xO but (l.map (yY ks))) ≤ yb l := by
  have := attrsW_drop but (l.map (yY ks)); rw [attrsW_plain] at this; exact this
theorem sumBy_map_mono {α : Type} {f : α → α} {g : α → Nat} : ∀ {l : List α}, (∀ x ∈ l, g (f x) ≤ g x) → zh g (l.map f) ≤ zh g l
  | [], _ => Nat.le_refl _
  | x :: l, h => by
    rw [List.map_cons, zh, zh]
    have h1 := h x List.mem_cons_self
    have h2 := sumBy_map_mono (f := f) (g := g) (l := l) fun y hy => h y (List.mem_cons_of_mem _ hy)
    omega
theorem scopesW_ge (t : ByteArray) : ∀ l : List GScope, 64 * l.length + zh (fun x => ww x t) (z0 l) ≤ zh (fun s => wX s t) l
  | [] => by simp [z0, zh]
  | c :: l => by
    have ih := scopesW_ge t l
    rw [z0, y8, zh, List.length_cons]
    unfold wX
    unfold wX at ih
    omega
end Go.Proofs
namespace Go.Al
open Go.RowKit
section
variable {P : Program} {w : World} {p : Array (String × TypeId)}
end
section
variable {C : Cx} {A : Nat → SV} {d : Nat} {ty : TypeId} {pos : String} {af : Array Edge} {gd : Option (Nat × Bool)} {x y : Operand} {T T' : TypeId}
theorem SimG.ptr {C : Cx} {A : Nat → SV} {G : Gh} {a : Act} {w : World} (S : SimG C A G a w) {x : Operand} {g off : Nat} (h : Al.opS A x = .ptr g off) : a.eval x = .pointer (some ⟨G.blk g, off, none⟩) := by
  obtain ⟨c, h1, h2⟩ := S.opS h rfl
  simp only [RepS] at h1
  rw [h2, h1]; rfl
theorem SimG.ifp {C : Cx} {A : Nat → SV} {G : Gh} {a : Act} {w : World} (S : SimG C A G a w) {x : Operand} {T g off : Nat} (h : Al.opS A x = .ifp T g off) : a.eval x = .iface T (.pointer (some ⟨G.blk g, off, none⟩)) := by
  obtain ⟨c, h1, h2⟩ := S.opS h rfl
  simp only [RepS] at h1
  rw [h2, h1]; rfl
theorem yz {g off : Nat} (hN : Nat.blt d C.N = true) (hx : opS A x = .ptr g off) : zn C ⟨some d, .nilCheck x, ty, pos, af, gd⟩ (opR x) [] A [(d, .ptr g off)] := by
  refine zn.value rfl hN fun A' G a w hR S => ?_
  have hev := S.ptr ((yU hR).trans hx)
  refine ⟨a.eval x, by simp only [execOp, hev]; rfl, ?_⟩
  rw [hev]
  exact ⟨[.pointer (some ⟨G.blk g, off, none⟩)], by simp only [RepS], rfl⟩
end
end Go.Al
namespace Go.Al
open Go.RowKit
section
variable {C : Cx} {A : Nat → SV} {d : Nat} {ty : TypeId} {pos : String} {af : Array Edge} {gd : Option (Nat × Bool)} {x y : Operand} {T T' : TypeId} {h fl h2 fl2 : Value}
end
end Go.Al
namespace Go.Al
open Go.RowKit
section
variable {C : Cx} {A : Nat → SV} {ty : TypeId} {pos : String} {af : Array Edge} {gd : Option (Nat × Bool)} {x y : Operand} {T T' : TypeId}
end
end Go.Al
namespace Go.Proofs
open Go Go.Al
abbrev Fl := Int × List ByteArray
theorem ixStr {l : List ByteArray} {i : Nat} (h : i < l.length) : (l.map fun x => sv x)[((i : Nat) : Int).toNat]? = some (sv (nth l i ⟨#[]⟩)) := wj (d := (⟨#[]⟩ : ByteArray)) (f := fun x => sv x) h
end Go.Proofs
namespace Go.Proofs
open Go Go.Al
def kSpan : ByteArray := ⟨#[115, 112, 97, 110]⟩
def kScope : ByteArray := ⟨#[115, 99, 111, 112, 101]⟩
def kRes : ByteArray := ⟨#[114, 101, 115, 111, 117, 114, 99, 101]⟩
def partM (k : ByteArray) (i : Nat) : ByteArray := yB (lst k ++ 32 :: decB i)
def spansF : Nat → List GSpan → Fl
  | _, [] => (0, [])
  | i, x :: xs => if vI x = 0 then spansF (i + 1) xs else (vI x, [partM kSpan i])
def xt (s : GScope) : Fl := if xB s.name ≠ 0 then (xB s.name, []) else if xB s.version ≠ 0 then (xB s.version, []) else spansF 0 s.spans
def scopesF : Nat → List GScope → Fl
  | _, [] => (0, [])
  | i, s :: ss => if (xt s).1 = 0 then scopesF (i + 1) ss else ((xt s).1, partM kScope i :: (xt s).2)
def resF (r : GRes) : Fl := if yq r.attrs ≠ 0 then (yq r.attrs, []) else if 16 < r.scopes.length then (34, []) else scopesF 0 r.scopes
def ressF : Nat → List GRes → Fl
  | _, [] => (0, [])
  | i, r :: rs => if (resF r).1 = 0 then ressF (i + 1) rs else ((resF r).1, partM kRes i :: (resF r).2)
def chkF (b : List GRes) : Fl :=
  if 32 < b.length then (34, []) else if (ressF 0 b).1 ≠ 0 then ressF 0 b else if 100 < (plR 0 b).length then (34, []) else if 65536 < batchW b then (36, []) else (0, [])
theorem spansF_iff : ∀ {l : List GSpan} {i : Nat}, (spansF i l).1 = 0 ↔ ∀ x ∈ l, vI x = 0
  | [], i => Iff.intro (fun _ x h => by cases h) (fun _ => rfl)
  | x :: l, i => by
    rw [spansF]
    constructor
    · intro h
      split at h
      · rename_i hx
        intro y hy
        rcases List.mem_cons.1 hy with rfl | hy
        · exact hx
        · exact spansF_iff.1 h y hy
      · rename_i hx; exact absurd h hx
    · intro h
      rw [if_pos (h x List.mem_cons_self)]
      exact spansF_iff.2 fun y hy => h y (List.mem_cons_of_mem _ hy)
def okSc (s : GScope) : Prop := xB s.name = 0 ∧ xB s.version = 0 ∧ ∀ x ∈ s.spans, vI x = 0
theorem scopeF_iff {s : GScope} : (xt s).1 = 0 ↔ okSc s := by
  unfold xt okSc
  constructor
  · intro h
    split at h
    · rename_i h1; exact absurd h h1
    split at h
    · rename_i h1; exact absurd h h1
    · rename_i h1 h2; exact ⟨by omega, by omega, spansF_iff.1 h⟩
  · rintro ⟨h1, h2, h3⟩
    rw [if_neg (by omega), if_neg (by omega)]; exact spansF_iff.2 h3
theorem scopesF_iff : ∀ {l : List GScope} {i : Nat}, (scopesF i l).1 = 0 ↔ ∀ x ∈ l, okSc x
  | [], i => Iff.intro (fun _ x h => by cases h) (fun _ => rfl)
  | x :: l, i => by
    rw [scopesF]
    constructor
    · intro h
      split at h
      · rename_i hx
        intro y hy
        rcases List.mem_cons.1 hy with rfl | hy
        · exact scopeF_iff.1 hx
        · exact scopesF_iff.1 h y hy
      · rename_i hx; exact absurd h hx
    · intro h
      rw [if_pos (scopeF_iff.2 (h x List.mem_cons_self))]
      exact scopesF_iff.2 fun y hy => h y (List.mem_cons_of_mem _ hy)
def okRs (r : GRes) : Prop := yq r.attrs = 0 ∧ r.scopes.length ≤ 16 ∧ ∀ x ∈ r.scopes, okSc x
theorem resF_iff {r : GRes} : (resF r).1 = 0 ↔ okRs r := by
  unfold resF okRs
  constructor
  · intro h
    split at h
    · rename_i h1; exact absurd h h1
    split at h
    · exact absurd h (by decide)
    · rename_i h1 h2; exact ⟨by omega, by omega, scopesF_iff.1 h⟩
  · rintro ⟨h1, h2, h3⟩
    rw [if_neg (by omega), if_neg (by omega)]; exact scopesF_iff.2 h3
theorem ressF_iff : ∀ {l : List GRes} {i : Nat}, (ressF i l).1 = 0 ↔ ∀ x ∈ l, okRs x
  | [], i => Iff.intro (fun _ x h => by cases h) (fun _ => rfl)
  | x :: l, i => by
    rw [ressF]
    constructor
    · intro h
      split at h
      · rename_i hx
        intro y hy
        rcases List.mem_cons.1 hy with rfl | hy
        · exact resF_iff.1 hx
        · exact ressF_iff.1 h y hy
      · rename_i hx; exact absurd h hx
    · intro h
      rw [if_pos (resF_iff.2 (h x List.mem_cons_self))]
      exact ressF_iff.2 fun y hy => h y (List.mem_cons_of_mem _ hy)
theorem chkF_iff {b : List GRes} : (chkF b).1 = 0 ↔ b.length ≤ 32 ∧ (∀ r ∈ b, okRs r) ∧ (plR 0 b).length ≤ 100 ∧ batchW b ≤ 65536 := by
  unfold chkF
  constructor
  · intro h
    split at h
    · exact absurd h (by decide)
    split at h
    · rename_i h1; exact absurd h h1
    split at h
    · exact absurd h (by decide)
    split at h
    · exact absurd h (by decide)
    · rename_i h1 h2 h3 h4; have h5 : (ressF 0 b).1 = 0 := by omega
      exact ⟨by omega, ressF_iff.1 h5, by omega, by omega⟩
  · rintro ⟨h1, h2, h3, h4⟩
    rw [if_neg (by omega), if_neg (by have h5 : (ressF 0 b).1 = 0 := ressF_iff.2 h2; omega), if_neg (by omega), if_neg (by omega)]
def allS (b : List GRes) : List GSpan := b.flatMap fun r => z0 r.scopes
theorem plR_all : ∀ (i : Nat) (b : List GRes), (plR i b).length = (allS b).length
  | _, [] => rfl
  | i, r :: b => by rw [plR, allS, List.flatMap_cons, List.length_append, List.length_append, plC_len, plR_all (i + 1) b]; rfl
theorem plR_spans : ∀ (l m : List GRes), (plR m.length l).map (fun p => spAt (m ++ l) p) = allS l
  | [], m => rfl
  | r :: l, m => by
    rw [plR, List.map_append, allS, List.flatMap_cons]
    congr 1
    · have hr : nthR (m ++ r :: l) m.length = r := by simp [nthR, nth]
      have h := plC_spans m.length r.scopes []
      rw [← h]
      refine List.map_congr_left fun p hp => ?_
      have h1 : p.1 = m.length := plC_fst _ _ _ _ hp
      unfold spAt; rw [h1, hr]; rfl
    · have := plR_spans l (m ++ [r])
      simp only [List.length_append, List.length_cons, List.length_nil, List.append_assoc, List.cons_append, List.nil_append] at this
      exact this
where
  plC_fst (i : Nat) : ∀ (k : Nat) (l : List GScope) (p : Nat × Nat × Nat), p ∈ plC i k l → p.1 = i
    | _, [], p, h => by simp [plC] at h
    | k, c :: l, p, h => by
      rw [plC] at h
      rcases List.mem_append.1 h with h | h
      · obtain ⟨j, _, rfl⟩ := List.mem_map.1 h; rfl
      · exact plC_fst i (k + 1) l p h
theorem allS_eq (b : List GRes) : (plR 0 b).map (spAt b) = allS b := plR_spans b []
theorem allS_mem {b : List GRes} {s : GSpan} (h : s ∈ allS b) : ∃ r ∈ b, ∃ c ∈ r.scopes, s ∈ c.spans := by
  obtain ⟨r, hr, hs⟩ := List.mem_flatMap.1 h
  obtain ⟨c, hc, hs⟩ := spansOf_mem hs
  exact ⟨r, hr, c, hc, hs⟩
theorem chk_ris {b : List GRes} (h : (chkF b).1 = 0) : ∀ r ∈ b, risA none r.attrs := fun r hr => (attrsC_iff.1 ((chkF_iff.1 h).2.1 r hr).1).2.1
structure GCore where
  trace : Bs
  id : Bs
  parent : Bs
  name : ByteArray
  begun : Int
  lasts : Int
def GCore.av (c : GCore) : AV := .agg [.arr 16 c.trace, .arr 8 c.id, .arr 8 c.parent, sv c.name, iv c.begun, iv c.lasts]
def coreS (s : GSpan) : GCore := ⟨s.trace, s.id, s.parent, s.name, rBegun s.start s.fin, rLasts s.start s.fin⟩
theorem GCore.ext' {a b : GCore} (h1 : a.trace = b.trace) (h2 : a.id = b.id) (h3 : a.parent = b.parent) (h4 : a.name = b.name) (h5 : a.begun = b.begun) (h6 : a.lasts = b.lasts) : a = b := by cases a; cases b; simp_all
instance : DecidableEq GCore := fun a b => decidable_of_iff (a.trace = b.trace ∧ a.id = b.id ∧ a.parent = b.parent ∧ a.name = b.name ∧ a.begun = b.begun ∧ a.lasts = b.lasts) ⟨fun h => GCore.ext' h.1 h.2.1 h.2.2.1 h.2.2.2.1 h.2.2.2.2.1 h.2.2.2.2.2, fun h => by rw [h]; exact ⟨rfl, rfl, rfl, rfl, rfl, rfl⟩⟩
def xI (b : List GRes) : List GCore := (allS b).map coreS
theorem core_times {s e : Int} (hs : u64 s) (he : u64 e) : rBegun (wP ⟨s, e⟩).lo (wP ⟨s, e⟩).hi = rBegun s e ∧ rLasts (wP ⟨s, e⟩).lo (wP ⟨s, e⟩).hi = rLasts s e := by
  rcases whole_facts s e hs.1 he.1 hs.2 he.2 with ⟨hf, h⟩ | ⟨_, A, B, h, _, _, h3, h4, _⟩
  · have e1 : rBegun s e = 0 := by unfold rBegun; rw [hf]; rfl
    have e2 : rLasts s e = 0 := by unfold rLasts; rw [hf]; rfl
    rw [h, e1, e2]
    exact ⟨by show rBegun 0 0 = 0; decide, by show rLasts 0 0 = 0; decide⟩
  · rw [h]
    rw [tells3, tells3] at h3
    rw [tells4, tells4] at h4
    exact ⟨h3, h4⟩
end Go.Proofs
namespace Go.Proofs
open Go Go.Al
def nZ : List Int := [0, 2, 3, 4, 5, 6, 7]
def kZ : List ByteArray := [k_error, k_code]
def keptZ (l : List GA) : List GA := xO kZ (l.map (yY nZ))
def nzE (e : GE) : GE := ⟨wholeN e.time, e.name, []⟩
def nzS (s : GSpan) : GSpan :=
  { s with state := ⟨#[]⟩, kind := if s.kind = 1 then 0 else s.kind, start := (wP ⟨s.start, s.fin⟩).lo, fin := (wP ⟨s.start, s.fin⟩).hi, attrs := keptZ s.attrs, events := s.events.map nzE, links := [], note := if s.code = 2 then s.note else ⟨#[]⟩ }
abbrev Gp := List (ByteArray × List GSpan)
def gput : Gp → ByteArray → GSpan → Gp
  | [], k, s => [(k, [s])]
  | (k', l) :: g, k, s => if k' = k then (k', l ++ [s]) :: g else (k', l) :: gput g k s
def grpF (g : Gp) (l : List (ByteArray × GSpan)) : Gp := l.foldl (fun g x => gput g x.1 x.2) g
def grp (l : List (ByteArray × GSpan)) : Gp := grpF [] l
def resG (x : ByteArray × List GSpan) : GRes := ⟨xe [] x.1, [⟨⟨#[]⟩, ⟨#[]⟩, x.2⟩]⟩
def groupM (l : List (ByteArray × GSpan)) : List GRes := (grp l).map resG
def ym (b : List GRes) : List (ByteArray × GSpan) := b.flatMap fun r => (z0 r.scopes).map fun s => (zx r, nzS s)
def nzB (b : List GRes) : List GRes := groupM (ym b)
theorem grpF_append (g : Gp) (l m : List (ByteArray × GSpan)) : grpF g (l ++ m) = grpF (grpF g l) m := List.foldl_append ..
theorem grp_snoc (l : List (ByteArray × GSpan)) (k : ByteArray) (s : GSpan) : grp (l ++ [(k, s)]) = gput (grp l) k s := grpF_append _ _ _
instance decMemB (k : ByteArray) (l : List ByteArray) : Decidable (k ∈ l) := decidable_of_iff ((l.any fun x => decide (x = k)) = true) (by
  rw [List.any_eq_true]
  constructor
  · rintro ⟨x, hx, h⟩; exact of_decide_eq_true h ▸ hx
  · exact fun h => ⟨k, h, decide_eq_true rfl⟩)
def yw (g : Gp) : List ByteArray := g.map (·.1)
theorem keys_gput : ∀ (g : Gp) (k : ByteArray) (s : GSpan), yw (gput g k s) = if k ∈ yw g then yw g else yw g ++ [k]
  | [], k, s => by simp [gput, yw]
  | (k', l) :: g, k, s => by
    rw [gput]
    by_cases h : k' = k
    · rw [if_pos h]; simp [yw, h]
    · rw [if_neg h]
      have ih := keys_gput g k s
      unfold yw at ih ⊢
      rw [List.map_cons, List.map_cons, ih]
      have h2 : ¬ k = k' := fun e => h e.symm
      by_cases hk : k ∈ g.map (·.1)
      · rw [if_pos hk, if_pos (List.mem_cons_of_mem _ hk)]
      · rw [if_neg hk, if_neg (by intro hm; rcases List.mem_cons.1 hm with e | e; exact h2 e; exact hk e)]; rfl
theorem keys_one {k : ByteArray} : ∀ {l : List (ByteArray × GSpan)} (g : Gp), (∀ x ∈ l, x.1 = k) → yw (grpF g l) = if l = [] ∨ k ∈ yw g then yw g else yw g ++ [k]
  | [], g, _ => by simp [grpF]
  | x :: l, g, h => by
    have hx := h x List.mem_cons_self
    have ih := keys_one (k := k) (l := l) (gput g x.1 x.2) fun y hy => h y (List.mem_cons_of_mem _ hy)
    show yw (grpF (gput g x.1 x.2) l) = _
    rw [ih, keys_gput, hx]
    by_cases hk : k ∈ yw g
    · rw [if_pos hk, if_pos (.inr hk), if_pos (.inr hk)]
    · rw [if_neg hk, if_pos (.inr (by simp)), if_neg (by rintro (e | e); cases e; exact hk e)]
theorem gput_perm : ∀ (g : Gp) (k : ByteArray) (s : GSpan), ((gput g k s).flatMap (·.2)).Perm (g.flatMap (·.2) ++ [s])
  | [], k, s => by simp [gput]
  | (k', l) :: g, k, s => by
    rw [gput]
    split
    · rw [List.flatMap_cons, List.flatMap_cons, List.append_assoc, List.append_assoc]
      exact List.Perm.append_left l List.perm_append_comm
    · rw [List.flatMap_cons, List.flatMap_cons, List.append_assoc]
      exact List.Perm.append_left l (gput_perm g k s)
theorem grpF_perm : ∀ (l : List (ByteArray × GSpan)) (g : Gp), ((grpF g l).flatMap (·.2)).Perm (g.flatMap (·.2) ++ l.map (·.2))
  | [], g => by simp [grpF]
  | x :: l, g => by
    refine (grpF_perm l (gput g x.1 x.2)).trans ?_
    rw [List.map_cons]
    have h := (gput_perm g x.1 x.2).append_right (l.map (·.2))
    rwa [List.append_assoc] at h
theorem grp_perm (l : List (ByteArray × GSpan)) : ((grp l).flatMap (·.2)).Perm (l.map (·.2)) := grpF_perm l []
theorem allS_group (g : Gp) : allS (g.map resG) = g.flatMap (·.2) := by
  unfold allS
  rw [List.flatMap_map]
  refine congrArg (fun f => List.flatMap f g) (funext fun x => ?_)
  show z0 [⟨_, _, x.2⟩] = x.2
  simp [z0]
theorem rowsZ_spans (b : List GRes) : (ym b).map (·.2) = (allS b).map nzS := by
  unfold ym allS
  rw [List.map_flatMap, List.map_flatMap]
  refine congrArg (fun f => List.flatMap f b) (funext fun r => ?_)
  rw [List.map_map]; rfl
theorem allS_nz (b : List GRes) : (allS (nzB b)).Perm ((allS b).map nzS) := by
  unfold nzB groupM
  rw [allS_group, ← rowsZ_spans]; exact grp_perm _
theorem code_note (s : GSpan) (h : xB s.note = 0) : xB (if s.code = 2 then s.note else ⟨#[]⟩) = 0 := by split; exact h; exact nameC_empty
theorem spanOk_nz {s : GSpan} (ho : s.ok) (h : vI s = 0) : vI (nzS s) = 0 := by
  obtain ⟨a1, a2, a3, a4, a5, a6, a7, a8, a9, b1⟩ := (spanOk_iff s).1 h
  refine (spanOk_iff _).2 ⟨a1, nameC_empty, a3, ?_, whole_check ho.2.2.1.2.1 ho.2.2.1.2.2.1, attrsC_kept nZ kZ a6, ?_, ?_, a9, code_note s b1⟩
  · show 0 ≤ (if s.kind = 1 then 0 else s.kind) ∧ (if s.kind = 1 then 0 else s.kind) ≤ 5
    split <;> omega
  · exact evsC_map (f := nzE) (fun e he => ⟨wholeN_le _, he.2.1, attrsC_nil⟩) a7
  · show lksC [] = 0
    rfl
theorem service_resG (x : ByteArray × List GSpan) : zx (resG x) = x.1 := (named_stays (l := []) trivial x.1).2
theorem textW {l : List GA} {k : ByteArray} {v : GV} (h : getA l k = some v) : 64 + 6 * k.size + 12 * (xM v).size ≤ yb l := by
  induction l with
  | nil => rw [getA] at h; cases h
  | cons x l ih =>
    rw [getA] at h
    rw [yb]
    split at h
    · rename_i hk; rw [← hk, ← Option.some.inj h]; omega
    · have := ih h; omega
theorem head_le (r : GRes) : yb (xe [] (zx r)) ≤ yb r.attrs := by
  unfold xe
  split
  · exact Nat.zero_le _
  · rename_i hne
    show 64 + 6 * skey.size + 12 * (xM (tv (zx r))).size + 0 ≤ _
    rw [textM_tv]
    unfold zx textA at hne ⊢
    cases e : getA r.attrs skey with
    | none => rw [e, Option.getD_none, textM_zero] at hne; exact absurd rfl hne
    | some v => have := textW e; rw [Option.getD_some]; omega
theorem spanW_nz (s : GSpan) (t : ByteArray) : ww (nzS s) t ≤ ww s t := by
  have h1 : yb (keptZ s.attrs) ≤ yb s.attrs := attrsW_kept nZ kZ s.attrs
  have h2 : zh (fun e : GE => 64 + 6 * e.name.size + yb e.attrs) (s.events.map nzE) ≤ zh (fun e : GE => 64 + 6 * e.name.size + yb e.attrs) s.events :=
    sumBy_map_mono fun e _ => by show 64 + 6 * e.name.size + 0 ≤ _; omega
  have h4 : (if s.code = 2 then s.note else ⟨#[]⟩ : ByteArray).size ≤ s.note.size := by split; exact Nat.le_refl _; exact Nat.zero_le _
  show 512 + 6 * (t.size + 0 + s.name.size + (if s.code = 2 then s.note else ⟨#[]⟩ : ByteArray).size) + yb (keptZ s.attrs) + zh _ (s.events.map nzE) + 0 ≤ _
  unfold ww
  omega
def headW (k : ByteArray) : Nat := 128 + yb (xe [] k)
def gW (g : Gp) : Nat := zh (fun x : ByteArray × List GSpan => zh (fun s => ww s x.1) x.2) g
theorem resW_resG (x : ByteArray × List GSpan) : resW (resG x) = headW x.1 + zh (fun s => ww s x.1) x.2 := by
  unfold resW
  rw [service_resG]
  show 64 + yb (xe [] x.1) + (64 + 6 * (0 + 0) + zh (fun s => ww s x.1) x.2 + 0) = _
  unfold headW
  omega
theorem batchW_group (g : Gp) : batchW (g.map resG) = 16 + (zh headW (yw g) + gW g) := by
  unfold batchW
  congr 1
  induction g with
  | nil => rfl
  | cons x g ih =>
    have e : yw (x :: g) = x.1 :: yw g := rfl
    have e2 : gW (x :: g) = zh (fun s => ww s x.1) x.2 + gW g := rfl
    rw [List.map_cons, zh, ih, resW_resG, e, e2, zh]
    omega
theorem gW_put : ∀ (g : Gp) (k : ByteArray) (s : GSpan), gW (gput g k s) = gW g + ww s k
  | [], k, s => by simp [gput, gW, zh]
  | (k', l) :: g, k, s => by
    have ih := gW_put g k s
    rw [gput]
    have e : ∀ (l : List GSpan) (g : Gp), gW ((k', l) :: g) = zh (fun s => ww s k') l + gW g := fun _ _ => rfl
    split
    · rename_i h
      rw [e, e, y8, h]; simp only [zh]; omega
    · rw [e, e, ih]; omega
theorem gW_F : ∀ (l : List (ByteArray × GSpan)) (g : Gp), gW (grpF g l) = gW g + zh (fun x : ByteArray × GSpan => ww x.2 x.1) l
  | [], g => by simp [grpF, zh]
  | x :: l, g => by
    show gW (grpF (gput g x.1 x.2) l) = _
    rw [gW_F l, gW_put, zh]; omega
theorem rows_one (r : GRes) : ∀ x ∈ (z0 r.scopes).map (fun s => (zx r, nzS s)), x.1 = zx r := fun x hx => by
  obtain ⟨s, _, rfl⟩ := List.mem_map.1 hx; rfl
theorem rowsW (t : ByteArray) : ∀ l : List GSpan, zh (fun x : ByteArray × GSpan => ww x.2 x.1) (l.map fun s => (t, nzS s)) ≤ zh (fun s => ww s t) l
  | [] => Nat.le_refl _
  | s :: l => by rw [List.map_cons, zh, zh]; have := rowsW t l; have := spanW_nz s t; dsimp only; omega
theorem spansOf_none : ∀ {l : List GScope}, z0 l ≠ [] → 1 ≤ l.length
  | [], h => absurd rfl h
  | _ :: _, _ => by simp
theorem groupsW : ∀ (b : List GRes) (g : Gp), zh headW (yw (grpF g (ym b))) + gW (grpF g (ym b)) ≤ zh headW (yw g) + gW g + zh resW b
  | [], g => by simp [ym, grpF, zh]
  | r :: b, g => by
    have e : ym (r :: b) = (z0 r.scopes).map (fun s => (zx r, nzS s)) ++ ym b := List.flatMap_cons
    rw [e, grpF_append]
    have ih := groupsW b (grpF g ((z0 r.scopes).map fun s => (zx r, nzS s)))
    have h1 := keys_one g (rows_one r)
    have h2 := gW_F ((z0 r.scopes).map fun s => (zx r, nzS s)) g
    have h3 := rowsW (zx r) (z0 r.scopes)
    have h4 := scopesW_ge (zx r) r.scopes
    have h5 : zh headW (yw (grpF g ((z0 r.scopes).map fun s => (zx r, nzS s)))) ≤ zh headW (yw g) + (64 + yb r.attrs + 64 * r.scopes.length) := by
      rw [h1]
      split
      · omega
      · rename_i hn
        have hne : z0 r.scopes ≠ [] := fun h0 => hn (.inl (by rw [h0]; rfl))
        have h6 := spansOf_none hne
        have h7 := head_le r
        rw [y8, zh, zh]
        unfold headW
        omega
    have h8 : resW r = 64 + yb r.attrs + zh (fun s => wX s (zx r)) r.scopes := rfl
    rw [zh]
    omega
theorem batchW_nz (b : List GRes) : batchW (nzB b) ≤ batchW b := by
  have h := groupsW b []
  have e := batchW_group (grp (ym b))
  have e2 : zh headW (yw []) + gW [] = 0 := rfl
  unfold nzB groupM
  unfold grp at e ⊢
  rw [e]
  unfold batchW
  omega
theorem keysLen : ∀ (b : List GRes) (g : Gp), (yw (grpF g (ym b))).length ≤ (yw g).length + b.length
  | [], g => by simp [ym, grpF]
  | r :: b, g => by
    have e : ym (r :: b) = (z0 r.scopes).map (fun s => (zx r, nzS s)) ++ ym b := List.flatMap_cons
    rw [e, grpF_append]
    have ih := keysLen b (grpF g ((z0 r.scopes).map fun s => (zx r, nzS s)))
    have h1 := keys_one g (rows_one r)
    rw [List.length_cons]
    have : (yw (grpF g ((z0 r.scopes).map fun s => (zx r, nzS s)))).length ≤ (yw g).length + 1 := by
      rw [h1]; split
      · omega
      · simp
    omega
theorem keysMem : ∀ (l : List (ByteArray × GSpan)) (g : Gp) (k : ByteArray), k ∈ yw (grpF g l) → k ∈ yw g ∨ ∃ x ∈ l, x.1 = k
  | [], g, k, h => .inl h
  | x :: l, g, k, h => by
    rcases keysMem l _ k h with h | ⟨y, hy, e⟩
    · rw [keys_gput] at h
      split at h
      · exact .inl h
      · rcases List.mem_append.1 h with h | h
        · exact .inl h
        · exact .inr ⟨x, List.mem_cons_self, (List.mem_singleton.1 h).symm⟩
    · exact .inr ⟨y, List.mem_cons_of_mem _ hy, e⟩
theorem rowsZ_mem {b : List GRes} {x : ByteArray × GSpan} (h : x ∈ ym b) : ∃ r ∈ b, x.1 = zx r ∧ ∃ c ∈ r.scopes, ∃ s ∈ c.spans, x.2 = nzS s := by
  obtain ⟨r, hr, hx⟩ := List.mem_flatMap.1 h
  obtain ⟨s, hs, rfl⟩ := List.mem_map.1 hx
  obtain ⟨c, hc, hs⟩ := spansOf_mem hs
  exact ⟨r, hr, rfl, c, hc, s, hs, rfl⟩
theorem chk_nz {b : List GRes} (ho : okB b) (h : (chkF b).1 = 0) : (chkF (nzB b)).1 = 0 := by
  obtain ⟨h1, h2, h3, h4⟩ := chkF_iff.1 h
  have hk := keysLen b []
  refine chkF_iff.2 ⟨?_, fun r hr => ?_, ?_, Nat.le_trans (batchW_nz b) h4⟩
  · unfold nzB groupM grp
    rw [List.length_map]
    have e : (yw (grpF [] (ym b))).length = (grpF [] (ym b)).length := List.length_map ..
    have e0 : (yw []).length = 0 := rfl
    omega
  · obtain ⟨x, hx, rfl⟩ := List.mem_map.1 hr
    have hkm : x.1 ∈ yw (grpF [] (ym b)) := List.mem_map.2 ⟨x, hx, rfl⟩
    rcases keysMem _ _ _ hkm with h0 | ⟨y, hy, e⟩
    · cases h0
    obtain ⟨r, hr, e2, _⟩ := rowsZ_mem hy
    have ht := textA_right (h2 r hr).1 skey
    have hsv : x.1 = textA r.attrs skey := e.symm.trans e2
    refine ⟨attrsC_named attrsC_nil (hsv ▸ ht.1) (hsv ▸ ht.2) (.inr (.inr (by decide))), by show 1 ≤ 16; decide, fun c hc => ?_⟩
    cases List.mem_singleton.1 hc
    refine ⟨nameC_empty, nameC_empty, fun s hs => ?_⟩
    have hs : s ∈ x.2 := hs
    have hm : s ∈ (grp (ym b)).flatMap (·.2) := List.mem_flatMap.2 ⟨x, hx, hs⟩
    obtain ⟨y, hy, rfl⟩ := List.mem_map.1 ((grp_perm (ym b)).mem_iff.1 hm)
    obtain ⟨r, hr, _, c, hc, t, ht, e⟩ := rowsZ_mem hy
    rw [e]
    exact spanOk_nz (((ho r hr).2 c hc).2.2 t ht) (((h2 r hr).2.2 c hc).2.2 t ht)
  · rw [plR_all, (allS_nz b).length_eq, List.length_map, ← plR_all 0]; exact h3
theorem core_nz {s : GSpan} (ho : s.ok) : coreS (nzS s) = coreS s := by
  have h := core_times ho.2.2.1.2.1 ho.2.2.1.2.2.1
  exact GCore.ext' rfl rfl rfl rfl h.1 h.2
theorem cores_nz {b : List GRes} (ho : okB b) : (xI (nzB b)).Perm (xI b) := by
  unfold xI
  refine ((allS_nz b).map coreS).trans ?_
  rw [List.map_map]
  refine List.Perm.of_eq (List.map_congr_left fun s hs => ?_)
  obtain ⟨r, hr, c, hc, hs⟩ := allS_mem hs
  exact core_nz (((ho r hr).2 c hc).2.2 s hs)
def xz (l : List GCore) (c : GCore) : Nat := l.countP fun x => decide (x = c)
def alikeC (x y : List GCore) : Bool := decide (x.length = y.length) && x.all fun c => decide (xz x c = xz y c)
theorem alike_perm {x y : List GCore} (h : x.Perm y) : alikeC x y = true := by
  unfold alikeC
  rw [decide_eq_true h.length_eq, Bool.true_and, List.all_eq_true]
  exact fun c _ => decide_eq_true (h.countP_eq _)
end Go.Proofs
namespace Go.Proofs
open Go Go.Al
def rq0 : ByteArray × GSpan := (⟨#[]⟩, gs0)
def nthQ (l : List (ByteArray × GSpan)) (i : Nat) : ByteArray × GSpan := nth l i rq0
end Go.Proofs
namespace Go.Proofs
open Go Go.Al
def flAv (f : Fl) : AV := .agg [iv f.1, .sl 1 (f.2.map sv)]
def upF (ab : List ByteArray) (f : Fl) : Fl := if f.1 = 0 then (0, []) else (f.1, ab ++ f.2)
theorem upF_pos {ab : List ByteArray} {f : Fl} (h : f.1 ≠ 0) : upF ab f = (f.1, ab ++ f.2) := if_neg h
theorem upF_zero {ab : List ByteArray} {f : Fl} (h : f.1 = 0) : upF ab f = (0, []) := if_pos h
theorem upF_code (ab : List ByteArray) (f : Fl) : (upF ab f).1 = f.1 := by
  unfold upF; split
  · rename_i h; exact h.symm
  · rfl
theorem part_cat (k : ByteArray) (n : Nat) : (k ++ ⟨#[32]⟩) ++ yB (decB n) = partM k n := by
  unfold partM
  have h1 : yB (lst k) = k := strOf_lst k
  have h2 : (⟨#[32]⟩ : ByteArray) = yB [32] := rfl
  conv => lhs; rw [← h1]
  rw [h2, xy, xy, List.append_assoc]; rfl
theorem spansF_drop {l : List GSpan} {i : Nat} (h : i < l.length) : spansF i (l.drop i) = if vI (nthS l i) = 0 then spansF (i + 1) (l.drop (i + 1)) else (vI (nthS l i), [partM kSpan i]) := by
  rw [xS (d := gs0) h, spansF]; rfl
theorem scopesF_drop {l : List GScope} {i : Nat} (h : i < l.length) : scopesF i (l.drop i) = if (xt (nthC l i)).1 = 0 then scopesF (i + 1) (l.drop (i + 1)) else ((xt (nthC l i)).1, partM kScope i :: (xt (nthC l i)).2) := by
  rw [xS (d := gc0) h, scopesF]; rfl
theorem ressF_drop {l : List GRes} {i : Nat} (h : i < l.length) : ressF i (l.drop i) = if (resF (nthR l i)).1 = 0 then ressF (i + 1) (l.drop (i + 1)) else ((resF (nthR l i)).1, partM kRes i :: (resF (nthR l i)).2) := by
  rw [xS (d := gr0) h, ressF]; rfl
section
variable {s : GScope} {ab : List ByteArray} {i : Nat}
theorem scopeF_1 (h : xB s.name ≠ 0) : xt s = (xB s.name, []) := if_pos h
theorem scopeF_2 (h1 : xB s.name = 0) (h : xB s.version ≠ 0) : xt s = (xB s.version, []) := by unfold xt; rw [if_neg (by omega), if_pos h]
theorem scopeF_3 (h1 : xB s.name = 0) (h2 : xB s.version = 0) : xt s = spansF 0 s.spans := by unfold xt; rw [if_neg (by omega), if_neg (by omega)]
theorem sc1 (h : xB s.name ≠ 0) : AV.agg [iv (xB s.name), .sl 1 (ab.map sv)] = flAv (upF ab (xt s)) := by
  rw [scopeF_1 h, upF_pos (f := (xB s.name, [])) h, List.append_nil]; rfl
theorem sc2 (h1 : xB s.name = 0) (h : xB s.version ≠ 0) : AV.agg [iv (xB s.version), .sl 1 (ab.map sv)] = flAv (upF ab (xt s)) := by
  rw [scopeF_2 h1 h, upF_pos (f := (xB s.version, [])) h, List.append_nil]; rfl
theorem sc3 (h1 : xB s.name = 0) (h2 : xB s.version = 0) (h : spansF 0 s.spans = spansF i (s.spans.drop i)) (hi : i < s.spans.length) (hn : vI (nthS s.spans i) ≠ 0) :
    AV.agg [iv (vI (nthS s.spans i)), .sl 1 (ab.map sv ++ [sv (partM kSpan i)])] = flAv (upF ab (xt s)) := by
  rw [scopeF_3 h1 h2, h, spansF_drop hi, if_neg hn, upF_pos (f := (vI (nthS s.spans i), [partM kSpan i])) hn]
  unfold flAv
  rw [List.map_append]; rfl
theorem sc4 (h1 : xB s.name = 0) (h2 : xB s.version = 0) (h : spansF 0 s.spans = (0, [])) : AV.agg [iv 0, .sl 1 []] = flAv (upF ab (xt s)) := by
  rw [scopeF_3 h1 h2, h, upF_zero rfl]; rfl
end
section
variable {r : GRes} {a : ByteArray} {i : Nat}
theorem rs1 (h : yq r.attrs ≠ 0) : AV.agg [iv (yq r.attrs), .sl 1 [sv a]] = flAv (upF [a] (resF r)) := by
  rw [show resF r = (yq r.attrs, []) from if_pos h, upF_pos (f := (yq r.attrs, [])) h]; rfl
theorem rs2 (h1 : yq r.attrs = 0) (h : 16 < r.scopes.length) : AV.agg [iv 34, .sl 1 [sv a]] = flAv (upF [a] (resF r)) := by
  rw [show resF r = (34, []) by unfold resF; rw [if_neg (by omega), if_pos h], upF_pos (f := (34, [])) (by decide)]; rfl
theorem resF_3 (h1 : yq r.attrs = 0) (h : ¬ 16 < r.scopes.length) : resF r = scopesF 0 r.scopes := by unfold resF; rw [if_neg (by omega), if_neg h]
theorem rs3 (h1 : yq r.attrs = 0) (h2 : ¬ 16 < r.scopes.length) (h : scopesF 0 r.scopes = scopesF i (r.scopes.drop i)) (hi : i < r.scopes.length) (hn : (xt (nthC r.scopes i)).1 ≠ 0) :
    flAv (upF [a, partM kScope i] (xt (nthC r.scopes i))) = flAv (upF [a] (resF r)) := by
  rw [resF_3 h1 h2, h, scopesF_drop hi, if_neg hn, upF_pos hn, upF_pos (f := ((xt (nthC r.scopes i)).1, partM kScope i :: (xt (nthC r.scopes i)).2)) hn]; rfl
theorem rs4 (h1 : yq r.attrs = 0) (h2 : ¬ 16 < r.scopes.length) (h : scopesF 0 r.scopes = (0, [])) : AV.agg [iv 0, .sl 1 []] = flAv (upF [a] (resF r)) := by
  rw [resF_3 h1 h2, h, upF_zero rfl]; rfl
end
section
variable {b : List GRes} {i : Nat}
theorem ck1 (h : 32 < b.length) : chkF b = (34, []) := if_pos h
theorem ck2 (h1 : ¬ 32 < b.length) (h : ressF 0 b = ressF i (b.drop i)) (hi : i < b.length) (hn : (resF (nthR b i)).1 ≠ 0) : upF [partM kRes i] (resF (nthR b i)) = chkF b := by
  have e : ressF 0 b = ((resF (nthR b i)).1, partM kRes i :: (resF (nthR b i)).2) := by rw [h, ressF_drop hi, if_neg hn]
  unfold chkF
  rw [if_neg h1, e, if_pos hn, upF_pos hn]; rfl
theorem ck3 (h1 : ¬ 32 < b.length) (h : ressF 0 b = (0, [])) (h2 : 100 < (plR 0 b).length) : chkF b = (34, []) := by
  unfold chkF; rw [if_neg h1, h, if_neg (by decide), if_pos h2]
theorem ck4 (h1 : ¬ 32 < b.length) (h : ressF 0 b = (0, [])) (h2 : ¬ 100 < (plR 0 b).length) (h3 : 65536 < batchW b) : chkF b = (36, []) := by
  unfold chkF; rw [if_neg h1, h, if_neg (by decide), if_neg h2, if_pos h3]
theorem ck5 (h1 : ¬ 32 < b.length) (h : ressF 0 b = (0, [])) (h2 : ¬ 100 < (plR 0 b).length) (h3 : ¬ 65536 < batchW b) : chkF b = (0, []) := by
  unfold chkF; rw [if_neg h1, h, if_neg (by decide), if_neg h2, if_neg h3]
theorem flN {x : Fl} {c : Int} (h : x = (c, [])) : Up (.agg [iv c, .v (.slice none 0 0)]) (flAv x) := by rw [h]; exact Up.agg ⟨Up.refl _, Up.nil 1, trivial⟩
theorem flE {x : Fl} {c : Int} (h : x = (c, [])) : Up (.agg [iv c, .sl 1 []]) (flAv x) := by rw [h]; exact Up.refl _
theorem flU {x y : Fl} (h : x = y) : Up (flAv x) (flAv y) := by rw [h]; exact Up.refl _
end
end Go.Proofs
namespace Go.Proofs
open Go Go.Al
set_option maxRecDepth 10000
theorem rpart_c (k : ByteArray) (n : Nat) (hk : k.size ≤ 100) (hn : n ≤ 1000000000) : zs Tryz.prog Γ0 25 [sv k, iv (n : Int)] [sv (partM k n)] := by
  refine zd Tryz.func25 rfl Tryz.ntmps25 (by kernel_rfl) rfl fun w0 I0 G0 => ?_
  refine zD <| zB <| g_u (zE rfl rfl) <| zF <| zA <| zD <| zB <| g_u (zC rfl rfl) ?_
  refine g_u (yv rfl rfl rfl (by show _ ≤ (9223372036854775807 : Int); have h1 := decB_length (n : Int); have h2 : (ByteArray.mk #[32]).size = 1 := rfl; have h3 : (yB (decB (n : Int))).size = (decB (n : Int)).length := zX _; (try dsimp only); (try simp only [zj]); omega)) ?_
  refine g_u (zC rfl rfl) ?_
  refine g_u (zQ (rdec_c _ (by omega)) rfl rfl) ?_
  refine g_u (yv rfl rfl rfl (by show _ ≤ (9223372036854775807 : Int); have h1 := decB_length (n : Int); have h2 : (ByteArray.mk #[32]).size = 1 := rfl; have h3 : (yB (decB (n : Int))).size = (decB (n : Int)).length := zX _; (try dsimp only); (try simp only [zj]); omega)) ?_
  refine g_u (zE rfl rfl) <| zF <| zA <| zM ?_
  exact ⟨⟨(rfl : toAV (Al.look _ _) = some _).trans (congrArg some (by (exact congrArg sv (part_cat k n)))), rfl⟩, trivial⟩
set_option maxHeartbeats 4000000 in
theorem rscope30_c (s : GScope) (ab : List ByteArray) (ho : s.ok) (hw : s.wt ≤ 1000000) (ha : ab.length ≤ 10) : zs Tryz.prog Γ0 47 [s.av, .sl 1 (ab.map sv)] [flAv (upF ab (xt s))] := by
  have qw : s.wt = 1 + s.name.size + s.version.size + zh GSpan.wt s.spans := rfl
  have ql := yo GSpan.wt (fun e => by unfold GSpan.wt; omega) s.spans
  refine zd Tryz.func47 rfl Tryz.ntmps47 (by kernel_rfl) rfl fun w0 I0 G0 => ?_
  refine zD <| zB <| g_uG (zp 1002 rfl rfl rfl rfl) rfl <| g_uG (yR 1004 rfl rfl rfl tZ29) rfl <| zF <| zA <| zD <| zD <| zB <| g_u (zG rfl rfl fa51_0 rfl) <| g_u (zH rfl rfl rfl tA9 tS9 rfl rfl) ?_
  refine g_u (zQ (rname_c _ (by omega)) rfl rfl) ?_
  refine g_u (zE rfl rfl) <| zF <| zA <| zD <| zB <| g_u (zC rfl rfl) <| g_u (wv rfl rfl rfl) <| zF <| zA ?_
  refine zN rfl (fun hb1 => ?_) (fun hb1 => ?_)
  · have q1 : xB s.name ≠ 0 := qc.1 hb1
    refine zD <| zB <| g_u (zC rfl rfl) <| g_u (zC rfl rfl) <| g_u (yh rfl tU29 us29 pl29 rfl rfl rfl rfl) <| g_u (zg rfl rfl rfl tS29 rfl rfl) <| zF <| zA <| zM <| zL ?_
    exact ⟨⟨_, _, _, _, _, _, _, rfl, rfl, tA29, tS29, rfl, rfl, (rfl : toAV _ = some _).trans (congrArg some (by (exact sc1 q1)))⟩, trivial⟩
  · have q1 : xB s.name = 0 := qd.1 hb1
    refine zO <| zA <| zD <| zD <| zB <| g_u (zG rfl rfl fa51_1 rfl) <| g_u (zH rfl rfl rfl tA9 tS9 rfl rfl) ?_
    refine g_u (zQ (rname_c _ (by omega)) rfl rfl) ?_
    refine g_u (zE rfl rfl) <| zF <| zA <| zD <| zB <| g_u (zC rfl rfl) <| g_u (wv rfl rfl rfl) <| zF <| zA ?_
    refine zN rfl (fun hb2 => ?_) (fun hb2 => ?_)
    · have q2 : xB s.version ≠ 0 := qc.1 hb2
      refine zD <| zB <| g_u (zC rfl rfl) <| g_u (zC rfl rfl) <| g_u (yh rfl tU29 us29 pl29 rfl rfl rfl rfl) <| g_u (zg rfl rfl rfl tS29 rfl rfl) <| zF <| zA <| zM <| zL ?_
      exact ⟨⟨_, _, _, _, _, _, _, rfl, rfl, tA29, tS29, rfl, rfl, (rfl : toAV _ = some _).trans (congrArg some (by (exact sc2 q1 q2)))⟩, trivial⟩
    · have q2 : xB s.version = 0 := qd.1 hb2
      refine zO <| zA <| zD <| zD <| zB <| g_u (zE rfl rfl) <| zF <| zA <| zV ?_
      refine zu (fun i : Nat => [(2, .ptr 1002 0), (1002, .box 51 (.imm s.av)), (1, .imm (.sl 1 (ab.map sv))), (4, .ptr 1004 0), (1004, .box 29 (.imm z29)), (7, .imm (iv (i : Int)))]) (fun i => i ≤ s.spans.length ∧ spansF 0 s.spans = spansF i (s.spans.drop i)) (fun i => s.spans.length - i) (0) ?_ ⟨rfl, rfl, rfl, rfl, rfl, rfl, trivial⟩ ?_
      · exact ⟨Nat.zero_le _, rfl⟩
      · rintro i ⟨h1, h2⟩; (try dsimp only at h1 h2)
        refine zD <| zD <| zB <| g_u (zC rfl rfl) <| g_u (zG rfl rfl fa51_2 rfl) <| g_u (zH rfl rfl rfl tA49 tS49 rfl rfl) <| g_u (yJ rfl rfl Tryz.underlying49) <| g_u (y_ rfl rfl rfl) <| zF <| zA ?_
        refine zN rfl (fun hb3 => ?_) (fun hb3 => ?_)
        · have hi : i < s.spans.length := by have := of_decide_eq_true hb3; (try simp only [List.length_map] at this); omega
          have hsx := yg GSpan.wt (nthS_mem hi)
          have hso := ho.2.2 _ (nthS_mem hi)
          refine zO <| zA <| zD <| zV <| zD <| zB <| g_u (zG rfl rfl fa51_2 rfl) <| g_u (zH rfl rfl rfl tA49 tS49 rfl rfl) <| g_u (zC rfl rfl) ?_
          refine g_u (zR rfl rfl rfl Tryz.underlying49 tS63 (by omega) (ixS hi)) ?_
          refine g_u (z_ rfl rfl tA63 tS63 rfl (by first | exact getS_w (GSpan.width _) rfl | rfl)) ?_
          refine g_u (zQ (rspanCheck_c _ hso (by omega)) rfl rfl) ?_
          refine g_u (zE rfl rfl) <| zF <| zA <| zD <| zB <| g_u (zC rfl rfl) <| g_u (wv rfl rfl rfl) <| zF <| zA ?_
          refine zN rfl (fun hb4 => ?_) (fun hb4 => ?_)
          · have hz : vI (nthS s.spans i) ≠ 0 := qc.1 hb4
            refine zD <| zB <| g_u (zC rfl rfl) <| g_uG (s_build0 1041 3041 rfl rfl rfl rfl rfl rfl Tryz.underlying27 tS9) rfl <| g_u (zC rfl rfl) ?_
            refine g_u (yj rfl rfl rfl rfl rfl Tryz.underlying27 Tryz.underlying27 tS9 zv9 rfl (by decide) by9 (by (try dsimp only); simp only [List.length_append, List.length_cons, List.length_nil, List.length_map]; omega) (by (try dsimp only); simp only [List.length_append, List.length_cons, List.length_nil, List.length_map]; omega)) ?_
            refine g_u (zC rfl rfl) ?_
            refine g_u (zQ (rpart_c kSpan i (by decide) (by omega)) rfl rfl) ?_
            refine g_u (zm (X0 := z9) rfl Tryz.underlying27 tS9 tZ9 rfl rfl rfl rfl rfl rfl rfl rfl) ?_
            refine g_u (yj rfl rfl rfl rfl rfl Tryz.underlying27 Tryz.underlying27 tS9 zv9 rfl (by decide) by9 (by (try dsimp only); simp only [List.length_append, List.length_cons, List.length_nil, List.length_map]; omega) (by (try dsimp only); simp only [List.length_append, List.length_cons, List.length_nil, List.length_map]; omega)) ?_
            refine g_u (yh rfl tU29 us29 pl29 rfl rfl rfl rfl) <| g_u (zg rfl rfl rfl tS29 rfl rfl) <| zF <| zA <| zM <| zt <| zL <| zL <| zt <| zL ?_
            exact ⟨⟨_, _, _, _, _, _, _, rfl, rfl, tA29, tS29, rfl, rfl, (rfl : toAV _ = some _).trans (congrArg some (by (first | exact sc3 q1 q2 h2 hi hz | exact sc4 q1 q2 (by rw [h2, hin, List.drop_length]; rfl))))⟩, trivial⟩
          · have hz : vI (nthS s.spans i) = 0 := qd.1 hb4
            refine zO <| zY <| zA <| zB <| g_u (zC rfl rfl) <| g_u (zz rfl rfl rfl) <| g_u (zE rfl rfl) <| zF <| zA ?_
            refine ⟨i + 1, ⟨hi, by (try dsimp only); rw [h2, spansF_drop hi, if_pos hz]⟩, ⟨rfl, rfl, rfl, rfl, rfl, zZ rfl (by rw [zK (by omega) (by omega)]; rfl), trivial⟩, by (try dsimp only); omega⟩
        · have hin : i = s.spans.length := by have := of_decide_eq_false hb3; (try simp only [List.length_map] at this); omega
          refine z7 <| zT <| zT <| zq <| zA <| zD <| zB <| g_u (yh rfl tU29 us29 pl29 rfl rfl rfl rfl) <| g_u (zg rfl rfl rfl tS29 rfl rfl) <| zF <| zA <| zM ?_
          exact ⟨⟨_, _, _, _, _, _, _, rfl, rfl, tA29, tS29, rfl, rfl, (rfl : toAV _ = some _).trans (congrArg some (by (first | exact sc3 q1 q2 h2 hi hz | exact sc4 q1 q2 (by rw [h2, hin, List.drop_length]; rfl))))⟩, trivial⟩
set_option maxHeartbeats 4000000 in
theorem rres30_c (r : GRes) (a : ByteArray) (ho : r.ok) (hf : fitR r) : zs Tryz.prog Γ0 24 [r.av, sv a] [flAv (upF [a] (resF r))] := by
  have hwa := hf.1
  have ql := hf.2.1
  refine zd Tryz.func24 rfl Tryz.ntmps24 (by kernel_rfl) rfl fun w0 I0 G0 => ?_
  refine zD <| zB <| g_uG (zp 1002 rfl rfl rfl rfl) rfl <| g_uG (yR 1004 rfl rfl rfl tZ29) rfl <| zF <| zA <| zD <| zD <| zB <| g_u (zG rfl rfl fa47_0 rfl) <| g_u (zH rfl rfl rfl tA44 tS44 rfl rfl) ?_
  refine g_u (zQ (rcheckAs_c _ ho.1 (by omega)) rfl rfl) ?_
  refine g_u (zE rfl rfl) <| zF <| zA <| zD <| zB <| g_u (zC rfl rfl) <| g_u (wv rfl rfl rfl) <| zF <| zA ?_
  refine zN rfl (fun hb1 => ?_) (fun hb1 => ?_)
  · have q1 : yq r.attrs ≠ 0 := qc.1 hb1
    refine zD <| zB <| g_u (zC rfl rfl) <| g_u (zC rfl rfl) <| g_u (zm (X0 := z9) rfl Tryz.underlying27 tS9 tZ9 rfl rfl rfl rfl rfl rfl rfl rfl) <| g_u (yh rfl tU29 us29 pl29 rfl rfl rfl rfl) <| g_u (zg rfl rfl rfl tS29 rfl rfl) <| zF <| zA <| zM <| zL ?_
    exact ⟨⟨_, _, _, _, _, _, _, rfl, rfl, tA29, tS29, rfl, rfl, (rfl : toAV _ = some _).trans (congrArg some (by (exact rs1 q1)))⟩, trivial⟩
  · have q1 : yq r.attrs = 0 := qd.1 hb1
    refine zO <| zA <| zD <| zD <| zB <| g_u (zG rfl rfl wq rfl) <| g_u (zH rfl rfl rfl tA45 tS45 rfl rfl) <| g_u (yJ rfl rfl Tryz.underlying45) <| g_u (xu rfl rfl rfl) <| zF <| zA ?_
    refine zN rfl (fun hb2 => ?_) (fun hb2 => ?_)
    · have q2 : 16 < r.scopes.length := by have := of_decide_eq_true hb2; (try simp only [List.length_map] at this); omega
      refine zD <| zB <| g_u (zC rfl rfl) <| g_u (zm (X0 := z9) rfl Tryz.underlying27 tS9 tZ9 rfl rfl rfl rfl rfl rfl rfl rfl) <| g_u (yh rfl tU29 us29 pl29 rfl rfl rfl rfl) <| g_u (zg rfl rfl rfl tS29 rfl rfl) <| zF <| zA <| zM <| zL ?_
      exact ⟨⟨_, _, _, _, _, _, _, rfl, rfl, tA29, tS29, rfl, rfl, (rfl : toAV _ = some _).trans (congrArg some (by (exact rs2 q1 q2)))⟩, trivial⟩
    · have q2 : ¬ 16 < r.scopes.length := by have := of_decide_eq_false hb2; (try simp only [List.length_map] at this); omega
      refine zO <| zA <| zD <| zD <| zB <| g_u (zE rfl rfl) <| zF <| zA <| zV ?_
      refine zu (fun i : Nat => [(2, .ptr 1002 0), (1002, .box 47 (.imm r.av)), (1, .imm (sv a)), (4, .ptr 1004 0), (1004, .box 29 (.imm z29)), (6, .imm (iv (i : Int)))]) (fun i => i ≤ r.scopes.length ∧ scopesF 0 r.scopes = scopesF i (r.scopes.drop i)) (fun i => r.scopes.length - i) (0) ?_ ⟨rfl, rfl, rfl, rfl, rfl, rfl, trivial⟩ ?_
      · exact ⟨Nat.zero_le _, rfl⟩
      · rintro i ⟨h1, h2⟩; (try dsimp only at h1 h2)
        refine zD <| zD <| zB <| g_u (zC rfl rfl) <| g_u (zG rfl rfl wq rfl) <| g_u (zH rfl rfl rfl tA45 tS45 rfl rfl) <| g_u (yJ rfl rfl Tryz.underlying45) <| g_u (y_ rfl rfl rfl) <| zF <| zA ?_
        refine zN rfl (fun hb3 => ?_) (fun hb3 => ?_)
        · have hi : i < r.scopes.length := by have := of_decide_eq_true hb3; (try simp only [List.length_map] at this); omega
          have hsx := hf.2.2.2 _ (nthC_mem hi)
          have hso := ho.2 _ (nthC_mem hi)
          refine zO <| zA <| zD <| zV <| zD <| yX xb <| g_u (zG rfl rfl wq rfl) <| g_u (zH rfl rfl rfl tA45 tS45 rfl rfl) <| g_u (zC rfl rfl) ?_
          refine g_u (zR rfl rfl rfl Tryz.underlying45 tS51 (by omega) (ixC hi)) ?_
          refine g_u (z_ rfl rfl tA51 tS51 rfl rfl) <| g_u (zC rfl rfl) <| g_u (zC rfl rfl) ?_
          refine g_u (zQ (rpart_c kScope i (by decide) (by omega)) rfl rfl) ?_
          refine g_u (zm (X0 := z9) rfl Tryz.underlying27 tS9 tZ9 rfl rfl rfl rfl rfl rfl rfl rfl) ?_
          refine g_u (zQ (rscope30_c (nthC r.scopes i) [a, partM kScope i] hso (by omega) (by show 2 ≤ 10; decide)) rfl rfl) ?_
          refine g_uG (yR 1007 rfl rfl rfl tZ29) rfl <| g_u (zg rfl rfl rfl tS29 rfl rfl) ?_
          refine zF ⟨by kernel_rfl, ?_⟩
          refine zA <| zD <| zB <| g_u (zG rfl rfl fa29_0 rfl) <| g_u (zH rfl rfl rfl tA26 tS26 rfl rfl) <| g_u (wv rfl rfl rfl) <| zF <| zA ?_
          refine zN rfl (fun hb4 => ?_) (fun hb4 => ?_)
          · have hz : (xt (nthC r.scopes i)).1 ≠ 0 := by have e := qc.1 hb4; rw [upF_code] at e; exact e
            refine zD <| zB <| g_u (yn rfl rfl rfl tA29 tS29 rfl rfl) <| g_u (zg rfl rfl rfl tS29 rfl rfl) <| zF <| zA <| zM <| zt <| zL <| zL <| zt <| zL ?_
            exact ⟨⟨_, _, _, _, _, _, _, rfl, rfl, tA29, tS29, rfl, rfl, (rfl : toAV _ = some _).trans (congrArg some (by (first | exact rs3 q1 q2 h2 hi hz | exact rs4 q1 q2 (by rw [h2, hin, List.drop_length]; rfl))))⟩, trivial⟩
          · have hz : (xt (nthC r.scopes i)).1 = 0 := by have e := qd.1 hb4; rw [upF_code] at e; exact e
            refine zO <| zY <| zA <| zB <| g_u (zC rfl rfl) <| g_u (zz rfl rfl rfl) <| g_u (zE rfl rfl) <| zF <| zA ?_
            refine ⟨i + 1, ⟨hi, by (try dsimp only); rw [h2, scopesF_drop hi, if_pos hz]⟩, ⟨rfl, rfl, rfl, rfl, rfl, zZ rfl (by rw [zK (by omega) (by omega)]; rfl), trivial⟩, by (try dsimp only); omega⟩
        · have hin : i = r.scopes.length := by have := of_decide_eq_false hb3; (try simp only [List.length_map] at this); omega
          refine z7 <| zT <| zT <| zq <| zA <| zD <| zB <| g_u (yh rfl tU29 us29 pl29 rfl rfl rfl rfl) <| g_u (zg rfl rfl rfl tS29 rfl rfl) <| zF <| zA <| zM ?_
          exact ⟨⟨_, _, _, _, _, _, _, rfl, rfl, tA29, tS29, rfl, rfl, (rfl : toAV _ = some _).trans (congrArg some (by (first | exact rs3 q1 q2 h2 hi hz | exact rs4 q1 q2 (by rw [h2, hin, List.drop_length]; rfl))))⟩, trivial⟩
set_option maxHeartbeats 8000000 in
theorem rchk_c (b : List GRes) (ho : okB b) (hf : fitB b) : zs Tryz.prog Γ0 7 [yr b] [flAv (chkF b)] := by
  have hw := hf.1
  have qw : wtB b = zh GRes.wt b := rfl
  have ql := yo GRes.wt (fun e => by unfold GRes.wt; omega) b
  have qb : batchW b ≤ 16 + 100000000 * 3000000 := by have h5 := sumBy_le3 (F := resW) (k := 100000000) (G := GRes.wt) b (fun r hr => resW_le r (hf.2 r hr).2.2.1); have qe : batchW b = 16 + zh resW b := rfl; omega
  refine pcall_ofU Tryz.func7 rfl Tryz.ntmps7 (by kernel_rfl) rfl fun w0 I0 G0 => ?_
  refine zD <| zB <| g_uG (zp 1001 rfl rfl rfl rfl) rfl <| g_uG (yR 1002 rfl rfl rfl tZ29) rfl <| zF <| zA <| zD <| zD <| zB <| g_u (zG rfl rfl fa24_0 rfl) <| g_u (zH rfl rfl rfl tA22 tS22 rfl rfl) <| g_u (yJ rfl rfl Tryz.underlying22) <| g_u (xu rfl rfl rfl) <| zF <| zA ?_
  refine zN rfl (fun hb1 => ?_) (fun hb1 => ?_)
  · have q1 : 32 < b.length := by have := of_decide_eq_true hb1; (try simp only [List.length_map] at this); omega
    refine zD <| zB <| g_u (yh rfl tU29 us29 pl29 rfl rfl rfl rfl) <| g_u (zg rfl rfl rfl tS29 rfl rfl) <| zF <| zA <| zM <| zL ?_
    exact ⟨[_], ⟨⟨_, _, _, _, _, _, _, rfl, rfl, tA29, tS29, rfl, rfl, rfl⟩, trivial⟩, ⟨(by first | exact flN (ck1 q1) | exact flU (ck2 q1 h2 hi hz) | exact flN (ck3 q1 hall q3) | exact flN (ck4 q1 hall q3 q4) | exact flE (ck5 q1 hall q3 q4)), trivial⟩⟩
  · have q1 : ¬ 32 < b.length := by have := of_decide_eq_false hb1; (try simp only [List.length_map] at this); omega
    refine zO <| zA <| zD <| zD <| zB <| g_u (zE rfl rfl) <| zF <| zA <| zV ?_
    refine zu (fun i : Nat => [(1, .ptr 1001 0), (1001, .box 24 (.imm (yr b))), (2, .ptr 1002 0), (1002, .box 29 (.imm z29)), (3, .imm (iv (i : Int)))]) (fun i => i ≤ b.length ∧ ressF 0 b = ressF i (b.drop i)) (fun i => b.length - i) (0) ?_ ⟨rfl, rfl, rfl, rfl, rfl, trivial⟩ ?_
    · exact ⟨Nat.zero_le _, rfl⟩
    · rintro i ⟨h1, h2⟩; (try dsimp only at h1 h2)
      refine zD <| zD <| zB <| g_u (zC rfl rfl) <| g_u (zG rfl rfl fa24_0 rfl) <| g_u (zH rfl rfl rfl tA22 tS22 rfl rfl) <| g_u (yJ rfl rfl Tryz.underlying22) <| g_u (y_ rfl rfl rfl) <| zF <| zA ?_
      refine zN rfl (fun hb2 => ?_) (fun hb2 => ?_)
      · have hi : i < b.length := by have := of_decide_eq_true hb2; (try simp only [List.length_map] at this); omega
        have hrm := hf.2 _ (nthR_mem hi)
        have hro := ho _ (nthR_mem hi)
        refine zO <| zA <| zD <| zV <| zD <| yX xb <| g_u (zG rfl rfl fa24_0 rfl) <| g_u (zH rfl rfl rfl tA22 tS22 rfl rfl) <| g_u (zC rfl rfl) ?_
        refine g_u (zR rfl rfl rfl Tryz.underlying22 tS47 (by omega) (ixR hi)) ?_
        refine g_u (z_ rfl rfl tA47 tS47 rfl rfl) <| g_u (zC rfl rfl) ?_
        refine g_u (zQ (rpart_c kRes i (by decide) (by omega)) rfl rfl) ?_
        refine g_u (zQ (rres30_c (nthR b i) (partM kRes i) hro hrm) rfl rfl) <| g_uG (yR 1004 rfl rfl rfl tZ29) rfl <| g_u (zg rfl rfl rfl tS29 rfl rfl) ?_
        refine zF ⟨by kernel_rfl, ?_⟩
        refine zA <| zD <| zB <| g_u (zG rfl rfl fa29_0 rfl) <| g_u (zH rfl rfl rfl tA26 tS26 rfl rfl) <| g_u (wv rfl rfl rfl) <| zF <| zA ?_
        refine zN rfl (fun hb3 => ?_) (fun hb3 => ?_)
        · have hz : (resF (nthR b i)).1 ≠ 0 := by have e := qc.1 hb3; rw [upF_code] at e; exact e
          refine zD <| zB <| g_u (yn rfl rfl rfl tA29 tS29 rfl rfl) <| g_u (zg rfl rfl rfl tS29 rfl rfl) <| zF <| zA <| zM <| zt <| zL <| zL <| zt <| zL ?_
          exact ⟨[_], ⟨⟨_, _, _, _, _, _, _, rfl, rfl, tA29, tS29, rfl, rfl, rfl⟩, trivial⟩, ⟨(by first | exact flN (ck1 q1) | exact flU (ck2 q1 h2 hi hz) | exact flN (ck3 q1 hall q3) | exact flN (ck4 q1 hall q3 q4) | exact flE (ck5 q1 hall q3 q4)), trivial⟩⟩
        · have hz : (resF (nthR b i)).1 = 0 := by have e := qd.1 hb3; rw [upF_code] at e; exact e
          refine zO <| zY <| zA <| zB <| g_u (zC rfl rfl) <| g_u (zz rfl rfl rfl) <| g_u (zE rfl rfl) <| zF <| zA ?_
          refine ⟨i + 1, ⟨hi, by (try dsimp only); rw [h2, ressF_drop hi, if_pos hz]⟩, ⟨rfl, rfl, rfl, rfl, zZ rfl (by rw [zK (by omega) (by omega)]; rfl), trivial⟩, by (try dsimp only); omega⟩
      · have hin : i = b.length := by have := of_decide_eq_false hb2; (try simp only [List.length_map] at this); omega
        have hall : ressF 0 b = (0, []) := by rw [h2, hin, List.drop_length]; rfl
        refine z7 <| zT <| zT <| zq <| zA <| zD <| zD <| zB <| g_u (zH rfl rfl rfl tA24 tS24 rfl rfl) ?_
        refine g_u (zQ (places_c b (by omega)) rfl rfl) ?_
        refine g_u (yJ rfl rfl Tryz.underlying66) <| g_u (xu rfl rfl rfl) <| zF <| zA ?_
        refine zN rfl (fun hb4 => ?_) (fun hb4 => ?_)
        · have q3 : 100 < (plR 0 b).length := by have := of_decide_eq_true hb4; (try simp only [List.length_map] at this); omega
          refine zD <| zB <| g_u (yh rfl tU29 us29 pl29 rfl rfl rfl rfl) <| g_u (zg rfl rfl rfl tS29 rfl rfl) <| zF <| zA <| zM <| zL ?_
          exact ⟨[_], ⟨⟨_, _, _, _, _, _, _, rfl, rfl, tA29, tS29, rfl, rfl, rfl⟩, trivial⟩, ⟨(by first | exact flN (ck1 q1) | exact flU (ck2 q1 h2 hi hz) | exact flN (ck3 q1 hall q3) | exact flN (ck4 q1 hall q3 q4) | exact flE (ck5 q1 hall q3 q4)), trivial⟩⟩
        · have q3 : ¬ 100 < (plR 0 b).length := by have := of_decide_eq_false hb4; (try simp only [List.length_map] at this); omega
          refine zO <| zA <| zD <| zD <| zB <| g_u (zH rfl rfl rfl tA24 tS24 rfl rfl) <| g_u (zQ (rbatchWX_c b ho hf) rfl rfl) <| g_u (xu rfl rfl rfl) <| zF <| zA ?_
          refine zN rfl (fun hb5 => ?_) (fun hb5 => ?_)
          · have q4 : 65536 < batchW b := by have := of_decide_eq_true hb5; omega
            refine zD <| zB <| g_u (yh rfl tU29 us29 pl29 rfl rfl rfl rfl) <| g_u (zg rfl rfl rfl tS29 rfl rfl) <| zF <| zA <| zM <| zL ?_
            exact ⟨[_], ⟨⟨_, _, _, _, _, _, _, rfl, rfl, tA29, tS29, rfl, rfl, rfl⟩, trivial⟩, ⟨(by first | exact flN (ck1 q1) | exact flU (ck2 q1 h2 hi hz) | exact flN (ck3 q1 hall q3) | exact flN (ck4 q1 hall q3 q4) | exact flE (ck5 q1 hall q3 q4)), trivial⟩⟩
          · have q4 : ¬ 65536 < batchW b := by have := of_decide_eq_false hb5; omega
            refine zO <| zA <| zD <| zB <| g_u (yh rfl tU29 us29 pl29 rfl rfl rfl rfl) <| g_u (zg rfl rfl rfl tS29 rfl rfl) <| zF <| zA <| zM ?_
            exact ⟨[_], ⟨⟨_, _, _, _, _, _, _, rfl, rfl, tA29, tS29, rfl, rfl, rfl⟩, trivial⟩, ⟨(by first | exact flN (ck1 q1) | exact flU (ck2 q1 h2 hi hz) | exact flN (ck3 q1 hall q3) | exact flN (ck4 q1 hall q3 q4) | exact flE (ck5 q1 hall q3 q4)), trivial⟩⟩
end Go.Proofs
namespace Go.Proofs
open Go Go.Al
set_option maxRecDepth 10000
theorem rspan31_c (b : List GRes) (p : Nat × Nat × Nat) (hp : p ∈ plR 0 b) : zs Tryz.prog Γ0 59 [yr b, plav p] [(spAt b p).av] := by
  have h := rspan28_c b (intP p) (inB_nat hp)
  rw [atS_nat hp] at h; exact h
set_option maxHeartbeats 2000000 in
theorem rof31_c (s : GSpan) : zs Tryz.prog Γ0 58 [s.av] [(coreS s).av] := by
  refine zd Tryz.func58 rfl Tryz.ntmps58 (by kernel_rfl) rfl fun w0 I0 G0 => ?_
  refine zD <| zB <| g_uG (zp 1001 rfl rfl rfl rfl) rfl <| g_uG (yR 1002 rfl rfl rfl tZ82) rfl <| zF <| zA <| zD <| yX xb <| g_u (zG rfl rfl fa63_0 rfl) <| g_u (zH rfl rfl rfl tA54 tS54 rfl rfl) <| g_u (zG rfl rfl fa63_1 rfl) <| g_u (zH rfl rfl rfl tA56 tS56 rfl rfl) <| g_u (zG rfl rfl fa63_2 rfl) <| g_u (zH rfl rfl rfl tA56 tS56 rfl rfl) <| g_u (zG rfl rfl fa63_4 rfl) <| g_u (zH rfl rfl rfl tA9 tS9 rfl rfl) <| g_u (zG rfl rfl fa63_6 rfl) <| g_u (zH rfl rfl rfl tA57 tS57 rfl rfl) <| g_u (zG rfl rfl fa63_7 rfl) <| g_u (zH rfl rfl rfl tA57 tS57 rfl rfl) <| g_u (zQ (rbegun_c _ _) rfl rfl) <| g_u (zG rfl rfl fa63_6 rfl) <| g_u (zH rfl rfl rfl tA57 tS57 rfl rfl) <| g_u (zG rfl rfl fa63_7 rfl) <| g_u (zH rfl rfl rfl tA57 tS57 rfl rfl) <| g_u (zQ (rlasts_c _ _) rfl rfl) <| g_u (yh rfl tU82 us82 pl82 rfl rfl rfl rfl) <| g_u (zg rfl rfl rfl tS82 rfl rfl) ?_
  refine zF ⟨by kernel_rfl, ?_⟩
  refine zA <| zM ?_
  exact ⟨⟨_, _, _, _, _, _, _, rfl, rfl, tA82, tS82, rfl, rfl, (rfl : toAV _ = some _).trans (congrArg some (by rfl))⟩, trivial⟩
set_option maxHeartbeats 4000000 in
theorem rcores_c (b : List GRes) (hw : wtB b ≤ 9000000) : zs Tryz.prog Γ0 32 [yr b] [.sl 35 ((xI b).map GCore.av)] := by
  have hpl := plR_len 0 b
  have qw : wtB b = zh GRes.wt b := rfl
  refine zd Tryz.func32 rfl Tryz.ntmps32 (by kernel_rfl) rfl fun w0 I0 G0 => ?_
  refine zD <| zB <| g_uG (zp 1001 rfl rfl rfl rfl) rfl <| g_u (zE rfl rfl) <| zF <| zA <| zD <| zB <| g_u (zH rfl rfl rfl tA24 tS24 rfl rfl) ?_
  refine g_u (zQ (places_c b (by omega)) rfl rfl) ?_
  refine g_u (zE rfl rfl) <| zF <| zA <| zD <| zB <| g_u (zE rfl rfl) <| zF <| zA <| zD <| zD <| aw_newtok 3004 4 35 rfl rfl rfl rfl <| zB <| g_u (zE rfl rfl) <| zF <| zA <| zV ?_
  refine zu (fun i : Nat => [(1, .ptr 1001 0), (1001, .box 24 (.imm (yr b))), (3, .imm (.sl 3 ((plR 0 b).map plav))), (4, .slg 3004 35 (((plR 0 b).take i).map fun p => (coreS (spAt b p)).av)), (3004, .tok 35 (((plR 0 b).take i).map fun p => (coreS (spAt b p)).av)), (5, .imm (iv (i : Int)))]) (fun i => i ≤ (plR 0 b).length) (fun i => (plR 0 b).length - i) (0) ?_ ⟨rfl, rfl, rfl, rfl, rfl, rfl, trivial⟩ ?_
  · exact Nat.zero_le _
  · rintro i h1; have h1 : i ≤ (plR 0 b).length := h1
    refine zD <| zD <| zB <| g_u (zC rfl rfl) <| g_u (zC rfl rfl) <| g_u (yJ rfl rfl Tryz.underlying66) <| g_u (y_ rfl rfl rfl) <| zF <| zA ?_
    refine zN rfl (fun hb1 => ?_) (fun hb1 => ?_)
    · have hi : i < (plR 0 b).length := by have := of_decide_eq_true hb1; (try simp only [List.length_map] at this); omega
      refine zO <| zA <| zD <| zV <| yX xb <| g_u (yW rfl rfl) <| g_u (zH rfl rfl rfl tA24 tS24 rfl rfl) <| g_u (zC rfl rfl) <| g_u (zC rfl rfl) ?_
      refine g_u (zR rfl rfl rfl Tryz.underlying66 tS98 (by omega) (ixP hi)) ?_
      refine g_u (z_ rfl rfl tA98 tS98 rfl rfl) <| g_u (zQ (rspan31_c b (nthP (plR 0 b) i) (nthP_mem hi)) rfl rfl) <| g_u (zQ (rof31_c _) rfl rfl) <| g_u (zm (X0 := z82) rfl Tryz.underlying78 tS82 tZ82 rfl rfl rfl rfl rfl rfl rfl rfl) ?_
      refine g_u (yj rfl rfl rfl rfl rfl Tryz.underlying78 Tryz.underlying78 tS82 zv82 rfl (by decide) by82 (by (try dsimp only); simp only [List.length_append, List.length_cons, List.length_nil, List.length_map, List.length_take]; omega) (by (try dsimp only); simp only [List.length_append, List.length_cons, List.length_nil, List.length_map, List.length_take]; omega)) ?_
      refine g_u (yS rfl rfl) ?_
      refine zF ⟨by kernel_rfl, ?_⟩
      refine zY <| zA <| zB <| g_u (zC rfl rfl) <| g_u (zz rfl rfl rfl) <| g_u (zE rfl rfl) <| zF <| zA ?_
      have et : (((plR 0 b).take (i + 1)).map fun p => (coreS (spAt b p)).av) = (((plR 0 b).take i).map fun p => (coreS (spAt b p)).av) ++ [(coreS (spAt b (nthP (plR 0 b) i))).av] := by rw [yN (xC (d := p00) hi), List.map_append]; rfl
      refine ⟨i + 1, hi, ⟨rfl, rfl, rfl, yp rfl et.symm, yc rfl et.symm, zZ rfl (by rw [zK (by omega) (by omega)]; rfl), trivial⟩, by (try dsimp only); omega⟩
    · have hin : i = (plR 0 b).length := by have := of_decide_eq_false hb1; (try simp only [List.length_map] at this); omega
      refine z7 <| zT <| zT <| zq <| zA <| zD <| zB <| g_u (yW rfl rfl) <| g_u (yS rfl rfl) <| zF <| zA <| zM ?_
      exact ⟨⟨(rfl : toAV (Al.look _ _) = some _).trans (congrArg some (by (rw [hin, List.take_length]; show _ = AV.sl 35 (List.map GCore.av (List.map coreS (allS b))); rw [← allS_eq, List.map_map, List.map_map]; rfl))), rfl⟩, trivial⟩
end Go.Proofs
namespace Go.Proofs
open Go Go.Al
set_option maxRecDepth 10000
theorem zst_c (c : Int) (n : ByteArray) : zs Tryz.prog Γ0 29 [.agg [iv c, sv n]] [.agg [iv c, sv (if c = 2 then n else ⟨#[]⟩)]] := by
  refine zd Tryz.func29 rfl Tryz.ntmps29 (by kernel_rfl) rfl fun w0 I0 G0 => ?_
  refine zD <| zB <| g_uG (zp 1001 rfl rfl rfl rfl) rfl <| g_uG (yR 1002 rfl rfl rfl tZ61) rfl <| zF <| zA <| zD <| zD <| zB <| g_u (zG rfl rfl fa61_0 rfl) <| g_u (zH rfl rfl rfl tA3 tS3 rfl rfl) <| g_u (wv rfl rfl rfl) <| zF <| zA ?_
  refine zN rfl (fun hb1 => ?_) (fun hb1 => ?_)
  · have q : ¬ c = 2 := qc.1 hb1
    refine zB <| g_u (zG rfl rfl fa61_1 rfl) <| g_u (zg rfl rfl rfl tS9 rfl rfl) <| zF <| zA <| zD <| zB <| g_u (yn rfl rfl rfl tA61 tS61 rfl rfl) <| g_u (zg rfl rfl rfl tS61 rfl rfl) <| zF <| zA <| zM ?_
    exact ⟨⟨_, _, _, _, _, _, _, rfl, rfl, tA61, tS61, rfl, rfl, (rfl : toAV _ = some _).trans (congrArg some (by (first | (rw [if_neg q]; done) | (rw [if_neg q]; rfl))))⟩, trivial⟩
  · have q : c = 2 := qd.1 hb1
    refine zO <| zA <| zD <| zB <| g_u (zH rfl rfl rfl tA61 tS61 rfl rfl) <| g_u (zg rfl rfl rfl tS61 rfl rfl) <| zF <| zA <| zM ?_
    exact ⟨⟨_, _, _, _, _, _, _, rfl, rfl, tA61, tS61, rfl, rfl, (rfl : toAV _ = some _).trans (congrArg some (by (rw [if_pos q])))⟩, trivial⟩
theorem wholeZ_c (n : Int) : zs Tryz.prog Γ0 53 [uv n] [uv (wholeN n)] := by
  refine zd Tryz.func53 rfl Tryz.ntmps53 (by kernel_rfl) rfl fun w0 I0 G0 => ?_
  refine zD <| zB <| g_u (zE rfl rfl) <| zF <| zA <| zD <| zB <| g_u (zC rfl rfl) <| g_u (zQ (micro_c _) rfl rfl) <| g_u (s_call2 (nano_c _) rfl rfl) <| g_u (wa rfl rfl) <| g_u (zl rfl rfl rfl rfl) <| g_u (zl rfl rfl rfl rfl) <| g_u (zE rfl rfl) <| g_u (zE rfl rfl) <| zF <| zA <| zD <| zB <| g_u (zC rfl rfl) <| g_u (zE rfl rfl) <| zF <| zA <| zM ?_
  exact ⟨⟨(rfl : toAV (Al.look _ _) = some _).trans (congrArg some (by rfl)), rfl⟩, trivial⟩
set_option maxHeartbeats 8000000 in
theorem nzS_c (s : GSpan) (ho : s.ok) (hw : s.wt ≤ 9000000) : zs Tryz.prog Γ0 28 [s.av] [(nzS s).av] := by
  have qw : s.wt = 1 + s.state.size + s.name.size + s.note.size + wtAs s.attrs + zh GE.wt s.events + zh GL.wt s.links := rfl
  have ql := yo GE.wt (fun e => by unfold GE.wt; omega) s.events
  have hl := y5 s.attrs
  have hd : ∀ a ∈ xO kZ s.attrs, a.ok := fun a h => ho.2.2.2.1 a (vD h).1
  have hwd := dropA_wt kZ s.attrs
  refine zd Tryz.func28 rfl Tryz.ntmps28 (by kernel_rfl) rfl fun w0 I0 G0 => ?_
  refine zD <| zB <| g_uG (zp 1001 rfl rfl rfl rfl) rfl <| g_uG (yR 1002 rfl rfl rfl tZ63) rfl <| zF <| zA <| zD <| zB <| g_u (zG rfl rfl fa63_6 rfl) <| g_u (zH rfl rfl rfl tA57 tS57 rfl rfl) <| g_u (zG rfl rfl fa63_7 rfl) <| g_u (zH rfl rfl rfl tA57 tS57 rfl rfl) <| g_u (yh rfl tU105 us105 pl105 rfl rfl rfl rfl) <| g_u (zQ (whole_c ⟨_, _⟩) rfl rfl) <| g_uG (yR 1003 rfl rfl rfl tZ105) rfl <| g_u (zg rfl rfl rfl tS105 rfl rfl) <| zF <| zA <| zD <| yX xb <| g_u (zG rfl rfl fa63_0 rfl) <| g_u (zH rfl rfl rfl tA54 tS54 rfl rfl) <| g_u (zG rfl rfl fa63_1 rfl) <| g_u (zH rfl rfl rfl tA56 tS56 rfl rfl) <| g_u (zG rfl rfl fa63_2 rfl) <| g_u (zH rfl rfl rfl tA56 tS56 rfl rfl) <| g_u (zG rfl rfl fa63_4 rfl) <| g_u (zH rfl rfl rfl tA9 tS9 rfl rfl) <| g_u (zG rfl rfl fa63_5 rfl) <| g_u (zH rfl rfl rfl tA3 tS3 rfl rfl) <| g_u (zG rfl rfl fa105_0 rfl) <| g_u (zH rfl rfl rfl tA57 tS57 rfl rfl) <| g_u (zG rfl rfl fa105_1 rfl) <| g_u (zH rfl rfl rfl tA57 tS57 rfl rfl) <| g_u (zG rfl rfl fa63_11 rfl) <| g_u (zH rfl rfl rfl tA61 tS61 rfl rfl) <| g_u (zQ (zst_c _ _) rfl rfl) <| g_u (yh rfl tZ63 us63 pl63 rfl rfl rfl rfl) <| g_uG (yR 1004 rfl rfl rfl tZ63) rfl ?_
  refine g_u (zg rfl rfl rfl tS63 (by first | exact beqW (GSpan.width _) | rfl) (by first | exact setS_w (z63_w.trans (GSpan.width _).symm) rfl | rfl)) ?_
  refine zF ⟨by kernel_rfl, ?_⟩
  refine zA <| zD <| zD <| zB <| g_u (zG rfl rfl fa63_5 rfl) <| g_u (zH rfl rfl rfl tA3 tS3 rfl rfl) <| g_u (yy rfl rfl rfl) <| zF <| zA ?_
  refine zN rfl (fun hb1 => ?_) (fun hb1 => ?_)
  · have hk : (if s.kind = 1 then 0 else s.kind) = 0 := if_pos (beq_iff_eq.1 hb1)
    refine zB <| g_u (zG rfl rfl fa63_5 rfl) <| g_u (zg rfl rfl rfl tS3 rfl rfl) <| zF <| zA <| zD <| zB <| g_u (zG rfl rfl fa63_8 rfl) <| g_u (zH rfl rfl rfl tA44 tS44 rfl rfl) <| g_u (zm (X0 := z5) rfl Tryz.underlying42 tS5 tZ5 rfl rfl rfl rfl rfl rfl rfl rfl) ?_
    refine g_u (zQ (plainAs_c s.attrs nZ ho.2.2.2.1 (by omega) (by decide)) rfl rfl) ?_
    refine g_u (zE rfl rfl) <| zF <| zA <| zD <| zB <| g_u (zC rfl rfl) <| g_u (zm (X0 := z9) rfl Tryz.underlying27 tS9 tZ9 rfl rfl rfl rfl rfl rfl rfl rfl) ?_
    refine g_u (zQ (drop_c (s.attrs.map (yY nZ)) kZ (by rw [List.length_map]; omega) (by decide)) rfl rfl) ?_
    refine g_u (zG rfl rfl fa63_8 rfl) <| g_u (zg rfl rfl rfl tS44 rfl rfl) <| zF <| zA <| zD <| zD <| aw_newtokB 3009 1004 3 38 rfl rfl rfl rfl rfl rfl rfl <| aw_newtokB 3010 1004 26 39 rfl rfl rfl rfl rfl rfl rfl <| zB <| g_u (zG rfl rfl fa63_9 rfl) <| g_u (zH rfl rfl rfl tA58 tS58 rfl rfl) <| g_u (yJ rfl rfl Tryz.underlying58) <| g_u (zC rfl rfl) <| zF <| zA <| zV ?_
    refine zu (fun i : Nat => [(1, .ptr 1001 0), (1001, .box 63 (.imm s.av)), (2, .ptr 1002 0), (1002, .box 63 (.imm z63)), (4, .ptr 1004 0), (1004, .box 63 (.agg [.imm (.arr 16 s.trace), .imm (.arr 8 s.id), .imm (.arr 8 s.parent), .imm (sv ⟨#[]⟩), .imm (sv s.name), .imm (iv (if s.kind = 1 then 0 else s.kind)), .imm (uv (wP ⟨s.start, s.fin⟩).lo), .imm (uv (wP ⟨s.start, s.fin⟩).hi), .imm (.sl 7 ((keptZ s.attrs).map avA)), .slg 3009 3 ((s.events.take i).map fun e => (nzE e).av), .slg 3010 26 [], .imm (.agg [iv s.code, sv (if s.code = 2 then s.note else ⟨#[]⟩)])])), (3009, .tok 3 ((s.events.take i).map fun e => (nzE e).av)), (3010, .tok 26 []), (45, .imm (.sl 3 (s.events.map GE.av))), (46, .imm (iv (s.events.length : Int))), (47, .imm (iv (i : Int)))]) (fun i => i ≤ s.events.length) (fun i => s.events.length - i) (0) ?_ ⟨rfl, rfl, rfl, rfl, rfl, (by rw [hk]; first | rfl | (unfold keptZ; rw [drop_plain]; rfl)), rfl, rfl, rfl, zZ rfl (by rw [List.length_map]), rfl, trivial⟩ ?_
    · exact Nat.zero_le _
    · rintro i h1; have h1 : i ≤ s.events.length := h1
      refine zD <| zB <| g_u (y_ rfl rfl rfl) <| zF <| zA <| zD ?_
      refine zN rfl (fun hb2 => ?_) (fun hb2 => ?_)
      · have hi : i < s.events.length := by have := of_decide_eq_true hb2; (try simp only [List.length_map] at this); omega
        have hex := yg GE.wt (nthE_mem hi)
        have heq : (nthE s.events i).wt = 1 + (nthE s.events i).name.size + wtAs (nthE s.events i).attrs := rfl
        have heo := ho.2.2.2.2.1 _ (nthE_mem hi)
        refine zO <| zA <| zD <| zV <| zD <| zB ?_
        refine g_u (zR rfl rfl rfl Tryz.underlying58 tS92 (by omega) (ixE hi)) ?_
        refine g_u (z_ rfl rfl tA92 tS92 rfl rfl) <| g_uG (yR 1007 rfl rfl rfl tZ92) rfl <| g_u (zg rfl rfl rfl tS92 rfl rfl) <| zF <| zA <| yX xb <| g_u (zG rfl rfl fa63_9 rfl) <| g_u (wu rfl rfl rfl tA58 tS58 rfl rfl) <| g_u (zG rfl rfl fa92_0 rfl) <| g_u (zH rfl rfl rfl tA57 tS57 rfl rfl) <| g_u (zQ (wholeZ_c _) rfl rfl) <| g_u (zG rfl rfl fa92_1 rfl) <| g_u (zH rfl rfl rfl tA9 tS9 rfl rfl) <| g_u (yh rfl tU92 us92 pl92 rfl rfl rfl rfl) <| g_u (zm (X0 := z92) rfl Tryz.underlying58 tS92 tZ92 rfl rfl rfl rfl rfl rfl rfl rfl) ?_
        refine g_u (yj rfl rfl rfl rfl rfl Tryz.underlying58 Tryz.underlying58 tS92 zv92 rfl (by decide) by92 (by (try dsimp only); simp only [List.length_append, List.length_cons, List.length_nil, List.length_map, List.length_take, List.length_drop]; omega) (by (try dsimp only); simp only [List.length_append, List.length_cons, List.length_nil, List.length_map, List.length_take, List.length_drop]; omega)) ?_
        refine g_u (zG rfl rfl fa63_9 rfl) <| g_u (s_store rfl rfl rfl rfl tS58 rfl rfl) ?_
        refine zF ⟨by kernel_rfl, ?_⟩
        refine zY <| zA <| zB <| g_u (zz rfl rfl rfl) <| g_u (zC rfl rfl) <| zF <| zA ?_
        have et : ((s.events.take (i + 1)).map fun e => (nzE e).av) = ((s.events.take i).map fun e => (nzE e).av) ++ [(nzE (nthE s.events i)).av] := by rw [yN (xC (d := ge0) hi), List.map_append]; rfl
        refine ⟨i + 1, hi, ⟨rfl, rfl, rfl, rfl, rfl, (by rw [et]; rfl), yc rfl et.symm, rfl, rfl, rfl, zZ rfl (by rw [zK (by omega) (by omega)]; rfl), trivial⟩, by (try dsimp only); omega⟩
      · have hin : i = s.events.length := by have := of_decide_eq_false hb2; (try simp only [List.length_map] at this); omega
        refine z7 <| zT <| zT <| zq <| zA <| zD <| zB <| g_u (yn rfl rfl rfl tA63 tS63 rfl rfl) ?_
        refine g_u (zg rfl rfl rfl tS63 (by first | exact beqW (GSpan.width _) | rfl) (by first | exact setS_w (z63_w.trans (GSpan.width _).symm) rfl | rfl)) ?_
        refine zF <| zA <| zM ?_
        exact ⟨⟨_, _, _, _, _, _, _, rfl, rfl, tA63, tS63, rfl, rfl, (rfl : toAV _ = some _).trans (congrArg some (by (rw [hin, List.take_length]; show _ = GSpan.av (nzS s); simp only [GSpan.av, nzS, List.map_map]; rfl)))⟩, trivial⟩
  · have hk : (if s.kind = 1 then 0 else s.kind) = s.kind := if_neg (beq_eq_false_iff_ne.1 hb1)
    refine zO <| zA <| zD <| zB <| g_u (zG rfl rfl fa63_8 rfl) <| g_u (zH rfl rfl rfl tA44 tS44 rfl rfl) <| g_u (zm (X0 := z5) rfl Tryz.underlying42 tS5 tZ5 rfl rfl rfl rfl rfl rfl rfl rfl) ?_
    refine g_u (zQ (plainAs_c s.attrs nZ ho.2.2.2.1 (by omega) (by decide)) rfl rfl) ?_
    refine g_u (zE rfl rfl) <| zF <| zA <| zD <| zB <| g_u (zC rfl rfl) <| g_u (zm (X0 := z9) rfl Tryz.underlying27 tS9 tZ9 rfl rfl rfl rfl rfl rfl rfl rfl) ?_
    refine g_u (zQ (drop_c (s.attrs.map (yY nZ)) kZ (by rw [List.length_map]; omega) (by decide)) rfl rfl) ?_
    refine g_u (zG rfl rfl fa63_8 rfl) <| g_u (zg rfl rfl rfl tS44 rfl rfl) <| zF <| zA <| zD <| zD <| aw_newtokB 3009 1004 3 38 rfl rfl rfl rfl rfl rfl rfl <| aw_newtokB 3010 1004 26 39 rfl rfl rfl rfl rfl rfl rfl <| zB <| g_u (zG rfl rfl fa63_9 rfl) <| g_u (zH rfl rfl rfl tA58 tS58 rfl rfl) <| g_u (yJ rfl rfl Tryz.underlying58) <| g_u (zC rfl rfl) <| zF <| zA <| zV ?_
    refine zu (fun i : Nat => [(1, .ptr 1001 0), (1001, .box 63 (.imm s.av)), (2, .ptr 1002 0), (1002, .box 63 (.imm z63)), (4, .ptr 1004 0), (1004, .box 63 (.agg [.imm (.arr 16 s.trace), .imm (.arr 8 s.id), .imm (.arr 8 s.parent), .imm (sv ⟨#[]⟩), .imm (sv s.name), .imm (iv (if s.kind = 1 then 0 else s.kind)), .imm (uv (wP ⟨s.start, s.fin⟩).lo), .imm (uv (wP ⟨s.start, s.fin⟩).hi), .imm (.sl 7 ((keptZ s.attrs).map avA)), .slg 3009 3 ((s.events.take i).map fun e => (nzE e).av), .slg 3010 26 [], .imm (.agg [iv s.code, sv (if s.code = 2 then s.note else ⟨#[]⟩)])])), (3009, .tok 3 ((s.events.take i).map fun e => (nzE e).av)), (3010, .tok 26 []), (45, .imm (.sl 3 (s.events.map GE.av))), (46, .imm (iv (s.events.length : Int))), (47, .imm (iv (i : Int)))]) (fun i => i ≤ s.events.length) (fun i => s.events.length - i) (0) ?_ ⟨rfl, rfl, rfl, rfl, rfl, (by rw [hk]; first | rfl | (unfold keptZ; rw [drop_plain]; rfl)), rfl, rfl, rfl, zZ rfl (by rw [List.length_map]), rfl, trivial⟩ ?_
    · exact Nat.zero_le _
    · rintro i h1; have h1 : i ≤ s.events.length := h1
      refine zD <| zB <| g_u (y_ rfl rfl rfl) <| zF <| zA <| zD ?_
      refine zN rfl (fun hb3 => ?_) (fun hb3 => ?_)
      · have hi : i < s.events.length := by have := of_decide_eq_true hb3; (try simp only [List.length_map] at this); omega
        have hex := yg GE.wt (nthE_mem hi)
        have heq : (nthE s.events i).wt = 1 + (nthE s.events i).name.size + wtAs (nthE s.events i).attrs := rfl
        have heo := ho.2.2.2.2.1 _ (nthE_mem hi)
        refine zO <| zA <| zD <| zV <| zD <| zB ?_
        refine g_u (zR rfl rfl rfl Tryz.underlying58 tS92 (by omega) (ixE hi)) ?_
        refine g_u (z_ rfl rfl tA92 tS92 rfl rfl) <| g_uG (yR 1007 rfl rfl rfl tZ92) rfl <| g_u (zg rfl rfl rfl tS92 rfl rfl) <| zF <| zA <| yX xb <| g_u (zG rfl rfl fa63_9 rfl) <| g_u (wu rfl rfl rfl tA58 tS58 rfl rfl) <| g_u (zG rfl rfl fa92_0 rfl) <| g_u (zH rfl rfl rfl tA57 tS57 rfl rfl) <| g_u (zQ (wholeZ_c _) rfl rfl) <| g_u (zG rfl rfl fa92_1 rfl) <| g_u (zH rfl rfl rfl tA9 tS9 rfl rfl) <| g_u (yh rfl tU92 us92 pl92 rfl rfl rfl rfl) <| g_u (zm (X0 := z92) rfl Tryz.underlying58 tS92 tZ92 rfl rfl rfl rfl rfl rfl rfl rfl) ?_
        refine g_u (yj rfl rfl rfl rfl rfl Tryz.underlying58 Tryz.underlying58 tS92 zv92 rfl (by decide) by92 (by (try dsimp only); simp only [List.length_append, List.length_cons, List.length_nil, List.length_map, List.length_take, List.length_drop]; omega) (by (try dsimp only); simp only [List.length_append, List.length_cons, List.length_nil, List.length_map, List.length_take, List.length_drop]; omega)) ?_
        refine g_u (zG rfl rfl fa63_9 rfl) <| g_u (s_store rfl rfl rfl rfl tS58 rfl rfl) ?_
        refine zF ⟨by kernel_rfl, ?_⟩
        refine zY <| zA <| zB <| g_u (zz rfl rfl rfl) <| g_u (zC rfl rfl) <| zF <| zA ?_
        have et : ((s.events.take (i + 1)).map fun e => (nzE e).av) = ((s.events.take i).map fun e => (nzE e).av) ++ [(nzE (nthE s.events i)).av] := by rw [yN (xC (d := ge0) hi), List.map_append]; rfl
        refine ⟨i + 1, hi, ⟨rfl, rfl, rfl, rfl, rfl, (by rw [et]; rfl), yc rfl et.symm, rfl, rfl, rfl, zZ rfl (by rw [zK (by omega) (by omega)]; rfl), trivial⟩, by (try dsimp only); omega⟩
      · have hin : i = s.events.length := by have := of_decide_eq_false hb3; (try simp only [List.length_map] at this); omega
        refine z7 <| zT <| zT <| zq <| zA <| zD <| zB <| g_u (yn rfl rfl rfl tA63 tS63 rfl rfl) ?_
        refine g_u (zg rfl rfl rfl tS63 (by first | exact beqW (GSpan.width _) | rfl) (by first | exact setS_w (z63_w.trans (GSpan.width _).symm) rfl | rfl)) ?_
        refine zF <| zA <| zM ?_
        exact ⟨⟨_, _, _, _, _, _, _, rfl, rfl, tA63, tS63, rfl, rfl, (rfl : toAV _ = some _).trans (congrArg some (by (rw [hin, List.take_length]; show _ = GSpan.av (nzS s); simp only [GSpan.av, nzS, List.map_map]; rfl)))⟩, trivial⟩
end Go.Proofs
namespace Go.Proofs
open Go Go.Al
theorem zip_len (ks : List ByteArray) (ss : List GSpan) : (ks.zip ss).length = min ks.length ss.length := List.length_zip
theorem zip_nth {ks : List ByteArray} {ss : List GSpan} {i : Nat} (h : i < (ks.zip ss).length) : nthQ (ks.zip ss) i = (nth ks i ⟨#[]⟩, nth ss i gs0) := by
  have h1 := xC (d := rq0) h
  have hl := zip_len ks ss
  have h2 := xC (d := (⟨#[]⟩ : ByteArray)) (show i < ks.length by omega)
  have h3 := xC (d := gs0) (show i < ss.length by omega)
  rw [List.getElem?_zip_eq_some] at h1
  rw [h2, h3] at h1
  exact Prod.ext (Option.some.inj h1.1).symm (Option.some.inj h1.2).symm
end Go.Proofs
namespace Go.Proofs
open Go Go.Al
set_option maxRecDepth 10000
end Go.Proofs
namespace Go.Proofs
open Go Go.Al
theorem zip_fs {α β : Type} : ∀ l : List (α × β), (l.map (·.1)).zip (l.map (·.2)) = l
  | [] => rfl
  | x :: l => by rw [List.map_cons, List.map_cons, List.zip_cons_cons, zip_fs l]
def xU (r : GRes) (l : List GSpan) : List (ByteArray × GSpan) := l.map fun s => (zx r, nzS s)
theorem rowsZ_take {b : List GRes} {i : Nat} (h : i < b.length) : ym (b.take (i + 1)) = ym (b.take i) ++ xU (nthR b i) (z0 (nthR b i).scopes) := by
  rw [yN (xC (d := gr0) h)]
  unfold ym
  rw [List.flatMap_append]
  congr 1
  show [nthR b i].flatMap _ = _
  rw [List.flatMap_cons]; simp [xU]
theorem rowsF_app (r : GRes) (a b : List GSpan) : xU r (a ++ b) = xU r a ++ xU r b := List.map_append ..
theorem rowsZ_len (b : List GRes) : (ym b).length = (allS b).length := by
  have := congrArg List.length (rowsZ_spans b)
  rwa [List.length_map, List.length_map] at this
theorem rowsZ_part {b : List GRes} {i k m : Nat} (hi : i < b.length) (hk : k < (nthR b i).scopes.length) (hm : m < (nthC (nthR b i).scopes k).spans.length) : (ym (b.take i) ++ xU (nthR b i) (z0 ((nthR b i).scopes.take k)) ++ xU (nthR b i) ((nthC (nthR b i).scopes k).spans.take m)).length + 1 ≤ (ym b).length := by
  have e0 : ym b = ym (b.take (i + 1)) ++ ym (b.drop (i + 1)) := by
    conv => lhs; rw [← List.take_append_drop (i + 1) b]
    unfold ym; rw [List.flatMap_append]
  have e1 : z0 (nthR b i).scopes = z0 ((nthR b i).scopes.take (k + 1)) ++ z0 ((nthR b i).scopes.drop (k + 1)) := by
    conv => lhs; rw [← List.take_append_drop (k + 1) (nthR b i).scopes]
    rw [spansOf_append]
  rw [e0, rowsZ_take hi, e1, spansOf_take hk]
  simp only [List.length_append, xU, List.length_map, List.length_take]
  omega
end Go.Proofs
namespace Go.Proofs
open Go Go.Al
set_option maxRecDepth 10000
theorem rowsZ_plR (b : List GRes) : (ym b).length ≤ zh GRes.wt b := by
  rw [rowsZ_len, ← plR_all 0 b]; exact plR_len 0 b
end Go.Proofs
