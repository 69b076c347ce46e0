/- Texts that the proofs of this claim share, part 6: the abstract logic, plain Lean on values and batches, and walks. No condition but those typed in each lemma. -/
import Derived.Maps.RangeRun
import Derived.Sort.OwnSorted
import Derived.RangeFuncLeaves
import Derived.RangeFuncRecord
import Derived.RangeFuncSeq
import Derived.Test.YtiolofgnkkhjoaaGreatDoorR5
set_option linter.unusedSimpArgs false
set_option linter.unusedVariables false
set_option maxHeartbeats 400000
namespace Go.Proofs
open Go Go.Al
set_option maxRecDepth 10000
theorem rgCheck_c (r : Rg) : zn Tryz.prog Γ0 140 [r.av] [iv (xr r)] := by
  refine z_ Tryz.func140 rfl Tryz.ntmps140 (by kernel_rfl) rfl fun w0 I0 G0 => ?_
  refine zD <| zB <| g_uG (zk 1001 rfl rfl rfl rfl) rfl <| g_u (zE rfl rfl) <| zH <| zA <| zD <| zD <| zB <| g_u (zF rfl rfl fa105_1 rfl) <| g_u (zG rfl rfl rfl tA57 tS57 rfl rfl) <| g_u (wD rfl rfl rfl) <| g_u (zC rfl rfl) <| yB (t := 6) rfl ?_
  rintro (hb1 | hb1)
  · rw [hb1]
    refine zI rfl rfl rfl <| zI rfl rfl rfl <| zI rfl rfl rfl <| zI rfl rfl rfl <| zI rfl rfl rfl <| g_u (zZ rfl rfl rfl) <| zH <| zA <| zs rfl <| zD <| zB <| g_u (zE rfl rfl) <| zH <| zA <| zL <| zK ?_
    exact ⟨⟨(rfl : toAV (Al.look _ _) = some _).trans (congrArg some (by (simp only [decide_eq_true_eq, decide_eq_false_iff_not, bne_iff_ne, ne_eq, beq_iff_eq, qd, beq_eq_false_iff_ne] at *; simp only [iv, xr]; first | rw [if_pos (by omega)] | rw [if_neg (by omega)]))), rfl⟩, trivial⟩
  · rw [hb1]
    refine zY rfl rfl (zF rfl rfl fa105_0 rfl) <| zY rfl rfl (zG rfl rfl rfl tA57 tS57 rfl rfl) <| zY rfl rfl (zF rfl rfl fa105_1 rfl) <| zY rfl rfl (zG rfl rfl rfl tA57 tS57 rfl rfl) <| zY rfl rfl (wD rfl rfl rfl) <| g_u (zh rfl rfl rfl) <| zH <| zA ?_
    refine zN rfl (fun hb2 => ?_) (fun hb2 => ?_)
    · refine zD ?_
      refine zB <| g_u (zE rfl rfl) <| zH <| zA <| zL <| zK ?_
      exact ⟨⟨(rfl : toAV (Al.look _ _) = some _).trans (congrArg some (by (simp only [decide_eq_true_eq, decide_eq_false_iff_not, bne_iff_ne, ne_eq, beq_iff_eq, qd, beq_eq_false_iff_ne] at *; simp only [iv, xr]; first | rw [if_pos (by omega)] | rw [if_neg (by omega)]))), rfl⟩, trivial⟩
    · refine zQ ?_
      refine zA <| zD <| zB <| g_u (zE rfl rfl) <| zH <| zA <| zL ?_
      exact ⟨⟨(rfl : toAV (Al.look _ _) = some _).trans (congrArg some (by (simp only [decide_eq_true_eq, decide_eq_false_iff_not, bne_iff_ne, ne_eq, beq_iff_eq, qd, beq_eq_false_iff_ne] at *; simp only [iv, xr]; first | rw [if_pos (by omega)] | rw [if_neg (by omega)]))), rfl⟩, trivial⟩
theorem begun_c (r : Rg) : zn Tryz.prog Γ0 115 [r.av] [uv (begunM r)] := by
  refine z_ Tryz.func115 rfl Tryz.ntmps115 (by kernel_rfl) rfl fun w0 I0 G0 => ?_
  refine zD <| zB <| g_uG (zk 1001 rfl rfl rfl rfl) rfl <| g_u (zE rfl rfl) <| zH <| zA <| zD <| zB <| g_u (zF rfl rfl fa105_0 rfl) <| g_u (zG rfl rfl rfl tA57 tS57 rfl rfl) ?_
  refine g_u (rN rfl rfl rfl (by first | decide | omega | (((try simp only [decide_eq_true_eq, decide_eq_false_iff_not, bne_iff_ne, ne_eq, beq_iff_eq, qd, beq_eq_false_iff_ne, Bool.not_eq_true', Bool.not_eq_false', gt_iff_lt, ge_iff_le] at *); (repeat simp (disch := omega) only [zO, zi] at *)); omega))) ?_
  refine g_u (zE rfl rfl) <| zH <| zA <| zL ?_
  exact ⟨⟨(rfl : toAV (Al.look _ _) = some _).trans (congrArg some (by rfl)), rfl⟩, trivial⟩
theorem lasts_c (r : Rg) : zn Tryz.prog Γ0 116 [r.av] [uv (lastsM r)] := by
  refine z_ Tryz.func116 rfl Tryz.ntmps116 (by kernel_rfl) rfl fun w0 I0 G0 => ?_
  refine zD <| zB <| g_uG (zk 1001 rfl rfl rfl rfl) rfl <| g_u (zE rfl rfl) <| zH <| zA <| zD <| zB <| g_u (zF rfl rfl fa105_1 rfl) <| g_u (zG rfl rfl rfl tA57 tS57 rfl rfl) <| g_u (zF rfl rfl fa105_0 rfl) <| g_u (zG rfl rfl rfl tA57 tS57 rfl rfl) <| g_u (vW rfl rfl rfl) ?_
  refine g_u (rN rfl rfl rfl (by first | decide | omega | (((try simp only [decide_eq_true_eq, decide_eq_false_iff_not, bne_iff_ne, ne_eq, beq_iff_eq, qd, beq_eq_false_iff_ne, Bool.not_eq_true', Bool.not_eq_false', gt_iff_lt, ge_iff_le] at *); (repeat simp (disch := omega) only [zO, zi] at *)); omega))) ?_
  refine g_u (zE rfl rfl) <| zH <| zA <| zL ?_
  exact ⟨⟨(rfl : toAV (Al.look _ _) = some _).trans (congrArg some (by rfl)), rfl⟩, trivial⟩
theorem micros_c (r : Rg) (f : Nat) (m : Int) (hf : zn Tryz.prog Γ0 f [r.av] [uv m]) : zn Tryz.prog Γ0 114 [r.av, .fn (.func f) [] []] [iv (rd m r)] := by
  refine z_ Tryz.func114 rfl Tryz.ntmps114 (by kernel_rfl) rfl fun w0 I0 G0 => ?_
  refine zD <| zB <| g_uG (zk 1002 rfl rfl rfl rfl) rfl <| g_u (zE rfl rfl) <| zH <| zA <| zD <| zD <| zB <| g_u (zG rfl rfl rfl tA105 tX rfl rfl) <| g_u (zP (rgCheck_c ⟨_, _⟩) rfl rfl) <| g_u (xl rfl rfl rfl) <| zH <| zA ?_
  refine zN rfl (fun hb1 => ?_) (fun hb1 => ?_)
  · refine zD ?_
    refine zB <| g_u (zE rfl rfl) <| zH <| zA <| zL <| zK ?_
    exact ⟨⟨(rfl : toAV (Al.look _ _) = some _).trans (congrArg some (by (simp only [decide_eq_true_eq, decide_eq_false_iff_not, bne_iff_ne, ne_eq, beq_iff_eq, qd, beq_eq_false_iff_ne] at *; simp only [iv, rd]; first | rw [if_pos (by omega)] | rw [if_neg (by omega)]))), rfl⟩, trivial⟩
  · refine zQ ?_
    refine zA <| zD <| zB <| g_u (zC rfl rfl) <| g_u (zG rfl rfl rfl tA105 tX rfl rfl) <| g_u (wM (hf) rfl rfl rfl) <| g_u (xL rfl rfl Tryz.underlying57 Tryz.underlying3) <| g_u (zE rfl rfl) <| zH <| zA <| zL ?_
    exact ⟨⟨(rfl : toAV (Al.look _ _) = some _).trans (congrArg some (by (simp only [decide_eq_true_eq, decide_eq_false_iff_not, bne_iff_ne, ne_eq, beq_iff_eq, qd, beq_eq_false_iff_ne] at *; simp only [iv, rd]; first | rw [if_pos (by omega)] | rw [if_neg (by omega)]))), rfl⟩, trivial⟩
theorem Begun_c (r : Rg) : zn Tryz.prog Γ0 80 [r.av] [iv (BegunM r)] := by
  refine z_ Tryz.func80 rfl Tryz.ntmps80 (by kernel_rfl) rfl fun w0 I0 G0 => ?_
  refine zD <| zB <| g_uG (zk 1001 rfl rfl rfl rfl) rfl <| g_u (zE rfl rfl) <| zH <| zA <| zD <| zB <| g_u (zG rfl rfl rfl tA105 tX rfl rfl) <| g_u (zP (micros_c _ _ _ (begun_c _)) rfl rfl) <| g_u (zE rfl rfl) <| zH <| zA <| zL ?_
  exact ⟨⟨(rfl : toAV (Al.look _ _) = some _).trans (congrArg some (by rfl)), rfl⟩, trivial⟩
theorem Lasts_c (r : Rg) : zn Tryz.prog Γ0 81 [r.av] [iv (LastsM r)] := by
  refine z_ Tryz.func81 rfl Tryz.ntmps81 (by kernel_rfl) rfl fun w0 I0 G0 => ?_
  refine zD <| zB <| g_uG (zk 1001 rfl rfl rfl rfl) rfl <| g_u (zE rfl rfl) <| zH <| zA <| zD <| zB <| g_u (zG rfl rfl rfl tA105 tX rfl rfl) <| g_u (zP (micros_c _ _ _ (lasts_c _)) rfl rfl) <| g_u (zE rfl rfl) <| zH <| zA <| zL ?_
  exact ⟨⟨(rfl : toAV (Al.look _ _) = some _).trans (congrArg some (by rfl)), rfl⟩, trivial⟩
theorem nano_c (us : Int) : zn Tryz.prog Γ0 85 [iv us] [uv (sD us), iv (rZ us)] := by
  refine z_ Tryz.func85 rfl Tryz.ntmps85 (by kernel_rfl) rfl fun w0 I0 G0 => ?_
  refine zD <| zB <| g_u (zE rfl rfl) <| g_u (zE rfl rfl) <| zH <| zA <| zD <| zD <| zB <| g_u (zC rfl rfl) <| g_u (ye rfl rfl rfl) <| g_u (zC rfl rfl) <| yB (t := 6) rfl ?_
  rintro (hb1 | hb1)
  · rw [hb1]
    refine zI rfl rfl rfl <| zI rfl rfl rfl <| g_u (zZ rfl rfl rfl) <| zH <| zA <| zs rfl <| zD <| zB <| g_u (zE rfl rfl) <| g_u (zE rfl rfl) <| zH <| zA <| zL <| zK ?_
    exact ⟨⟨(rfl : toAV (Al.look _ _) = some _).trans (congrArg some (by (simp only [decide_eq_true_eq, decide_eq_false_iff_not, bne_iff_ne, ne_eq, beq_iff_eq, qd, beq_eq_false_iff_ne] at *; simp only [iv, uv, sD, rZ, uX]; first | rw [if_pos (by omega)] | rw [if_neg (by omega)]))), rfl⟩, ⟨(rfl : toAV (Al.look _ _) = some _).trans (congrArg some (by (simp only [decide_eq_true_eq, decide_eq_false_iff_not, bne_iff_ne, ne_eq, beq_iff_eq, qd, beq_eq_false_iff_ne] at *; simp only [iv, uv, sD, rZ, uX]; first | rw [if_pos (by omega)] | rw [if_neg (by omega)]))), rfl⟩, trivial⟩
  · rw [hb1]
    refine zY rfl rfl (zC rfl rfl) <| zY rfl rfl (wD rfl rfl rfl) <| g_u (zh rfl rfl rfl) <| zH <| zA ?_
    refine zN rfl (fun hb2 => ?_) (fun hb2 => ?_)
    · refine zD ?_
      refine zB <| g_u (zE rfl rfl) <| g_u (zE rfl rfl) <| zH <| zA <| zL <| zK ?_
      exact ⟨⟨(rfl : toAV (Al.look _ _) = some _).trans (congrArg some (by (simp only [decide_eq_true_eq, decide_eq_false_iff_not, bne_iff_ne, ne_eq, beq_iff_eq, qd, beq_eq_false_iff_ne] at *; simp only [iv, uv, sD, rZ, uX]; first | rw [if_pos (by omega)] | rw [if_neg (by omega)]))), rfl⟩, ⟨(rfl : toAV (Al.look _ _) = some _).trans (congrArg some (by (simp only [decide_eq_true_eq, decide_eq_false_iff_not, bne_iff_ne, ne_eq, beq_iff_eq, qd, beq_eq_false_iff_ne] at *; simp only [iv, uv, sD, rZ, uX]; first | rw [if_pos (by omega)] | rw [if_neg (by omega)]))), rfl⟩, trivial⟩
    · refine zQ ?_
      refine zA <| zD <| zB <| g_u (zC rfl rfl) <| g_u (xL rfl rfl Tryz.underlying3 Tryz.underlying57) <| g_u (s_mul rfl rfl rfl) <| g_u (zE rfl rfl) <| g_u (zE rfl rfl) <| zH <| zA <| zL ?_
      exact ⟨⟨(rfl : toAV (Al.look _ _) = some _).trans (congrArg some (by (simp only [decide_eq_true_eq, decide_eq_false_iff_not, bne_iff_ne, ne_eq, beq_iff_eq, qd, beq_eq_false_iff_ne] at *; simp only [iv, uv, sD, rZ, uX]; first | rw [if_pos (by omega)] | rw [if_neg (by omega)]))), rfl⟩, ⟨(rfl : toAV (Al.look _ _) = some _).trans (congrArg some (by (simp only [decide_eq_true_eq, decide_eq_false_iff_not, bne_iff_ne, ne_eq, beq_iff_eq, qd, beq_eq_false_iff_ne] at *; simp only [iv, uv, sD, rZ, uX]; first | rw [if_pos (by omega)] | rw [if_neg (by omega)]))), rfl⟩, trivial⟩
theorem micro_c (ns : Int) : zn Tryz.prog Γ0 86 [uv ns] [iv (se ns)] := by
  refine z_ Tryz.func86 rfl Tryz.ntmps86 (by kernel_rfl) rfl fun w0 I0 G0 => ?_
  refine zD <| zB <| g_u (zE rfl rfl) <| zH <| zA <| zD <| zB <| g_u (zC rfl rfl) ?_
  refine g_u (rN rfl rfl rfl (by first | decide | omega | (((try simp only [decide_eq_true_eq, decide_eq_false_iff_not, bne_iff_ne, ne_eq, beq_iff_eq, qd, beq_eq_false_iff_ne, Bool.not_eq_true', Bool.not_eq_false', gt_iff_lt, ge_iff_le] at *); (repeat simp (disch := omega) only [zO, zi] at *)); omega))) ?_
  refine g_u (xL rfl rfl Tryz.underlying57 Tryz.underlying3) <| g_u (zE rfl rfl) <| zH <| zA <| zL ?_
  exact ⟨⟨(rfl : toAV (Al.look _ _) = some _).trans (congrArg some (by rfl)), rfl⟩, trivial⟩
theorem rmicro_c (ns : Int) : zn Tryz.prog Γ0 123 [uv ns] [iv (se ns)] := by
  refine z_ Tryz.func123 rfl Tryz.ntmps123 (by kernel_rfl) rfl fun w0 I0 G0 => ?_
  refine zD <| zB <| g_u (zE rfl rfl) <| zH <| zA <| zD <| zB <| g_u (zC rfl rfl) ?_
  refine g_u (rN rfl rfl rfl (by first | decide | omega | (((try simp only [decide_eq_true_eq, decide_eq_false_iff_not, bne_iff_ne, ne_eq, beq_iff_eq, qd, beq_eq_false_iff_ne, Bool.not_eq_true', Bool.not_eq_false', gt_iff_lt, ge_iff_le] at *); (repeat simp (disch := omega) only [zO, zi] at *)); omega))) ?_
  refine g_u (xL rfl rfl Tryz.underlying57 Tryz.underlying3) <| g_u (zE rfl rfl) <| zH <| zA <| zL ?_
  exact ⟨⟨(rfl : toAV (Al.look _ _) = some _).trans (congrArg some (by rfl)), rfl⟩, trivial⟩
theorem of_c (b l : Int) : zn Tryz.prog Γ0 79 [iv b, iv l] [(ofR b l).av, iv (ofC b l)] := by
  refine z_ Tryz.func79 rfl Tryz.ntmps79 (by kernel_rfl) rfl fun w0 I0 G0 => ?_
  refine zD <| zB <| g_uG (zy 1004 rfl rfl rfl tZ105) rfl <| g_u (zE rfl rfl) <| zH <| zA <| zD <| zB <| g_u (zC rfl rfl) <| g_u (vb (nano_c _) rfl rfl) <| g_u (xt rfl rfl) <| g_u (zp rfl rfl rfl rfl) <| g_u (zp rfl rfl rfl rfl) <| g_u (zE rfl rfl) <| g_u (zE rfl rfl) <| zH <| zA <| zD <| zB <| g_u (zC rfl rfl) <| g_u (vb (nano_c _) rfl rfl) <| g_u (xt rfl rfl) <| g_u (zp rfl rfl rfl rfl) <| g_u (zp rfl rfl rfl rfl) <| g_u (zE rfl rfl) <| g_u (zE rfl rfl) <| zH <| zA <| zD <| zD <| zB <| g_u (zC rfl rfl) <| g_u (xl rfl rfl rfl) <| g_u (zC rfl rfl) <| yB (t := 22) rfl ?_
  rintro (hb1 | hb1)
  · rw [hb1]
    refine zI rfl rfl rfl <| zI rfl rfl rfl <| g_u (zZ rfl rfl rfl) <| g_u (zC rfl rfl) <| zI rfl rfl rfl <| zI rfl rfl rfl <| zI rfl rfl rfl <| zI rfl rfl rfl <| g_u (zZ rfl rfl rfl) <| zH <| zA <| zs rfl <| zD <| zB <| g_u (yj rfl tU105 us105 pl105 rfl rfl rfl rfl) <| g_u (zV rfl rfl rfl tX rfl rfl) <| g_u (zE rfl rfl) <| zH <| zA <| zL <| zK ?_
    exact ⟨⟨_, _, _, _, _, _, _, rfl, rfl, tA105, tX, rfl, rfl, (rfl : toAV _ = some _).trans (congrArg some (by (simp only [decide_eq_true_eq, decide_eq_false_iff_not, bne_iff_ne, ne_eq, beq_iff_eq, qd, beq_eq_false_iff_ne] at *; simp only [iv, uv, Rg.av, ofR, ofC, rOfA, rOfB, rOfC]; first | (rw [if_pos (by unfold up; omega)]; first | done | rfl) | (rw [if_neg (by unfold up; omega)]; first | done | rfl) | (rw [if_pos (by unfold rBad; omega)]; first | done | rfl) | (rw [if_neg (by unfold rBad; omega)]; first | done | rfl))))⟩, ⟨(rfl : toAV (Al.look _ _) = some _).trans (congrArg some (by (simp only [decide_eq_true_eq, decide_eq_false_iff_not, bne_iff_ne, ne_eq, beq_iff_eq, qd, beq_eq_false_iff_ne] at *; simp only [iv, uv, Rg.av, ofR, ofC, rOfA, rOfB, rOfC]; first | (rw [if_pos (by unfold up; omega)]; first | done | rfl) | (rw [if_neg (by unfold up; omega)]; first | done | rfl) | (rw [if_pos (by unfold rBad; omega)]; first | done | rfl) | (rw [if_neg (by unfold rBad; omega)]; first | done | rfl)))), rfl⟩, trivial⟩
  · rw [hb1]
    refine zY rfl rfl (zC rfl rfl) <| zY rfl rfl (xl rfl rfl rfl) <| g_u (zh rfl rfl rfl) <| g_u (zC rfl rfl) <| yB (t := 26) rfl ?_
    rintro (hb2 | hb2)
    · rw [hb2]
      refine zI rfl rfl rfl <| zI rfl rfl rfl <| zI rfl rfl rfl <| zI rfl rfl rfl <| g_u (zZ rfl rfl rfl) <| zH <| zA <| zs rfl <| zD <| zB <| g_u (yj rfl tU105 us105 pl105 rfl rfl rfl rfl) <| g_u (zV rfl rfl rfl tX rfl rfl) <| g_u (zE rfl rfl) <| zH <| zA <| zL <| zK ?_
      exact ⟨⟨_, _, _, _, _, _, _, rfl, rfl, tA105, tX, rfl, rfl, (rfl : toAV _ = some _).trans (congrArg some (by (simp only [decide_eq_true_eq, decide_eq_false_iff_not, bne_iff_ne, ne_eq, beq_iff_eq, qd, beq_eq_false_iff_ne] at *; simp only [iv, uv, Rg.av, ofR, ofC, rOfA, rOfB, rOfC]; first | (rw [if_pos (by unfold up; omega)]; first | done | rfl) | (rw [if_neg (by unfold up; omega)]; first | done | rfl) | (rw [if_pos (by unfold rBad; omega)]; first | done | rfl) | (rw [if_neg (by unfold rBad; omega)]; first | done | rfl))))⟩, ⟨(rfl : toAV (Al.look _ _) = some _).trans (congrArg some (by (simp only [decide_eq_true_eq, decide_eq_false_iff_not, bne_iff_ne, ne_eq, beq_iff_eq, qd, beq_eq_false_iff_ne] at *; simp only [iv, uv, Rg.av, ofR, ofC, rOfA, rOfB, rOfC]; first | (rw [if_pos (by unfold up; omega)]; first | done | rfl) | (rw [if_neg (by unfold up; omega)]; first | done | rfl) | (rw [if_pos (by unfold rBad; omega)]; first | done | rfl) | (rw [if_neg (by unfold rBad; omega)]; first | done | rfl)))), rfl⟩, trivial⟩
    · rw [hb2]
      refine zY rfl rfl (zC rfl rfl) <| zY rfl rfl (zC rfl rfl) <| zY rfl rfl (vW rfl rfl rfl) <| zY rfl rfl (wD rfl rfl rfl) <| g_u (zh rfl rfl rfl) <| zH <| zA ?_
      refine zN rfl (fun hb3 => ?_) (fun hb3 => ?_)
      · refine zD ?_
        refine zB <| g_u (yj rfl tU105 us105 pl105 rfl rfl rfl rfl) <| g_u (zV rfl rfl rfl tX rfl rfl) <| g_u (zE rfl rfl) <| zH <| zA <| zL <| zK ?_
        exact ⟨⟨_, _, _, _, _, _, _, rfl, rfl, tA105, tX, rfl, rfl, (rfl : toAV _ = some _).trans (congrArg some (by (simp only [decide_eq_true_eq, decide_eq_false_iff_not, bne_iff_ne, ne_eq, beq_iff_eq, qd, beq_eq_false_iff_ne] at *; simp only [iv, uv, Rg.av, ofR, ofC, rOfA, rOfB, rOfC]; first | (rw [if_pos (by unfold up; omega)]; first | done | rfl) | (rw [if_neg (by unfold up; omega)]; first | done | rfl) | (rw [if_pos (by unfold rBad; omega)]; first | done | rfl) | (rw [if_neg (by unfold rBad; omega)]; first | done | rfl))))⟩, ⟨(rfl : toAV (Al.look _ _) = some _).trans (congrArg some (by (simp only [decide_eq_true_eq, decide_eq_false_iff_not, bne_iff_ne, ne_eq, beq_iff_eq, qd, beq_eq_false_iff_ne] at *; simp only [iv, uv, Rg.av, ofR, ofC, rOfA, rOfB, rOfC]; first | (rw [if_pos (by unfold up; omega)]; first | done | rfl) | (rw [if_neg (by unfold up; omega)]; first | done | rfl) | (rw [if_pos (by unfold rBad; omega)]; first | done | rfl) | (rw [if_neg (by unfold rBad; omega)]; first | done | rfl)))), rfl⟩, trivial⟩
      · refine zQ ?_
        refine zA <| zD <| zB <| g_u (zC rfl rfl) <| g_u (zC rfl rfl) <| g_u (zC rfl rfl) <| g_u (z0 rfl rfl rfl) <| g_u (yj rfl tU105 us105 pl105 rfl rfl rfl rfl) <| g_u (zV rfl rfl rfl tX rfl rfl) <| g_u (zE rfl rfl) <| zH <| zA <| zL ?_
        exact ⟨⟨_, _, _, _, _, _, _, rfl, rfl, tA105, tX, rfl, rfl, (rfl : toAV _ = some _).trans (congrArg some (by (simp only [decide_eq_true_eq, decide_eq_false_iff_not, bne_iff_ne, ne_eq, beq_iff_eq, qd, beq_eq_false_iff_ne] at *; simp only [iv, uv, Rg.av, ofR, ofC, rOfA, rOfB, rOfC]; first | (rw [if_pos (by unfold up; omega)]; first | done | rfl) | (rw [if_neg (by unfold up; omega)]; first | done | rfl) | (rw [if_pos (by unfold rBad; omega)]; first | done | rfl) | (rw [if_neg (by unfold rBad; omega)]; first | done | rfl))))⟩, ⟨(rfl : toAV (Al.look _ _) = some _).trans (congrArg some (by (simp only [decide_eq_true_eq, decide_eq_false_iff_not, bne_iff_ne, ne_eq, beq_iff_eq, qd, beq_eq_false_iff_ne] at *; simp only [iv, uv, Rg.av, ofR, ofC, rOfA, rOfB, rOfC]; first | (rw [if_pos (by unfold up; omega)]; first | done | rfl) | (rw [if_neg (by unfold up; omega)]; first | done | rfl) | (rw [if_pos (by unfold rBad; omega)]; first | done | rfl) | (rw [if_neg (by unfold rBad; omega)]; first | done | rfl)))), rfl⟩, trivial⟩
theorem whole_c (r : Rg) : zn Tryz.prog Γ0 50 [r.av] [(yt r).av] := by
  refine z_ Tryz.func50 rfl Tryz.ntmps50 (by kernel_rfl) rfl fun w0 I0 G0 => ?_
  refine zD <| zB <| g_uG (zk 1001 rfl rfl rfl rfl) rfl <| g_uG (zy 1002 rfl rfl rfl tZ105) rfl <| zH <| zA <| zD <| y_ xR <| g_u (zG rfl rfl rfl tA105 tX rfl rfl) <| g_u (zP (Begun_c _) rfl rfl) <| g_u (zG rfl rfl rfl tA105 tX rfl rfl) <| g_u (zP (Lasts_c _) rfl rfl) <| g_u (vb (of_c _ _) rfl rfl) <| g_u (xt rfl rfl) <| g_u (zp rfl rfl rfl rfl) <| g_u (zp rfl rfl rfl rfl) <| g_uG (zy 1003 rfl rfl rfl tZ105) rfl <| g_u (zV rfl rfl rfl tX rfl rfl) <| g_u (zE rfl rfl) ?_
  refine zH ⟨by kernel_rfl, ?_⟩
  refine zA <| zD <| zB <| g_u (yC rfl rfl rfl tA105 tX rfl rfl) <| g_u (zV rfl rfl rfl tX rfl rfl) <| zH <| zA <| zL ?_
  exact ⟨⟨_, _, _, _, _, _, _, rfl, rfl, tA105, tX, rfl, rfl, (rfl : toAV _ = some _).trans (congrArg some (by rfl))⟩, trivial⟩
attribute [local irreducible] yt ofR
theorem rfine_c (s e : Int) : zn Tryz.prog Γ0 110 [uv s, uv e] [bv (tW s e)] := by
  refine z_ Tryz.func110 rfl Tryz.ntmps110 (by kernel_rfl) rfl fun w0 I0 G0 => ?_
  refine zD <| zB <| g_u (zE rfl rfl) <| zH <| zA <| zD <| zB <| g_u (zC rfl rfl) <| g_u (zC rfl rfl) <| g_u (s_leI rfl rfl rfl) <| g_u (zC rfl rfl) <| yB (t := 8) rfl ?_
  rintro (hb1 | hb1)
  · rw [hb1]
    refine zY rfl rfl (zC rfl rfl) <| zY rfl rfl (s_leI rfl rfl rfl) <| g_u (zZ rfl rfl rfl) <| g_u (zE rfl rfl) <| zH <| zA <| zL ?_
    exact ⟨⟨(rfl : toAV (Al.look _ _) = some _).trans (congrArg some (by (simp only [bv, tW, *]; rfl))), rfl⟩, trivial⟩
  · rw [hb1]
    refine zI rfl rfl rfl <| zI rfl rfl rfl <| g_u (zh rfl rfl rfl) <| g_u (zE rfl rfl) <| zH <| zA <| zL ?_
    exact ⟨⟨(rfl : toAV (Al.look _ _) = some _).trans (congrArg some (by (simp only [bv, tW, *]; rfl))), rfl⟩, trivial⟩
theorem rbegun_c (s e : Int) : zn Tryz.prog Γ0 91 [uv s, uv e] [iv (uL s e)] := by
  refine z_ Tryz.func91 rfl Tryz.ntmps91 (by kernel_rfl) rfl fun w0 I0 G0 => ?_
  refine zD <| zB <| g_u (zE rfl rfl) <| zH <| zA <| zD <| zD <| zB <| g_u (zC rfl rfl) <| g_u (zC rfl rfl) <| g_u (zP (rfine_c _ _) rfl rfl) <| g_u (uA rfl rfl) <| zH <| zA ?_
  refine zN rfl (fun hb1 => ?_) (fun hb1 => ?_)
  · refine zD ?_
    refine zB <| g_u (zE rfl rfl) <| zH <| zA <| zL <| zK ?_
    exact ⟨⟨(rfl : toAV (Al.look _ _) = some _).trans (congrArg some (by (simp only [iv, uL, uI]; simp only [Bool.not_eq_true', Bool.not_eq_false'] at *; simp only [*]; rfl))), rfl⟩, trivial⟩
  · refine zQ ?_
    refine zA <| zD <| zB <| g_u (zC rfl rfl) <| g_u (zP (rmicro_c _) rfl rfl) <| g_u (zE rfl rfl) <| zH <| zA <| zL ?_
    exact ⟨⟨(rfl : toAV (Al.look _ _) = some _).trans (congrArg some (by (simp only [iv, uL, uI]; simp only [Bool.not_eq_true', Bool.not_eq_false'] at *; simp only [*]; rfl))), rfl⟩, trivial⟩
theorem rlasts_c (s e : Int) : zn Tryz.prog Γ0 92 [uv s, uv e] [iv (uI s e)] := by
  refine z_ Tryz.func92 rfl Tryz.ntmps92 (by kernel_rfl) rfl fun w0 I0 G0 => ?_
  refine zD <| zB <| g_u (zE rfl rfl) <| zH <| zA <| zD <| zD <| zB <| g_u (zC rfl rfl) <| g_u (zC rfl rfl) <| g_u (zP (rfine_c _ _) rfl rfl) <| g_u (uA rfl rfl) <| zH <| zA ?_
  refine zN rfl (fun hb1 => ?_) (fun hb1 => ?_)
  · refine zD ?_
    refine zB <| g_u (zE rfl rfl) <| zH <| zA <| zL <| zK ?_
    exact ⟨⟨(rfl : toAV (Al.look _ _) = some _).trans (congrArg some (by (simp only [iv, uL, uI]; simp only [Bool.not_eq_true', Bool.not_eq_false'] at *; simp only [*]; rfl))), rfl⟩, trivial⟩
  · refine zQ ?_
    refine zA <| zD <| zB <| g_u (zC rfl rfl) <| g_u (zC rfl rfl) <| g_u (vW rfl rfl rfl) <| g_u (zP (rmicro_c _) rfl rfl) <| g_u (zE rfl rfl) <| zH <| zA <| zL ?_
    exact ⟨⟨(rfl : toAV (Al.look _ _) = some _).trans (congrArg some (by (simp only [iv, uL, uI]; simp only [Bool.not_eq_true', Bool.not_eq_false'] at *; simp only [*]; rfl))), rfl⟩, trivial⟩
end Go.Proofs
namespace Go.Proofs
open Go Go.Al
set_option maxRecDepth 10000
theorem nil2nd {P : Program} {Γ : List (Nat × AV)} {f : FuncId} {n : Nat} {x : AV} {xs rs : List AV} (c : zn P Γ f (x :: .sl n [] :: xs) rs) : zn P Γ f (x :: .v (.slice none 0 0) :: xs) rs := c.args ⟨Up.refl _, Up.nil n, Ups.refl xs⟩
theorem kept_c (l : List GA) (ks : List ByteArray) (ho : ∀ a ∈ l, a.ok) (hw : wtAs l ≤ 9000000) (hk : ks.length ≤ 1000000000) : zn Tryz.prog Γ0 98 [(.sl 7 (l.map avA)), (.sl 1 (ks.map fun x => sv x))] [.sl 7 ((xx ks l).map avA)] := by
  have hl := yv l
  refine z_ Tryz.func98 rfl Tryz.ntmps98 (by kernel_rfl) rfl fun w0 I0 G0 => ?_
  refine zD <| zB <| g_u (zE rfl rfl) <| zH <| zA <| zD <| zB <| g_u (zC rfl rfl) <| g_u (zl (X0 := z5) rfl Tryz.underlying42 tS5 tZ5 rfl rfl rfl rfl rfl rfl rfl rfl) ?_
  refine g_u (zP (plainAs_c l nJ ho (by omega) (by decide)) rfl rfl) ?_
  refine g_u (zC rfl rfl) ?_
  refine g_u (zP (drop_c (l.map (yZ nJ)) ks (by rw [List.length_map]; omega) hk) rfl rfl) ?_
  refine g_u (zE rfl rfl) <| zH <| zA <| zL ?_
  exact ⟨⟨(rfl : toAV (Al.look _ _) = some _).trans (congrArg some (by rfl)), rfl⟩, trivial⟩
theorem wholeN_c (n : Int) : zn Tryz.prog Γ0 149 [uv n] [uv (sK n)] := by
  refine z_ Tryz.func149 rfl Tryz.ntmps149 (by kernel_rfl) rfl fun w0 I0 G0 => ?_
  refine zD <| zB <| g_u (zE rfl rfl) <| zH <| zA <| zD <| zB <| g_u (zC rfl rfl) <| g_u (zP (micro_c _) rfl rfl) <| g_u (vb (nano_c _) rfl rfl) <| g_u (xt rfl rfl) <| g_u (zp rfl rfl rfl rfl) <| g_u (zp rfl rfl rfl rfl) <| g_u (zE rfl rfl) <| g_u (zE rfl rfl) <| zH <| zA <| zD <| zB <| g_u (zC rfl rfl) <| g_u (zE rfl rfl) <| zH <| zA <| zL ?_
  exact ⟨⟨(rfl : toAV (Al.look _ _) = some _).trans (congrArg some (by rfl)), rfl⟩, trivial⟩
theorem njE_c (e : GE) (ho : e.ok) (hw : e.wt ≤ 9000000) : zn Tryz.prog Γ0 128 [e.av] [(njE e).av] := by
  have q : e.wt = 1 + e.name.size + wtAs e.attrs := rfl
  refine z_ Tryz.func128 rfl Tryz.ntmps128 (by kernel_rfl) rfl fun w0 I0 G0 => ?_
  refine zD <| zB <| g_uG (zk 1001 rfl rfl rfl rfl) rfl <| g_uG (zy 1002 rfl rfl rfl tZ92) rfl <| zH <| zA <| zD <| y_ xR <| g_u (zF rfl rfl fa92_0 rfl) <| g_u (zG rfl rfl rfl tA57 tS57 rfl rfl) <| g_u (zP (wholeN_c _) rfl rfl) <| g_u (zF rfl rfl jK rfl) <| g_u (zG rfl rfl rfl tA9 tS9 rfl rfl) <| g_u (zF rfl rfl fa92_2 rfl) <| g_u (zG rfl rfl rfl tA44 tS44 rfl rfl) <| g_u (zl (X0 := z9) rfl Tryz.underlying27 tS9 tZ9 rfl rfl rfl rfl rfl rfl rfl rfl) ?_
  refine g_u (zP (kept_c e.attrs [tg] ho.2.2 (by omega) (by decide)) rfl rfl) ?_
  refine g_u (yj rfl tU92 us92 pl92 rfl rfl rfl rfl) <| g_u (zV rfl rfl rfl tS92 rfl rfl) ?_
  refine zH ⟨by kernel_rfl, ?_⟩
  refine zA <| zL ?_
  exact ⟨⟨_, _, _, _, _, _, _, rfl, rfl, tA92, tS92, rfl, rfl, (rfl : toAV _ = some _).trans (congrArg some (by rfl))⟩, trivial⟩
set_option maxHeartbeats 8000000 in
theorem njS_c (s : GSpan) (ho : s.ok) (hw : s.wt ≤ 9000000) : zn Tryz.prog Γ0 99 [s.av] [(njS s).av] := by
  have qw : s.wt = 1 + s.state.size + s.name.size + s.note.size + wtAs s.attrs + zg GE.wt s.events + zg GL.wt s.links := rfl
  have ql := yX GE.wt (fun e => by unfold GE.wt; omega) s.events
  have qm := yX GL.wt (fun e => by unfold GL.wt; omega) s.links
  refine z_ Tryz.func99 rfl Tryz.ntmps99 (by kernel_rfl) rfl fun w0 I0 G0 => ?_
  refine zD <| zB <| g_uG (zk 1001 rfl rfl rfl rfl) rfl <| g_uG (zy 1002 rfl rfl rfl tZ63) rfl <| zH <| zA <| zD <| zB <| g_u (zF rfl rfl fa63_6 rfl) <| g_u (zG rfl rfl rfl tA57 tS57 rfl rfl) <| g_u (zF rfl rfl fa63_7 rfl) <| g_u (zG rfl rfl rfl tA57 tS57 rfl rfl) <| g_u (yj rfl tU105 us105 pl105 rfl rfl rfl rfl) <| g_u (zP (whole_c ⟨_, _⟩) rfl rfl) <| g_uG (zy 1003 rfl rfl rfl tZ105) rfl <| g_u (zV rfl rfl rfl tX rfl rfl) <| zH <| zA <| zD <| zB ?_
  refine g_u (zG rfl rfl rfl tA63 tS63 rfl (by first | exact wh (GSpan.width _) rfl | rfl)) ?_
  refine g_uG (zy 1004 rfl rfl rfl tZ63) rfl ?_
  refine g_u (zV rfl rfl rfl tS63 (by first | exact beqW (GSpan.width _) | rfl) (by first | exact ur (z63_w.trans (GSpan.width _).symm) rfl | rfl)) ?_
  refine zH <| zA <| zD <| y_ xR <| g_u (zF rfl rfl fa105_0 rfl) <| g_u (zG rfl rfl rfl tA57 tS57 rfl rfl) <| g_u (zF rfl rfl fa105_1 rfl) <| g_u (zG rfl rfl rfl tA57 tS57 rfl rfl) <| g_u (zF rfl rfl fa63_3 rfl) <| g_u (zV rfl rfl rfl tS9 rfl rfl) <| g_u (zF rfl rfl fa63_6 rfl) <| g_u (zV rfl rfl rfl tS57 rfl rfl) <| g_u (zF rfl rfl fa63_7 rfl) <| g_u (zV rfl rfl rfl tS57 rfl rfl) ?_
  refine zH ⟨by kernel_rfl, ?_⟩
  refine zA <| zD <| zB <| g_u (zF rfl rfl si rfl) <| g_u (zG rfl rfl rfl tA44 tS44 rfl rfl) <| g_u (zl (X0 := z9) rfl Tryz.underlying27 tS9 tZ9 rfl rfl rfl rfl rfl rfl rfl rfl) ?_
  refine g_u (zP (kept_c s.attrs k4 ho.2.2.2.1 (by omega) (by decide)) rfl rfl) ?_
  refine g_u (zF rfl rfl si rfl) <| g_u (zV rfl rfl rfl tS44 rfl rfl) <| zH <| zA <| zD <| zB <| g_u (zF rfl rfl vN rfl) <| g_u (zV rfl rfl rfl tS58 rfl rfl) <| g_u (zF rfl rfl wK rfl) <| g_u (zV rfl rfl rfl tS59 rfl rfl) <| zH <| zA <| zD <| zD <| vQ 3009 1004 3 38 rfl rfl rfl rfl rfl rfl rfl <| zB <| g_u (zF rfl rfl vN rfl) <| g_u (zG rfl rfl rfl tA58 tS58 rfl rfl) <| g_u (z7 rfl rfl Tryz.underlying58) <| g_u (zC rfl rfl) <| zH <| zA <| zU ?_
  refine zw (fun i : Nat => [(1, .ptr 1001 0), (1001, .box 63 (.imm s.av)), (2, .ptr 1002 0), (1002, .box 63 (.imm z63)), (4, .ptr 1004 0), (1004, .box 63 (.agg [.imm (.arr 16 s.trace), .imm (.arr 8 s.id), .imm (.arr 8 s.parent), .imm (sv ⟨#[]⟩), .imm (sv s.name), .imm (iv s.kind), .imm (uv (yt ⟨s.start, s.fin⟩).lo), .imm (uv (yt ⟨s.start, s.fin⟩).hi), .imm (.sl 7 ((xx k4 s.attrs).map avA)), .slg 3009 3 ((s.events.take i).map fun e => (njE e).av), .imm (.v (.slice none 0 0)), .imm (.agg [iv s.code, sv s.note])])), (3009, .tok 3 ((s.events.take i).map fun e => (njE e).av)), (31, .imm (.sl 3 (s.events.map GE.av))), (32, .imm (iv (s.events.length : Int))), (33, .imm (iv (i : Int)))]) (fun i => i ≤ s.events.length) (fun i => s.events.length - i) (0) ?_ ⟨rfl, rfl, rfl, rfl, rfl, rfl, rfl, rfl, zX rfl (by rw [List.length_map]), rfl, trivial⟩ ?_
  · exact Nat.zero_le _
  · rintro i h1; have h1 : i ≤ s.events.length := h1
    refine zD <| zB <| g_u (ye rfl rfl rfl) <| zH <| zA <| zD ?_
    refine zN rfl (fun hb1 => ?_) (fun hb1 => ?_)
    · have hi : i < s.events.length := by have := of_decide_eq_true hb1; (try simp only [List.length_map] at this); omega
      have hex := yP GE.wt (v_ hi)
      have heq : (nthE s.events i).wt = 1 + (nthE s.events i).name.size + wtAs (nthE s.events i).attrs := rfl
      have heo := ho.2.2.2.2.1 _ (v_ hi)
      refine zQ <| zA <| zD <| zU <| zD <| zB ?_
      refine g_u (zR rfl rfl rfl Tryz.underlying58 tS92 (by omega) (ixE hi)) ?_
      refine g_u (zd rfl rfl tA92 tS92 rfl rfl) <| g_uG (zy 1006 rfl rfl rfl tZ92) rfl <| g_u (zV rfl rfl rfl tS92 rfl rfl) <| zH <| zA <| y_ xR <| g_u (zF rfl rfl vN rfl) <| g_u (xj rfl rfl rfl tA58 tS58 rfl rfl) <| g_u (yC rfl rfl rfl tA92 tS92 rfl rfl) ?_
      refine g_u (zP (njE_c (nthE s.events i) heo (by omega)) rfl rfl) ?_
      refine g_u (zl (X0 := z92) rfl Tryz.underlying58 tS92 tZ92 rfl rfl rfl rfl rfl rfl rfl rfl) ?_
      refine g_u (yh rfl rfl rfl rfl rfl Tryz.underlying58 Tryz.underlying58 tS92 zv92 rfl (by decide) by92 (by (try dsimp only); simp only [List.length_append, List.length_cons, List.length_nil, List.length_map, List.length_take, List.length_drop]; omega) (by (try dsimp only); simp only [List.length_append, List.length_cons, List.length_nil, List.length_map, List.length_take, List.length_drop]; omega)) ?_
      refine g_u (zF rfl rfl vN rfl) <| g_u (tC rfl rfl rfl rfl tS58 rfl rfl) ?_
      refine zH ⟨by kernel_rfl, ?_⟩
      refine zW <| zA <| zB <| g_u (z0 rfl rfl rfl) <| g_u (zC rfl rfl) <| zH <| zA ?_
      have et : ((s.events.take (i + 1)).map fun e => (njE e).av) = ((s.events.take i).map fun e => (njE e).av) ++ [(njE (nthE s.events i)).av] := by rw [yO (y6 (d := ge0) hi), List.map_append]; rfl
      refine ⟨i + 1, hi, ⟨rfl, rfl, rfl, rfl, rfl, (by rw [et]; rfl), yf rfl et.symm, rfl, rfl, zX rfl (by rw [zO (by omega) (by omega)]; rfl), trivial⟩, by (try dsimp only); omega⟩
    · have hin : i = s.events.length := by have := of_decide_eq_false hb1; (try simp only [List.length_map] at this); omega
      refine zz <| zT <| zT <| zq <| zA <| zD <| zD <| vQ 3010 1004 26 39 rfl rfl rfl rfl rfl rfl rfl <| zB <| g_u (zF rfl rfl wK rfl) <| g_u (zG rfl rfl rfl tA59 tS59 rfl rfl) <| g_u (z7 rfl rfl Tryz.underlying59) <| g_u (zC rfl rfl) <| zH <| zA <| zU ?_
      refine zw (fun j : Nat => [(1, .ptr 1001 0), (1001, .box 63 (.imm s.av)), (2, .ptr 1002 0), (1002, .box 63 (.imm z63)), (4, .ptr 1004 0), (1004, .box 63 (.agg [.imm (.arr 16 s.trace), .imm (.arr 8 s.id), .imm (.arr 8 s.parent), .imm (sv ⟨#[]⟩), .imm (sv s.name), .imm (iv s.kind), .imm (uv (yt ⟨s.start, s.fin⟩).lo), .imm (uv (yt ⟨s.start, s.fin⟩).hi), .imm (.sl 7 ((xx k4 s.attrs).map avA)), .slg 3009 3 (s.events.map fun e => (njE e).av), .slg 3010 26 ((s.links.take j).map fun e => (njL e).av), .imm (.agg [iv s.code, sv s.note])])), (3010, .tok 26 ((s.links.take j).map fun e => (njL e).av)), (46, .imm (.sl 26 (s.links.map GL.av))), (47, .imm (iv (s.links.length : Int))), (48, .imm (iv (j : Int)))]) (fun j => j ≤ s.links.length) (fun j => s.links.length - j) (0) ?_ ⟨rfl, rfl, rfl, rfl, rfl, (by rw [hin, List.take_length]; rfl), rfl, rfl, zX rfl (by rw [List.length_map]), rfl, trivial⟩ ?_
      · exact Nat.zero_le _
      · rintro j h1; have h1 : j ≤ s.links.length := h1
        refine zD <| zB <| g_u (ye rfl rfl rfl) <| zH <| zA <| zD ?_
        refine zN rfl (fun hb2 => ?_) (fun hb2 => ?_)
        · have hj : j < s.links.length := by have := of_decide_eq_true hb2; (try simp only [List.length_map] at this); omega
          refine zQ <| zA <| zD <| zU <| zD <| zB ?_
          refine g_u (zR rfl rfl rfl Tryz.underlying59 tS94 (by omega) (ixL hj)) ?_
          refine g_u (zd rfl rfl tA94 tS94 rfl (by first | exact wh (GL.width _) rfl | rfl)) ?_
          refine g_uG (zy 1008 rfl rfl rfl tZ94) rfl ?_
          refine g_u (zV rfl rfl rfl tS94 (by first | exact beqW (GL.width _) | rfl) (by first | exact ur (z94_w.trans (GL.width _).symm) rfl | rfl)) ?_
          refine zH <| zA <| zB <| g_u (zF rfl rfl wK rfl) <| g_u (xj rfl rfl rfl tA59 tS59 rfl rfl) <| g_u (zF rfl rfl fa94_0 rfl) <| g_u (yC rfl rfl rfl tA54 tS54 rfl rfl) <| g_u (zF rfl rfl fa94_1 rfl) <| g_u (zG rfl rfl rfl tA56 tS56 rfl rfl) <| g_u (yj rfl tU94 us94 pl94 rfl rfl rfl rfl) <| g_u (zl (X0 := z94) rfl Tryz.underlying59 tS94 tZ94 rfl rfl rfl rfl rfl rfl rfl rfl) ?_
          refine g_u (yh rfl rfl rfl rfl rfl Tryz.underlying59 Tryz.underlying59 tS94 zv94 rfl (by decide) by94 (by (try dsimp only); simp only [List.length_append, List.length_cons, List.length_nil, List.length_map, List.length_take, List.length_drop]; omega) (by (try dsimp only); simp only [List.length_append, List.length_cons, List.length_nil, List.length_map, List.length_take, List.length_drop]; omega)) ?_
          refine g_u (zF rfl rfl wK rfl) <| g_u (tC rfl rfl rfl rfl tS59 rfl rfl) <| zH <| zW <| zA <| zB <| g_u (z0 rfl rfl rfl) <| g_u (zC rfl rfl) <| zH <| zA ?_
          have et : ((s.links.take (j + 1)).map fun e => (njL e).av) = ((s.links.take j).map fun e => (njL e).av) ++ [(njL (nthL s.links j)).av] := by rw [yO (y6 (d := gl0) hj), List.map_append]; rfl
          refine ⟨j + 1, hj, ⟨rfl, rfl, rfl, rfl, rfl, (by rw [et]; rfl), yf rfl et.symm, rfl, rfl, zX rfl (by rw [zO (by omega) (by omega)]; rfl), trivial⟩, by (try dsimp only); omega⟩
        · have hjn : j = s.links.length := by have := of_decide_eq_false hb2; (try simp only [List.length_map] at this); omega
          refine zz <| zT <| zT <| zq <| zA <| zD <| zB <| g_u (yC rfl rfl rfl tA63 tS63 rfl rfl) ?_
          refine g_u (zV rfl rfl rfl tS63 (by first | exact beqW (GSpan.width _) | rfl) (by first | exact ur (z63_w.trans (GSpan.width _).symm) rfl | rfl)) ?_
          refine zH <| zA <| zL ?_
          exact ⟨⟨_, _, _, _, _, _, _, rfl, rfl, tA63, tS63, rfl, rfl, (rfl : toAV _ = some _).trans (congrArg some (by (rw [hjn, List.take_length]; show _ = GSpan.av (njS s); simp only [GSpan.av, njS, List.map_map]; rfl)))⟩, trivial⟩
theorem named_c (l : List GA) (t : ByteArray) (hr : risA none l) (hl : l.length ≤ 10000000) : zn Tryz.prog Γ0 78 [(.sl 7 (l.map avA)), sv t] [.sl 7 ((yx l t).map avA)] := by
  refine z_ Tryz.func78 rfl Tryz.ntmps78 (by kernel_rfl) rfl fun w0 I0 G0 => ?_
  refine zD <| zB <| g_u (zE rfl rfl) <| zH <| zA <| zD <| zD <| zB <| g_u (zC rfl rfl) <| g_u (jZ rfl rfl rfl) <| zH <| zA ?_
  refine zN rfl (fun hb1 => ?_) (fun hb1 => ?_)
  · have q : t = ⟨#[]⟩ := by have e := hb1; rw [yH] at e; exact of_decide_eq_true e
    refine zD <| zB <| g_u (zC rfl rfl) <| g_u (zl (X0 := z9) rfl Tryz.underlying27 tS9 tZ9 rfl rfl rfl rfl rfl rfl rfl rfl) ?_
    refine g_u (zP (drop_c l [skey] hl (by decide)) rfl rfl) ?_
    refine g_u (zE rfl rfl) <| zH <| zA <| zL <| zK ?_
    exact ⟨⟨(rfl : toAV (Al.look _ _) = some _).trans (congrArg some (by (exact congrArg (fun x : List GA => AV.sl 7 (x.map avA)) (by unfold yx; first | rw [if_pos q] | (rw [if_neg q]; done) | rw [if_neg q, into_drop hr])))), rfl⟩, trivial⟩
  · have q : ¬ t = ⟨#[]⟩ := by have e := hb1; rw [yH] at e; exact of_decide_eq_false e
    refine zQ <| zA <| zD <| zB <| g_u (zC rfl rfl) <| g_u (zC rfl rfl) <| g_u (yj rfl tU70 us70 pl70 rfl rfl rfl rfl) <| g_u (zP (putA_c l skey (tv t) hr hl) rfl rfl) <| g_u (zE rfl rfl) <| zH <| zA <| zL ?_
    exact ⟨⟨(rfl : toAV (Al.look _ _) = some _).trans (congrArg some (by (exact congrArg (fun x : List GA => AV.sl 7 (x.map avA)) (by unfold yx; first | rw [if_pos q] | (rw [if_neg q]; done) | rw [if_neg q, into_drop hr])))), rfl⟩, trivial⟩
set_option maxHeartbeats 4000000 in
theorem njR_c (r : GRes) (ho : r.ok) (hw : r.wt ≤ 9000000) (hr : risA none r.attrs) : zn Tryz.prog Γ0 70 [r.av] [(njR r).av] := by
  have qw : r.wt = 1 + wtAs r.attrs + zg GScope.wt r.scopes := rfl
  have qc := yX GScope.wt (fun e => by unfold GScope.wt; omega) r.scopes
  have qa := yv r.attrs
  have hkr := ris_kept [] hr
  have hkl : (xx [] r.attrs).length ≤ r.attrs.length := by unfold xx; have := tN [] (r.attrs.map (yZ nJ)); rw [List.length_map] at this; exact this
  have qsp := ti r.scopes
  refine z_ Tryz.func70 rfl Tryz.ntmps70 (by kernel_rfl) rfl fun w0 I0 G0 => ?_
  refine zD <| zB <| g_uG (zk 1001 rfl rfl rfl rfl) rfl <| g_uG (zy 1002 rfl rfl rfl tZ47) rfl <| zH <| zA <| zD <| y_ xR <| g_u (zF rfl rfl fa47_0 rfl) <| g_u (zG rfl rfl rfl tA44 tS44 rfl rfl) ?_
  refine g_u (zP (nil2nd (n := 1) (kept_c r.attrs [] ho.1 (by omega) (by decide))) rfl rfl) ?_
  refine g_u (zG rfl rfl rfl tA47 tS47 rfl rfl) ?_
  refine g_u (zP (service_c r ho.1 (by omega) hr) rfl rfl) ?_
  refine g_u (zP (named_c (xx [] r.attrs) (zu r) hkr (by omega)) rfl rfl) ?_
  refine g_u (yj rfl tU47 us47 pl47 rfl rfl rfl rfl) <| g_uG (zy 1003 rfl rfl rfl tZ47) rfl <| g_u (zV rfl rfl rfl tS47 rfl rfl) ?_
  refine zH ⟨by kernel_rfl, ?_⟩
  refine zA <| zD <| zB <| g_u (zE rfl rfl) <| zH <| zA <| zD <| zD <| um 3004 4 42 rfl rfl rfl rfl <| zB <| g_u (zF rfl rfl wj rfl) <| g_u (zG rfl rfl rfl tA45 tS45 rfl rfl) <| g_u (z7 rfl rfl Tryz.underlying45) <| g_u (zC rfl rfl) <| zH <| zA <| zU ?_
  refine zw (fun i : Nat => [(2, .ptr 1002 0), (1002, .box 47 (.imm z47)), (3, .ptr 1003 0), (1003, .box 47 (.imm (.agg [.sl 7 ((yx (xx [] r.attrs) (zu r)).map avA), .sl 3 []]))), (17, .imm (.sl 3 (r.scopes.map GScope.av))), (18, .imm (iv (r.scopes.length : Int))), (4, .slg 3004 42 ((zr (r.scopes.take i)).map fun x => (njS x).av)), (3004, .tok 42 ((zr (r.scopes.take i)).map fun x => (njS x).av)), (19, .imm (iv (i : Int)))]) (fun i => i ≤ r.scopes.length) (fun i => r.scopes.length - i) (0) ?_ ⟨rfl, rfl, rfl, rfl, rfl, zX rfl (by rw [List.length_map]), rfl, rfl, rfl, trivial⟩ ?_
  · exact Nat.zero_le _
  · rintro i h1; have h1 : i ≤ r.scopes.length := h1
    refine zD <| zB <| g_u (ye rfl rfl rfl) <| zH <| zA <| zD ?_
    refine zN rfl (fun hb1 => ?_) (fun hb1 => ?_)
    · have hi : i < r.scopes.length := by have := of_decide_eq_true hb1; (try simp only [List.length_map] at this); omega
      have hcx := yP GScope.wt (vy hi)
      have hcq : (nthC r.scopes i).wt = 1 + (nthC r.scopes i).name.size + (nthC r.scopes i).version.size + zg GSpan.wt (nthC r.scopes i).spans := rfl
      have hco := ho.2 _ (vy hi)
      have hcl := yX GSpan.wt (fun e => by unfold GSpan.wt; omega) (nthC r.scopes i).spans
      have hst : (zr (r.scopes.take i)).length + (nthC r.scopes i).spans.length ≤ (zr r.scopes).length := by have := congrArg List.length (ux hi); rw [List.length_append] at this; have h3 := vu (r.scopes.take (i + 1)) (r.scopes.drop (i + 1)); rw [List.take_append_drop] at h3; have h4 := congrArg List.length h3; rw [List.length_append] at h4; omega
      refine zQ <| zA <| zD <| zU <| zD <| zB ?_
      refine g_u (zR rfl rfl rfl Tryz.underlying45 tS51 (by omega) (ixC hi)) ?_
      refine g_u (zd rfl rfl tA51 tS51 rfl rfl) <| g_uG (zy 1006 rfl rfl rfl tZ51) rfl <| g_u (zV rfl rfl rfl tS51 rfl rfl) <| zH <| zA <| zD <| zB <| g_u (zF rfl rfl uM rfl) <| g_u (zG rfl rfl rfl tA49 tS49 rfl rfl) <| g_u (z7 rfl rfl Tryz.underlying49) <| g_u (zC rfl rfl) <| zH <| zA <| zU ?_
      refine zw (fun j : Nat => [(2, .ptr 1002 0), (1002, .box 47 (.imm z47)), (3, .ptr 1003 0), (1003, .box 47 (.imm (.agg [.sl 7 ((yx (xx [] r.attrs) (zu r)).map avA), .sl 3 []]))), (17, .imm (.sl 3 (r.scopes.map GScope.av))), (18, .imm (iv (r.scopes.length : Int))), (4, .slg 3004 42 (((zr (r.scopes.take i)).map fun x => (njS x).av) ++ (((nthC r.scopes i).spans.take j).map fun x => (njS x).av))), (3004, .tok 42 (((zr (r.scopes.take i)).map fun x => (njS x).av) ++ (((nthC r.scopes i).spans.take j).map fun x => (njS x).av))), (19, .imm (iv (i : Int))), (24, .imm (.sl 42 ((nthC r.scopes i).spans.map GSpan.av))), (25, .imm (iv ((nthC r.scopes i).spans.length : Int))), (26, .imm (iv (j : Int)))]) (fun j => j ≤ (nthC r.scopes i).spans.length) (fun j => (nthC r.scopes i).spans.length - j) (0) ?_ ⟨rfl, rfl, rfl, rfl, rfl, rfl, yl rfl (by simp), yf rfl (by simp), rfl, rfl, zX rfl (by rw [List.length_map]), rfl, trivial⟩ ?_
      · exact Nat.zero_le _
      · rintro j g1; have g1 : j ≤ (nthC r.scopes i).spans.length := g1
        refine zD <| zB <| g_u (ye rfl rfl rfl) <| zH <| zA <| zD ?_
        refine zN rfl (fun hb2 => ?_) (fun hb2 => ?_)
        · have hj : j < (nthC r.scopes i).spans.length := by have := of_decide_eq_true hb2; (try simp only [List.length_map] at this); omega
          have hsx := yP GSpan.wt (uO hj)
          have hso := hco.2.2 _ (uO hj)
          refine zQ <| zA <| zD <| zU <| zD <| zB ?_
          refine g_u (zR rfl rfl rfl Tryz.underlying49 tS63 (by omega) (ixS hj)) ?_
          refine g_u (zd rfl rfl tA63 tS63 rfl (by first | exact wh (GSpan.width _) rfl | rfl)) ?_
          refine g_uG (zy 1008 rfl rfl rfl tZ63) rfl ?_
          refine g_u (zV rfl rfl rfl tS63 (by first | exact beqW (GSpan.width _) | rfl) (by first | exact ur (z63_w.trans (GSpan.width _).symm) rfl | rfl)) ?_
          refine zH <| zA <| zB <| g_u (yW rfl rfl) ?_
          refine g_u (zG rfl rfl rfl tA63 tS63 rfl (by first | exact wh (GSpan.width _) rfl | rfl)) ?_
          refine g_u (zP (njS_c _ hso (by omega)) rfl rfl) ?_
          refine g_u (zl (X0 := z63) rfl Tryz.underlying49 tS63 tZ63 rfl rfl rfl rfl rfl rfl rfl rfl) ?_
          refine g_u (yh rfl rfl rfl rfl rfl Tryz.underlying49 Tryz.underlying49 tS63 zv63 rfl (by decide) by63 (by (try dsimp only); simp only [List.length_append, List.length_cons, List.length_nil, List.length_map, List.length_take, List.length_drop]; omega) (by (try dsimp only); simp only [List.length_append, List.length_cons, List.length_nil, List.length_map, List.length_take, List.length_drop]; omega)) ?_
          refine g_u (yY rfl rfl) <| zH <| zW <| zA <| zB <| g_u (z0 rfl rfl rfl) <| g_u (zC rfl rfl) <| zH <| zA ?_
          have et : (((zr (r.scopes.take i)).map fun x => (njS x).av) ++ (((nthC r.scopes i).spans.take (j + 1)).map fun x => (njS x).av)) = (((zr (r.scopes.take i)).map fun x => (njS x).av) ++ (((nthC r.scopes i).spans.take j).map fun x => (njS x).av)) ++ [(njS (nthS (nthC r.scopes i).spans j)).av] := by rw [yO (y6 (d := gs0) hj), List.map_append, List.append_assoc]; rfl
          refine ⟨j + 1, hj, ⟨rfl, rfl, rfl, rfl, rfl, rfl, yl rfl et.symm, yf rfl et.symm, rfl, rfl, rfl, zX rfl (by rw [zO (by omega) (by omega)]; rfl), trivial⟩, by (try dsimp only); omega⟩
        · have hjn : j = (nthC r.scopes i).spans.length := by have := of_decide_eq_false hb2; (try simp only [List.length_map] at this); omega
          refine zz <| zT <| zT <| zq <| zW <| zA <| zB <| g_u (z0 rfl rfl rfl) <| g_u (zC rfl rfl) <| zH <| zA ?_
          have et : ((zr (r.scopes.take (i + 1))).map fun x => (njS x).av) = (((zr (r.scopes.take i)).map fun x => (njS x).av) ++ (((nthC r.scopes i).spans.take j).map fun x => (njS x).av)) := by rw [ux hi, List.map_append, hjn, List.take_length]
          refine ⟨i + 1, hi, ⟨rfl, rfl, rfl, rfl, rfl, rfl, yl rfl et.symm, yf rfl et.symm, zX rfl (by rw [zO (by omega) (by omega)]; rfl), trivial⟩, by (try dsimp only); omega⟩
    · have hin : i = r.scopes.length := by have := of_decide_eq_false hb1; (try simp only [List.length_map] at this); omega
      refine zz <| zT <| zT <| zq <| zA <| zD <| zD <| zB <| g_u (yW rfl rfl) <| g_u (z7 rfl rfl Tryz.underlying49) <| g_u (wD rfl rfl rfl) <| zH <| zA ?_
      refine zN rfl (fun hb3 => ?_) (fun hb3 => ?_)
      · have q : ((zr (r.scopes.take i)).length : Int) > 0 := by have e := of_decide_eq_true hb3; simp only [List.length_map] at e; omega
        refine zB <| g_u (yW rfl rfl) <| g_u (yj rfl tU51 us51 pl51 rfl rfl rfl rfl) <| g_u (zl (X0 := z51) rfl Tryz.underlying45 tS51 tZ51 rfl rfl rfl rfl rfl rfl rfl rfl) <| g_u (zF rfl rfl wj rfl) <| g_u (tC rfl rfl rfl rfl tS45 rfl rfl) <| zH <| zA <| zD <| zB <| g_u (yC rfl rfl rfl tA47 tS47 rfl rfl) <| g_u (zV rfl rfl rfl tS47 rfl rfl) <| zH <| zA <| zL ?_
        exact ⟨⟨_, _, _, _, _, _, _, rfl, rfl, tA47, tS47, rfl, rfl, (rfl : toAV _ = some _).trans (congrArg some (by (rw [hin, List.take_length] at *; show _ = GRes.av (njR r); unfold njR wm; first | (rw [if_pos (by rw [List.length_map]; omega)]; simp only [GRes.av, GScope.av, List.map_cons, List.map_nil, List.map_map]; rfl) | (rw [if_neg (by rw [List.length_map]; omega)]; rfl))))⟩, trivial⟩
      · have q : ¬ ((zr (r.scopes.take i)).length : Int) > 0 := by have e := of_decide_eq_false hb3; simp only [List.length_map] at e; omega
        refine zQ <| zA <| zD <| zB <| g_u (zG rfl rfl rfl tA47 tS47 rfl rfl) <| g_u (zV rfl rfl rfl tS47 rfl rfl) <| zH <| zA <| zL ?_
        exact ⟨⟨_, _, _, _, _, _, _, rfl, rfl, tA47, tS47, rfl, rfl, (rfl : toAV _ = some _).trans (congrArg some (by (rw [hin, List.take_length] at *; show _ = GRes.av (njR r); unfold njR wm; first | (rw [if_pos (by rw [List.length_map]; omega)]; simp only [GRes.av, GScope.av, List.map_cons, List.map_nil, List.map_map]; rfl) | (rw [if_neg (by rw [List.length_map]; omega)]; rfl))))⟩, trivial⟩
end Go.Proofs
namespace Go.Proofs
open Go Go.Al
theorem wholeN_rg (n : Int) : u64 (sK n) := by have := nano_rg (se n); unfold u64 sK; omega
theorem ofR_rg (b l : Int) : u64 (ofR b l).lo ∧ u64 (ofR b l).hi := by
  have h := nano_rg b
  unfold ofR
  split
  · unfold u64; simp
  · refine ⟨by unfold u64; dsimp only; omega, ?_⟩
    unfold u64
    dsimp only
    simp only [IntKind.wrap, IntKind.bits, IntKind.signed, Bool.false_and, Bool.false_eq_true, if_false]
    omega
theorem wholeN_idem {n : Int} (h : u64 n) : sK (sK n) = sK n := by
  have h1 := micro_eq h.1 h.2
  have hr := wholeN_rg n
  have h2 := micro_eq hr.1 hr.2
  unfold sK at h2 ⊢
  rw [h2]
  rw [h1]
  rcases Int.lt_or_le 9223372036854775 (n / 1000) with h3 | h3
  · rw [(nano_bad (.inr h3)).1]; exact (nano_ok (by decide) (by decide)).1
  · have h0 : 0 ≤ n / 1000 := by have := h.1; omega
    rw [(nano_ok h0 h3).1, show n / 1000 * 1000 / 1000 = n / 1000 by omega, (nano_ok h0 h3).1]
theorem wholeM_idem {s e : Int} (hs : u64 s) (he : u64 e) : yt ⟨(yt ⟨s, e⟩).lo, (yt ⟨s, e⟩).hi⟩ = yt ⟨s, e⟩ := by
  cases hf : tW s e
  · rw [whole_bad hf]
    rw [ta (s := 0) (e := 0) (by decide) (by decide)]; rfl
  · rw [ta hs.1 hf]
    have h2 := (t8 s e).1 hf
    have h0 := hs.1
    rw [ta (by dsimp only; omega) ((t8 _ _).2 ⟨by dsimp only; omega, by dsimp only; omega⟩)]
    dsimp only
    rw [show s / 1000 * 1000 / 1000 * 1000 = s / 1000 * 1000 by omega, show (s / 1000 * 1000 + (e - s) / 1000 * 1000 - s / 1000 * 1000) / 1000 * 1000 = (e - s) / 1000 * 1000 by omega]
theorem jS (ks : List Int) (l : List GA) : (l.map (yZ ks)).map (yZ ks) = l.map (yZ ks) := by
  rw [List.map_map]; exact List.map_congr_left fun a _ => plainA_idem ks a
theorem keptA_idem (but : List ByteArray) (l : List GA) : xx but (xx but l) = xx but l := by
  unfold xx
  rw [← uT nJ but (l.map (yZ nJ)), jS, tJ]
theorem njE_idem {e : GE} (h : e.ok) : njE (njE e) = njE e := by
  unfold njE; dsimp only
  rw [wholeN_idem h.1, keptA_idem]
theorem njS_idem {s : GSpan} (h : s.ok) : njS (njS s) = njS s := by
  have hw := wholeM_idem h.2.2.1.2.1 h.2.2.1.2.2.1
  refine GSpan.ext' rfl rfl rfl rfl rfl rfl ?_ ?_ ?_ ?_ ?_ rfl rfl
  · show (yt ⟨(yt ⟨s.start, s.fin⟩).lo, (yt ⟨s.start, s.fin⟩).hi⟩).lo = _; rw [hw]; rfl
  · show (yt ⟨(yt ⟨s.start, s.fin⟩).lo, (yt ⟨s.start, s.fin⟩).hi⟩).hi = _; rw [hw]; rfl
  · exact keptA_idem k4 s.attrs
  · show (s.events.map njE).map njE = s.events.map njE
    rw [List.map_map]; exact List.map_congr_left fun e he => njE_idem (h.2.2.2.2.1 e he)
  · show (s.links.map njL).map njL = s.links.map njL
    rw [List.map_map]; rfl
theorem intoA_idem : ∀ (l : List GA) (a : GA), xf (xf l a) a = xf l a
  | [], a => by simp [xf, xT]
  | x :: l, a => by
    by_cases h1 : ltB x.key a.key = true
    · rw [xf, if_pos h1, xf, if_pos h1, intoA_idem l a]
    · by_cases h2 : x.key = a.key
      · rw [xf, if_neg h1, if_pos h2, xf, if_neg (by rw [xT]; decide), if_pos rfl]
      · rw [xf, if_neg h1, if_neg h2, xf, if_neg (by rw [xT]; decide), if_pos rfl]
theorem map_into (ks : List Int) (a : GA) : ∀ l : List GA, (xf l a).map (yZ ks) = xf (l.map (yZ ks)) (yZ ks a)
  | [] => rfl
  | x :: l => by
    rw [xf, List.map_cons, xf, wg, wg]
    split
    · rw [List.map_cons, map_into ks a l]
    · split <;> rfl
theorem sX (k : ByteArray) : ∀ l : List GA, getA (xG [k] l) k = none
  | [] => rfl
  | x :: l => by
    rw [xG]
    split
    · exact sX k l
    · rename_i h
      rw [getA, if_neg (by rintro rfl; simp at h), sX k l]
theorem tR : xA zeroV = ⟨#[]⟩ := by rw [textE (by decide), r6 (by decide)]; rfl
theorem s7 (t : ByteArray) : xA (tv t) = t := by rw [textE (v := tv t) (by rintro (h | h) <;> cases h), re (v := tv t) rfl]; rfl
theorem plainA_tv (k t : ByteArray) : yZ nJ (.mk k (tv t)) = .mk k (tv t) := by unfold yZ; rw [if_neg]; show ¬ (nJ.any fun x => x == (1 : Int)) = true; decide
theorem spansOf_scopeJ (l : List GSpan) : zr (wm l) = l := by
  unfold wm; split
  · simp [zr]
  · rename_i h; have : l = [] := List.eq_nil_of_length_eq_zero (by omega); rw [this]; rfl
theorem sR (l : List GA) : xx [] l = l.map (yZ nJ) := dropA_nil _
theorem rj {l : List GA} (hr : risA none l) (t : ByteArray) : xx [] (yx (xx [] l) t) = yx (xx [] l) t ∧ un (yx (xx [] l) t) skey = t := by
  have hk := ris_kept [] hr
  rw [sR (yx _ _), sR l]
  rw [sR] at hk
  unfold yx
  split
  · rename_i ht
    exact ⟨by rw [← uT, jS], by unfold un; rw [sX, Option.getD_none, tR, ht]⟩
  · exact ⟨by rw [map_into, plainA_tv, jS], by unfold un; rw [getA_into _ _ _ none hk, Option.getD_some, s7]⟩
theorem namedM_idem (l : List GA) (t : ByteArray) : yx (yx l t) t = yx l t := by
  unfold yx; split
  · exact tJ _ _
  · exact intoA_idem _ _
theorem njR_idem {r : GRes} (ho : r.ok) (hr : risA none r.attrs) : njR (njR r) = njR r := by
  have h := rj hr (zu r)
  refine GRes.ext' ?_ ?_
  · show yx (xx [] (yx (xx [] r.attrs) (zu r))) (un (yx (xx [] r.attrs) (zu r)) skey) = yx (xx [] r.attrs) (zu r)
    rw [h.1, h.2, namedM_idem]
  · show wm ((zr (wm ((zr r.scopes).map njS))).map njS) = wm ((zr r.scopes).map njS)
    rw [spansOf_scopeJ, List.map_map]
    congr 1
    refine List.map_congr_left fun s hs => ?_
    obtain ⟨c, hc, hs⟩ := vH hs
    exact njS_idem ((ho.2 c hc).2.2 s hs)
theorem njB_idem {b : List GRes} (ho : okB b) (hr : ∀ r ∈ b, risA none r.attrs) : njB (njB b) = njB b := by
  unfold njB; rw [List.map_map]; exact List.map_congr_left fun r h => njR_idem (ho r h) (hr r h)
theorem njB_ris {b : List GRes} (hr : ∀ r ∈ b, risA none r.attrs) : ∀ r ∈ njB b, risA none r.attrs := fun r h => by
  obtain ⟨x, hx, rfl⟩ := List.mem_map.1 h; exact ris_named (ris_kept [] (hr x hx)) _
theorem e0_ok : (⟨#[]⟩ : ByteArray).size ≤ maxLen := by decide
theorem skey_ok : skey.size ≤ maxLen := by decide
theorem tv_ok {t : ByteArray} (ht : t.size ≤ maxLen) : (tv t).ok := by
  rw [GV.ok_iff]
  exact ⟨by show (0 : Int) ≤ 1 ∧ (1 : Int) < 256; decide, ht, by show (-9223372036854775808 : Int) ≤ 0 ∧ (0 : Int) < 9223372036854775808; decide, by show (0 : Int) ≤ 0 ∧ (0 : Int) < 18446744073709551616; decide, (fun x h => by cases h), (fun x h => by cases h)⟩
theorem keptA_ok (but : List ByteArray) {l : List GA} (ho : ∀ a ∈ l, a.ok) (hw : wtAs l ≤ 1000000) : ∀ a ∈ xx but l, a.ok := fun a h => by
  obtain ⟨x, hx, rfl⟩ := List.mem_map.1 (wB h).1
  exact plainA_ok (ho x hx) (Nat.le_trans (xy hx) hw)
theorem namedM_ok {l : List GA} {t : ByteArray} (ho : ∀ a ∈ l, a.ok) (ht : t.size ≤ maxLen) : ∀ a ∈ yx l t, a.ok := fun a h => by
  unfold yx at h
  split at h
  · exact ho a (wB h).1
  · rcases jW h with rfl | h
    · exact (GA.ok_iff _).2 ⟨skey_ok, tv_ok ht⟩
    · exact ho a h
theorem njE_ok {e : GE} (h : e.ok) (hw : e.wt ≤ 1000000) : (njE e).ok := ⟨wholeN_rg _, h.2.1, keptA_ok _ h.2.2 (by have : e.wt = 1 + e.name.size + wtAs e.attrs := rfl; omega)⟩
theorem njS_ok {s : GSpan} (h : s.ok) (hw : s.wt ≤ 1000000) : (njS s).ok := by
  have qw : s.wt = 1 + s.state.size + s.name.size + s.note.size + wtAs s.attrs + zg GE.wt s.events + zg GL.wt s.links := rfl
  have hr := ofR_rg (BegunM ⟨s.start, s.fin⟩) (LastsM ⟨s.start, s.fin⟩)
  refine ⟨h.1, ⟨e0_ok, h.2.1.2.1, h.2.1.2.2⟩, ⟨h.2.2.1.1, hr.1, hr.2, h.2.2.1.2.2.2⟩, keptA_ok _ h.2.2.2.1 (by omega), fun e he => ?_, fun e he => ?_⟩
  · obtain ⟨x, hx, rfl⟩ := List.mem_map.1 he
    exact njE_ok (h.2.2.2.2.1 x hx) (by have := yP GE.wt hx; omega)
  · obtain ⟨x, hx, rfl⟩ := List.mem_map.1 he
    have := h.2.2.2.2.2 x hx
    exact ⟨this.1, this.2.1, e0_ok, fun a ha => by cases ha⟩
theorem njR_ok {r : GRes} (h : r.ok) (hw : r.wt ≤ 1000000) : (njR r).ok := by
  have qw : r.wt = 1 + wtAs r.attrs + zg GScope.wt r.scopes := rfl
  have hs := ub r
  refine ⟨namedM_ok (keptA_ok _ h.1 (by omega)) (by unfold maxLen; omega), fun c hc => ?_⟩
  have hc : c ∈ wm ((zr r.scopes).map njS) := hc
  unfold wm at hc
  split at hc
  · cases List.mem_singleton.1 hc
    refine ⟨e0_ok, e0_ok, fun x hx => ?_⟩
    obtain ⟨s, hs, rfl⟩ := List.mem_map.1 hx
    obtain ⟨c, hc, hs⟩ := vH hs
    have h1 := yP GScope.wt hc
    have h2 : c.wt = 1 + c.name.size + c.version.size + zg GSpan.wt c.spans := rfl
    have h3 := yP GSpan.wt hs
    exact njS_ok ((h.2 c hc).2.2 s hs) (by omega)
  · cases hc
theorem njB_ok {b : List GRes} (h : okB b) (hw : wtB b ≤ 1000000) : okB (njB b) := fun r hr => by
  obtain ⟨x, hx, rfl⟩ := List.mem_map.1 hr
  exact njR_ok (h x hx) (by have := yP GRes.wt hx; unfold wtB at hw; omega)
theorem xq {α : Type} {f : α → α} {g : α → Nat} (k : Nat) (h : ∀ x, g (f x) ≤ k * g x) : ∀ l : List α, zg g (l.map f) ≤ k * zg g l
  | [] => by simp [zg]
  | x :: l => by simp only [List.map_cons, zg, Nat.mul_add]; have := h x; have := xq k h l; omega
theorem njS_wt (s : GSpan) : (njS s).wt ≤ 151 * s.wt := by
  have h1 := keptA_wt k4 s.attrs
  have h2 := xq (f := njE) (g := GE.wt) 151 (fun e => by
    have q : e.wt = 1 + e.name.size + wtAs e.attrs := rfl
    have q2 : (njE e).wt = 1 + e.name.size + wtAs (xx [tg] e.attrs) := rfl
    have := keptA_wt [tg] e.attrs; omega) s.events
  have h3 := xq (f := njL) (g := GL.wt) 151 (fun e => by
    have q : e.wt = 1 + e.state.size + wtAs e.attrs := rfl
    have q2 : (njL e).wt = 1 := rfl
    omega) s.links
  have q1 : (njS s).wt = 1 + 0 + s.name.size + s.note.size + wtAs (xx k4 s.attrs) + zg GE.wt (s.events.map njE) + zg GL.wt (s.links.map njL) := rfl
  have q2 : s.wt = 1 + s.state.size + s.name.size + s.note.size + wtAs s.attrs + zg GE.wt s.events + zg GL.wt s.links := rfl
  omega
theorem spansOf_wt : ∀ l : List GScope, zg GSpan.wt (zr l) ≤ zg GScope.wt l
  | [] => Nat.le_refl _
  | c :: l => by
    rw [zr, xM, zg]
    have := spansOf_wt l
    have h3 : c.wt = 1 + c.name.size + c.version.size + zg GSpan.wt c.spans := rfl
    omega
theorem namedM_wt (l : List GA) (t : ByteArray) : wtAs (yx l t) ≤ wtAs l + 13 + t.size := by
  unfold yx; split
  · have := dropA_wt [skey] l; omega
  · have h1 := wt_intoA l (.mk skey (tv t))
    have h2 : (GA.mk skey (tv t)).wt = 12 + (1 + t.size + 0 + 0) := by rw [GA.wt_eq, GV.wt_eq]; rfl
    omega
theorem njR_wt (r : GRes) : (njR r).wt ≤ 400 * r.wt := by
  have h1 := namedM_wt (xx [] r.attrs) (zu r)
  have h2 := keptA_wt [] r.attrs
  have h3 := ub r
  have h4 := xq (f := njS) (g := GSpan.wt) 151 njS_wt (zr r.scopes)
  have h5 := spansOf_wt r.scopes
  have q1 : (njR r).wt = 1 + wtAs (yx (xx [] r.attrs) (zu r)) + zg GScope.wt (wm ((zr r.scopes).map njS)) := rfl
  have q2 : r.wt = 1 + wtAs r.attrs + zg GScope.wt r.scopes := rfl
  have h6 : zg GScope.wt (wm ((zr r.scopes).map njS)) ≤ 1 + zg GSpan.wt ((zr r.scopes).map njS) := by
    unfold wm; split
    · simp only [zg, GScope.wt]
      show 1 + 0 + 0 + _ + 0 ≤ _
      omega
    · exact Nat.zero_le _
  omega
theorem njB_wt (b : List GRes) : wtB (njB b) ≤ 400 * wtB b := xq 400 njR_wt b
end Go.Proofs
namespace Go.Proofs
open Go Go.Al
set_option maxRecDepth 10000
set_option maxHeartbeats 4000000 in
theorem njB_c (b : List GRes) (ho : okB b) (hw : wtB b ≤ 9000000) (hr : ∀ r ∈ b, risA none r.attrs) : zn Tryz.prog Γ0 42 [ya b] [ya (njB b)] := by
  have ql := yX GRes.wt (fun e => by unfold GRes.wt; omega) b
  have qw : wtB b = zg GRes.wt b := rfl
  refine z_ Tryz.func42 rfl Tryz.ntmps42 (by kernel_rfl) rfl fun w0 I0 G0 => ?_
  refine zD <| zB <| g_uG (zk 1001 rfl rfl rfl rfl) rfl <| g_uG (zy 1002 rfl rfl rfl tZ24) rfl <| zH <| zA <| zD <| zB <| g_uG (zy 1003 rfl rfl rfl tZ24) rfl <| zH <| zA <| zD <| zD <| vQ 3099 1003 2 0 rfl rfl rfl rfl rfl rfl rfl <| zB <| g_u (zF rfl rfl uC rfl) <| g_u (zG rfl rfl rfl tA22 tS22 rfl rfl) <| g_u (z7 rfl rfl Tryz.underlying22) <| g_u (zC rfl rfl) <| zH <| zA <| zU ?_
  refine zw (fun i : Nat => [(2, .ptr 1002 0), (1002, .box 24 (.imm z24)), (3, .ptr 1003 0), (1003, .box 24 (.agg [.slg 3099 2 ((b.take i).map fun r => (njR r).av)])), (3099, .tok 2 ((b.take i).map fun r => (njR r).av)), (7, .imm (.sl 2 (b.map GRes.av))), (8, .imm (iv (b.length : Int))), (9, .imm (iv (i : Int)))]) (fun i => i ≤ b.length) (fun i => b.length - i) (0) ?_ ⟨rfl, rfl, rfl, rfl, rfl, rfl, zX rfl (by rw [List.length_map]), rfl, trivial⟩ ?_
  · exact Nat.zero_le _
  · rintro i h1; have h1 : i ≤ b.length := h1
    refine zD <| zB <| g_u (ye rfl rfl rfl) <| zH <| zA <| zD ?_
    refine zN rfl (fun hb1 => ?_) (fun hb1 => ?_)
    · have hi : i < b.length := by have := of_decide_eq_true hb1; (try simp only [List.length_map] at this); omega
      have hrx := yP GRes.wt (w_ hi)
      have hro := ho _ (w_ hi)
      have hrr := hr _ (w_ hi)
      refine zQ <| zA <| zD <| zU <| zD <| zB ?_
      refine g_u (zR rfl rfl rfl Tryz.underlying22 tS47 (by omega) (ixR hi)) ?_
      refine g_u (zd rfl rfl tA47 tS47 rfl rfl) <| g_uG (zy 1005 rfl rfl rfl tZ47) rfl <| g_u (zV rfl rfl rfl tS47 rfl rfl) <| zH <| zA <| y_ xR <| g_u (zF rfl rfl uC rfl) <| g_u (xj rfl rfl rfl tA22 tS22 rfl rfl) <| g_u (yC rfl rfl rfl tA47 tS47 rfl rfl) ?_
      refine g_u (zP (njR_c (nthR b i) hro (by omega) hrr) rfl rfl) ?_
      refine g_u (zl (X0 := z47) rfl Tryz.underlying22 tS47 tZ47 rfl rfl rfl rfl rfl rfl rfl rfl) ?_
      refine g_u (yh rfl rfl rfl rfl rfl Tryz.underlying22 Tryz.underlying22 tS47 zv47 rfl (by decide) by47 (by (try dsimp only); simp only [List.length_append, List.length_cons, List.length_nil, List.length_map, List.length_take, List.length_drop]; omega) (by (try dsimp only); simp only [List.length_append, List.length_cons, List.length_nil, List.length_map, List.length_take, List.length_drop]; omega)) ?_
      refine g_u (zF rfl rfl uC rfl) <| g_u (tC rfl rfl rfl rfl tS22 rfl rfl) ?_
      refine zH ⟨by kernel_rfl, ?_⟩
      refine zW <| zA <| zB <| g_u (z0 rfl rfl rfl) <| g_u (zC rfl rfl) <| zH <| zA ?_
      have et : ((b.take (i + 1)).map fun r => (njR r).av) = ((b.take i).map fun r => (njR r).av) ++ [(njR (nthR b i)).av] := by rw [yO (y6 (d := gr0) hi), List.map_append]; rfl
      refine ⟨i + 1, hi, ⟨rfl, rfl, rfl, (by rw [et]; rfl), yf rfl et.symm, rfl, rfl, zX rfl (by rw [zO (by omega) (by omega)]; rfl), trivial⟩, by (try dsimp only); omega⟩
    · have hin : i = b.length := by have := of_decide_eq_false hb1; (try simp only [List.length_map] at this); omega
      refine zz <| zT <| zT <| zq <| zA <| zD <| zB <| g_u (yC rfl rfl rfl tA24 tS24 rfl rfl) <| g_u (zV rfl rfl rfl tS24 rfl rfl) <| zH <| zA <| zL ?_
      exact ⟨⟨_, _, _, _, _, _, _, rfl, rfl, tA24, tS24, rfl, rfl, (rfl : toAV _ = some _).trans (congrArg some (by (rw [hin, List.take_length]; show AV.agg [.sl 2 _] = AV.agg [.sl 2 ((b.map njR).map GRes.av)]; rw [List.map_map]; rfl)))⟩, trivial⟩
theorem plR_len : ∀ (i : Nat) (l : List GRes), (plR i l).length ≤ zg GRes.wt l
  | _, [] => Nat.le_refl _
  | i, r :: l => by
    rw [plR, List.length_append, plC_len, zg]
    have h1 := plR_len (i + 1) l
    have h2 := ti r.scopes
    have h3 : r.wt = 1 + wtAs r.attrs + zg GScope.wt r.scopes := rfl
    omega
def p00 : Nat × Nat × Nat := (0, 0, 0)
def nthP (l : List (Nat × Nat × Nat)) (i : Nat) : Nat × Nat × Nat := nth l i p00
theorem ixP {l : List (Nat × Nat × Nat)} {i : Nat} (h : i < l.length) : (l.map plav)[((i : Nat) : Int).toNat]? = some (plav (nthP l i)) := wq (d := p00) h
theorem nthP_mem {l : List (Nat × Nat × Nat)} {i : Nat} (h : i < l.length) : nthP l i ∈ l := tz h
set_option maxHeartbeats 2000000 in
theorem places_c (b : List GRes) (hw : wtB b ≤ 9000000) : zn Tryz.prog Γ0 26 [ya b] [.sl 3 ((plR 0 b).map plav)] := by
  have ql := yX GRes.wt (fun e => by unfold GRes.wt; omega) b
  have qw : wtB b = zg GRes.wt b := rfl
  refine z_ Tryz.func26 rfl Tryz.ntmps26 (by kernel_rfl) rfl fun w0 I0 G0 => ?_
  refine zD <| zB <| g_uG (zk 1001 rfl rfl rfl rfl) rfl <| g_u (zE rfl rfl) <| zH <| zA <| zD <| zB <| g_u (zE rfl rfl) <| zH <| zA <| zD <| zD <| um 3003 3 3 rfl rfl rfl rfl <| zB <| g_u (zE rfl rfl) <| zH <| zA <| zU ?_
  refine zw (fun i : Nat => [(1, .ptr 1001 0), (1001, .box 24 (.imm (ya b))), (3, .slg 3003 3 (((plR 0 (b.take i))).map plav)), (3003, .tok 3 (((plR 0 (b.take i))).map plav)), (4, .imm (iv (i : Int)))]) (fun i => i ≤ b.length) (fun i => b.length - i) (0) ?_ ⟨rfl, rfl, rfl, rfl, rfl, trivial⟩ ?_
  · exact Nat.zero_le _
  · rintro i h1; have h1 : i ≤ b.length := h1
    refine zD <| zD <| zB <| g_u (zC rfl rfl) <| g_u (zF rfl rfl uC rfl) <| g_u (zG rfl rfl rfl tA22 tS22 rfl rfl) <| g_u (z7 rfl rfl Tryz.underlying22) <| g_u (ye rfl rfl rfl) <| zH <| zA ?_
    refine zN rfl (fun hb1 => ?_) (fun hb1 => ?_)
    · have hi : i < b.length := by have := of_decide_eq_true hb1; (try simp only [List.length_map] at this); omega
      have hrx := yP GRes.wt (w_ hi)
      have hrq : (nthR b i).wt = 1 + wtAs (nthR b i).attrs + zg GScope.wt (nthR b i).scopes := rfl
      have hcl := yX GScope.wt (fun e => by unfold GScope.wt; omega) (nthR b i).scopes
      have hl1 : (plR 0 (b.take i)).length ≤ 9000000 := by have h1 := plR_len 0 (b.take i); have h2 := wZ GRes.wt b i; omega
      refine zQ <| zA <| zD <| zU <| zD <| zB <| g_u (zE rfl rfl) <| zH <| zA <| zU ?_
      refine zw (fun k : Nat => [(1, .ptr 1001 0), (1001, .box 24 (.imm (ya b))), (3, .slg 3003 3 (((plR 0 (b.take i)) ++ (plC i 0 ((nthR b i).scopes.take k))).map plav)), (3003, .tok 3 (((plR 0 (b.take i)) ++ (plC i 0 ((nthR b i).scopes.take k))).map plav)), (4, .imm (iv (i : Int))), (5, .imm (iv (k : Int)))]) (fun k => k ≤ (nthR b i).scopes.length) (fun k => (nthR b i).scopes.length - k) (0) ?_ ⟨rfl, rfl, yl rfl (by simp [plC]), yf rfl (by simp [plC]), rfl, rfl, trivial⟩ ?_
      · exact Nat.zero_le _
      · rintro k g1; have g1 : k ≤ (nthR b i).scopes.length := g1
        refine zD <| zD <| zB <| g_u (zC rfl rfl) <| g_u (zF rfl rfl uC rfl) <| g_u (zG rfl rfl rfl tA22 tS22 rfl rfl) <| g_u (zC rfl rfl) ?_
        refine g_u (zR rfl rfl rfl Tryz.underlying22 tS47 (by omega) (ixR hi)) ?_
        refine g_u (zf rfl rfl wj rfl rfl) <| g_u (zd rfl rfl tA45 tS45 rfl rfl) <| g_u (z7 rfl rfl Tryz.underlying45) <| g_u (ye rfl rfl rfl) <| zH <| zA ?_
        refine zN rfl (fun hb2 => ?_) (fun hb2 => ?_)
        · have hk : k < (nthR b i).scopes.length := by have := of_decide_eq_true hb2; (try simp only [List.length_map] at this); omega
          have hcx := yP GScope.wt (vy hk)
          have hcq : (nthC (nthR b i).scopes k).wt = 1 + (nthC (nthR b i).scopes k).name.size + (nthC (nthR b i).scopes k).version.size + zg GSpan.wt (nthC (nthR b i).scopes k).spans := rfl
          have hsl := yX GSpan.wt (fun e => by unfold GSpan.wt; omega) (nthC (nthR b i).scopes k).spans
          have hl2 : (plC i 0 ((nthR b i).scopes.take k)).length ≤ 9000000 := by have h1 := plC_len i 0 ((nthR b i).scopes.take k); have h2 := ti ((nthR b i).scopes.take k); have h3 := wZ GScope.wt (nthR b i).scopes k; omega
          refine zQ <| zA <| zD <| zU <| zD <| zB <| g_u (zE rfl rfl) <| zH <| zA <| zU ?_
          refine zw (fun m : Nat => [(1, .ptr 1001 0), (1001, .box 24 (.imm (ya b))), (3, .slg 3003 3 (((plR 0 (b.take i)) ++ (plC i 0 ((nthR b i).scopes.take k)) ++ ((List.range m).map fun m => (i, k, m))).map plav)), (3003, .tok 3 (((plR 0 (b.take i)) ++ (plC i 0 ((nthR b i).scopes.take k)) ++ ((List.range m).map fun m => (i, k, m))).map plav)), (4, .imm (iv (i : Int))), (5, .imm (iv (k : Int))), (6, .imm (iv (m : Int)))]) (fun m => m ≤ (nthC (nthR b i).scopes k).spans.length) (fun m => (nthC (nthR b i).scopes k).spans.length - m) (0) ?_ ⟨rfl, rfl, yl rfl (by simp), yf rfl (by simp), rfl, rfl, rfl, trivial⟩ ?_
          · exact Nat.zero_le _
          · rintro m f1; have f1 : m ≤ (nthC (nthR b i).scopes k).spans.length := f1
            refine zD <| zD <| zB <| g_u (zC rfl rfl) <| g_u (zF rfl rfl uC rfl) <| g_u (zG rfl rfl rfl tA22 tS22 rfl rfl) <| g_u (zC rfl rfl) ?_
            refine g_u (zR rfl rfl rfl Tryz.underlying22 tS47 (by omega) (ixR hi)) ?_
            refine g_u (zf rfl rfl wj rfl rfl) <| g_u (zd rfl rfl tA45 tS45 rfl rfl) <| g_u (zC rfl rfl) ?_
            refine g_u (zR rfl rfl rfl Tryz.underlying45 tS51 (by omega) (ixC hk)) ?_
            refine g_u (zf rfl rfl uM rfl rfl) <| g_u (zd rfl rfl tA49 tS49 rfl rfl) <| g_u (z7 rfl rfl Tryz.underlying49) <| g_u (ye rfl rfl rfl) <| zH <| zA ?_
            refine zN rfl (fun hb3 => ?_) (fun hb3 => ?_)
            · have hm : m < (nthC (nthR b i).scopes k).spans.length := by have := of_decide_eq_true hb3; (try simp only [List.length_map] at this); omega
              refine zQ <| zA <| zD <| zU <| zB <| g_u (yW rfl rfl) <| g_u (zC rfl rfl) <| g_u (zC rfl rfl) <| g_u (zC rfl rfl) <| g_u (yj rfl tU98 us98 pl98 rfl rfl rfl rfl) <| g_u (zl (X0 := z98) rfl Tryz.underlying66 tS98 tZ98 rfl rfl rfl rfl rfl rfl rfl rfl) ?_
              refine g_u (yh rfl rfl rfl rfl rfl Tryz.underlying66 Tryz.underlying66 tS98 zv98 rfl (by decide) by98 (by (try dsimp only); simp only [List.length_append, List.length_cons, List.length_nil, List.length_map, List.length_range]; omega) (by (try dsimp only); simp only [List.length_append, List.length_cons, List.length_nil, List.length_map, List.length_range]; omega)) ?_
              refine g_u (yY rfl rfl) <| zH <| zW <| zA <| zB <| g_u (zC rfl rfl) <| g_u (z0 rfl rfl rfl) <| g_u (zE rfl rfl) <| zH <| zA ?_
              have et : (((plR 0 (b.take i)) ++ (plC i 0 ((nthR b i).scopes.take k)) ++ ((List.range (m + 1)).map fun m => (i, k, m))).map plav) = (((plR 0 (b.take i)) ++ (plC i 0 ((nthR b i).scopes.take k)) ++ ((List.range m).map fun m => (i, k, m))).map plav) ++ [plav (i, k, m)] := by rw [range_snoc, ← List.append_assoc, List.map_append]; rfl
              refine ⟨m + 1, hm, ⟨rfl, rfl, yl rfl et.symm, yf rfl et.symm, rfl, rfl, zX rfl (by rw [zO (by omega) (by omega)]; rfl), trivial⟩, by (try dsimp only); omega⟩
            · have hmn : m = (nthC (nthR b i).scopes k).spans.length := by have := of_decide_eq_false hb3; (try simp only [List.length_map] at this); omega
              refine zz <| zT <| zT <| zq <| zW <| zA <| zB <| g_u (zC rfl rfl) <| g_u (z0 rfl rfl rfl) <| g_u (zE rfl rfl) <| zH <| zA ?_
              have et : (((plR 0 (b.take i)) ++ (plC i 0 ((nthR b i).scopes.take (k + 1)))).map plav) = (((plR 0 (b.take i)) ++ (plC i 0 ((nthR b i).scopes.take k)) ++ ((List.range m).map fun m => (i, k, m))).map plav) := by rw [plC_take hk, hmn, List.append_assoc]
              refine ⟨k + 1, hk, ⟨rfl, rfl, yl rfl et.symm, yf rfl et.symm, rfl, zX rfl (by rw [zO (by omega) (by omega)]; rfl), trivial⟩, by (try dsimp only); omega⟩
        · have hkn : k = (nthR b i).scopes.length := by have := of_decide_eq_false hb2; (try simp only [List.length_map] at this); omega
          refine zz <| zT <| zT <| zq <| zW <| zA <| zB <| g_u (zC rfl rfl) <| g_u (z0 rfl rfl rfl) <| g_u (zE rfl rfl) <| zH <| zA ?_
          have et : ((plR 0 (b.take (i + 1))).map plav) = (((plR 0 (b.take i)) ++ (plC i 0 ((nthR b i).scopes.take k))).map plav) := by rw [plR_take hi, hkn, List.take_length]
          refine ⟨i + 1, hi, ⟨rfl, rfl, yl rfl et.symm, yf rfl et.symm, zX rfl (by rw [zO (by omega) (by omega)]; rfl), trivial⟩, by (try dsimp only); omega⟩
    · have hin : i = b.length := by have := of_decide_eq_false hb1; (try simp only [List.length_map] at this); omega
      refine zz <| zT <| zT <| zq <| zA <| zD <| zB <| g_u (yW rfl rfl) <| g_u (yY rfl rfl) <| zH <| zA <| zL ?_
      exact ⟨⟨(rfl : toAV (Al.look _ _) = some _).trans (congrArg some (by (rw [hin, List.take_length]))), rfl⟩, trivial⟩
end Go.Proofs
namespace Go.Proofs
open Go Go.Al
set_option maxRecDepth 10000
theorem eq54 (a b : List UInt8) : eqV Tryz.prog 100 54 (.arr 16 a) (.arr 16 b) = some (a == b) := by kernel_rfl
theorem eq56 (a b : List UInt8) : eqV Tryz.prog 100 56 (.arr 8 a) (.arr 8 b) = some (a == b) := by kernel_rfl
theorem eq61 (c d : Int) (m n : ByteArray) : eqV Tryz.prog 100 61 (.agg [iv c, sv m]) (.agg [iv d, sv n]) = some ((c == d) && ((m.toList == n.toList) && true)) := by kernel_rfl
end Go.Proofs
namespace Go.Al
open Go.RowKit
theorem up_bytes {l : List UInt8} {n : Nat} (h : l.length = n) : Up (.agg (zx l)) (.arr n l) := by
  have hw : ∀ x ∈ zx l, x.width = 1 := W1.bytes l
  refine ⟨rfl, ?_, fun w I c r => ?_⟩
  · have key : ∀ l : List UInt8, AV.widths (zx l) = l.length := by
      intro l
      induction l with
      | nil => rfl
      | cons b l ih => simp only [zx, List.map_cons, AV.widths, List.length_cons] at ih ⊢; rw [ih]; simp only [AV.width, wr, Value.cells]; show 1 + _ = _; omega
    show n = AV.widths (zx l)
    rw [key, h]
  · simp only [RepC] at r ⊢
    exact ⟨tB l c ((tA (n := 1) hw).1 r), h⟩
end Go.Al
namespace Go.Proofs
open Go Go.Al
set_option maxRecDepth 10000
theorem tV54 : yu Tryz.prog 54 (.agg (List.replicate 16 (.v (.int .u8 0)))) := ⟨.agg #[.int .u8 0, .int .u8 0, .int .u8 0, .int .u8 0, .int .u8 0, .int .u8 0, .int .u8 0, .int .u8 0, .int .u8 0, .int .u8 0, .int .u8 0, .int .u8 0, .int .u8 0, .int .u8 0, .int .u8 0, .int .u8 0], by kernel_rfl, by kernel_rfl⟩
theorem tV56 : yu Tryz.prog 56 (.agg (List.replicate 8 (.v (.int .u8 0)))) := ⟨.agg #[.int .u8 0, .int .u8 0, .int .u8 0, .int .u8 0, .int .u8 0, .int .u8 0, .int .u8 0, .int .u8 0], by kernel_rfl, by kernel_rfl⟩
end Go.Proofs
namespace Go.Al
open Go.RowKit
theorem SimG.turnOG {C : Cx} {A : Nat → SV} {G : Gh} {a : Act} {w : World} (S : SimG C A G a w) {g : Nat} {X' : SV} {o' : Obj}
    (how : Owned C.w0 C.E w (G.blk g)) (hni : ∀ o, ¬ G.I (G.blk g) o) (hown : zm G g (G.blk g) (A g)) (hown' : ∀ b, zm G g b X' → G.blk g = b)
    (hnew : Le w G.I (yR w (G.blk g) o') G.I → Holds C.w0 C.E G a (yR w (G.blk g) o') g X') :
    SimG C (upd A [(g, X')]) G a (yR w (G.blk g) o') := by
  have hlt : G.blk g < w.heap.size := how.2
  have hle : Le w G.I (yR w (G.blk g) o') G.I := fun b o h => ⟨h, by
    have : b ≠ G.blk g := by rintro rfl; exact hni o h
    exact y7 (xJ this)⟩
  have hu : ∀ k, upd A [(g, X')] k = if k = g then X' else A k := wO A g X'
  have conv : ∀ k b, zm G k b (upd A [(g, X')] k) → zm G k b (A k) := by
    intro k b h
    rw [hu] at h
    split at h
    · rename_i hk; subst hk; have := hown' b h; rw [← this]; exact hown
    · exact h
  refine ⟨S.os, S.tape, S.output, by rw [yT]; exact S.size, fun k h1 h2 => ?_, S.sub.trans hle, S.rel, S.glob.mono hle, S.new, fun b o h => by rw [yT]; exact S.val b o h, S.nts, S.dfs, fun k => ?_, fun k j b hkj h1 h2 => S.apart k j b hkj (conv k b h1) (conv j b h2)⟩
  · have : k ≠ G.blk g := by
      rintro rfl
      rcases how.1 with h | h
      · omega
      · exact h2 h
    rw [xJ this]; exact S.block k h1 h2
  · rw [hu]
    split
    · rename_i hk; subst hk; exact hnew hle
    · rename_i hk
      refine (S.holds k).keep hle (GRel.refl G) (xa.1 _) (by rw [yT]; exact Nat.le_refl _) (fun h => ⟨h, rfl⟩) (fun _ => ⟨rfl, rfl, rfl⟩) (fun b hb => ⟨?_, fun _ h => h⟩)
      have : b ≠ G.blk g := by
        rintro rfl
        exact S.apart k g (G.blk g) hk hb hown
      exact xJ this
theorem SimG.turnO {C : Cx} {A : Nat → SV} {G : Gh} {a : Act} {w : World} (S : SimG C A G a w) {g : Nat} {X' : SV} {o' : Obj}
    (how : Owned C.w0 C.E w (G.blk g)) (hni : ∀ o, ¬ G.I (G.blk g) o) (hown : zm G g (G.blk g) (A g)) (hown' : ∀ b, zm G g b X' → G.blk g = b)
    (hnew : Le w G.I (yR w (G.blk g) o') G.I → Holds C.w0 C.E G a (yR w (G.blk g) o') g X') :
    Sim C (upd A [(g, X')]) a (yR w (G.blk g) o') := ⟨G, S.turnOG how hni hown hown' hnew⟩
def uH : List ByteArray → ByteArray → Nat → Option Nat
  | [], _, _ => none
  | x :: xs, s, i => if s = x then some i else uH xs s (i + 1)
def strs (l : List ByteArray) : List AV := l.map fun s => .v (.string s)
def mputK (l : List ByteArray) (s : ByteArray) : List ByteArray := match uH l s 0 with | some _ => l | none => l ++ [s]
def mputV (l : List ByteArray) (vs : List AV) (s : ByteArray) (v : AV) : List AV := match uH l s 0 with | some i => vs.set i v | none => vs ++ [v]
theorem rM : ∀ {l : List ByteArray} {s : ByteArray} {i j : Nat}, uH l s i = some j → i ≤ j ∧ j < i + l.length
  | x :: xs, s, i, j, h => by
    rw [uH] at h
    split at h
    · cases h; simp
    · have := rM h; simp; omega
theorem mfind_get : ∀ {l : List ByteArray} {s : ByteArray} {i j : Nat}, uH l s i = some j → l[j - i]? = some s
  | x :: xs, s, i, j, h => by
    rw [uH] at h
    split at h
    · rename_i hs; cases h; simp [hs]
    · have h1 := rM h
      have h2 := mfind_get h
      rw [show j - i = (j - (i + 1)) + 1 by omega, List.getElem?_cons_succ]; exact h2
theorem s8 {w : World} {I : Nat → Nat → Prop} : ∀ {l : List ByteArray} {vs : List Value}, yc w I (strs l) vs → vs = l.map Value.string
  | [], vs, h => by simpa [strs, yc] using h
  | x :: xs, vs, h => by
    simp only [strs, List.map_cons, yc] at h
    obtain ⟨c, r, rfl, h1, h2⟩ := h
    simp only [RepC] at h1
    rw [s8 (l := xs) h2, h1.1]
    simp [mkV, AV.isAgg, Value.cells]
theorem ba_beq (a b : ByteArray) : (a == b) = decide (a = b) := by
  rcases a with ⟨a⟩; rcases b with ⟨b⟩
  show (a == b) = _
  rw [Bool.eq_iff_iff]; simp
theorem findNow_str : ∀ (es : List MapEntry) (l : List ByteArray) (s : ByteArray) (i : Nat), es.map (·.key) = l.map Value.string →
    Instr.findNow .string (.string s) es i = some ((uH l s i).bind fun j => (es[j - i]?).map fun e => (j, e.val))
  | [], l, s, i, h => by
    cases l with
    | nil => rfl
    | cons x l => simp at h
  | e :: es, l, s, i, h => by
    cases l with
    | nil => simp at h
    | cons x l =>
      simp only [List.map_cons, List.cons.injEq] at h
      simp only [Instr.findNow, h.1, Instr.sameNow]
      by_cases hs : s = x
      · subst hs
        simp [uH, ba_beq]
      · have : (s == x) = false := by rw [ba_beq]; simpa using hs
        rw [this]
        simp only
        rw [findNow_str es l s (i + 1) h.2, uH, if_neg hs]
        cases hm : uH l s (i + 1) with
        | none => rfl
        | some j =>
          have := rM hm
          simp only [Option.bind_some]
          rw [show j - i = (j - (i + 1)) + 1 by omega, List.getElem?_cons_succ]
theorem uz {P : Program} {kt : TypeId} {s : ByteArray} (h : P.underlying kt = some .string) (b : Bool) (n : Nat) (w : World) : (Instr.checkKey b (n + 1) kt (.string s)).run P w = .ok () w := by
  simp only [Instr.checkKey, Sem.run_bind, za h, Result.andThen_ok, Sem.run_pure]
theorem rY {P : Program} {kt : TypeId} {s : ByteArray} (h : P.underlying kt = some .string) {es : List MapEntry} {l : List ByteArray} (he : es.map (·.key) = l.map Value.string) (w : World) :
    (Instr.findKey kt (.string s) es).run P w = .ok ((uH l s 0).bind fun j => (es[j]?).map fun e => (j, e.val)) w := by
  have := findNow_str es l s 0 he
  simp only [Nat.sub_zero] at this
  simp only [Instr.findKey, Sem.run_bind, za h, Result.andThen_ok, this, Sem.run_pure]
theorem run_getMap {P : Program} {w : World} {r : Nat} {es : Array MapEntry} {ck : Nat} (h : w.heap[r]? = some (.map es ck)) : (getObj r).run P w = .ok (.map es ck) w := by simp [getObj, Sem.run, h]
theorem run_setMap {P : Program} {w : World} {r : Nat} {es : Array MapEntry} {ck : Nat} {o' : Obj} (h : w.heap[r]? = some (.map es ck)) : (setObj r o').run P w = .ok () (yR w r o') := by simp [setObj, Sem.run, h, yR]
section
variable {C : Cx} {A : Nat → SV} {d : Nat} {ty : TypeId} {pos : String} {af : Array Edge} {gd : Option (Nat × Bool)} {x y z : Operand} {T T' : TypeId}
theorem s_makeMap (g : Nat) (hgN : Nat.ble C.N g = true) (hgK : Nat.blt g C.K = true) (hN : Nat.blt d C.N = true) :
    zv C ⟨some d, .makeMap T none, ty, pos, af, gd⟩ [] [g] A [(g, .mpr [] []), (d, .mref g)] := by
  intro A' a w hR hF ⟨G, S⟩
  have hN' : d < C.N := by simpa [Nat.blt_eq] using hN
  have hgd : g ≠ d := by have := Nat.le_of_ble_eq_true hgN; omega
  unfold Oper.wp
  have hrun : (execOp a.eval ⟨some d, .makeMap T none, ty, pos, af, gd⟩).run C.P w = .ok (.value (.map (some w.heap.size))) (w.alloc (.map #[] 0)) := by
    simp only [execOp, Option.map_none, Instr.makeMap, Sem.run_bind, Sem.run_pure, Result.andThen_ok, run_newObj]
    rfl
  rw [hrun, Oper.upon_value]
  refine S.allocO hgd (by simpa [Nat.blt_eq] using hgK) hN' (fun _ _ h => by simpa only [zm] using h) (fun G' e _ hg hle hni => ?_) (fun G' e => ?_) (fun k hk => hF k hk)
  · simp only [Holds]
    refine ⟨⟨.inl (by rw [e]; exact S.size), by rw [e]; simp⟩, ⟨#[], by rw [e]; exact jO, fun i h => by simp at h, by simp [yc], by simp [yc]⟩, fun o => ?_⟩
    rw [e]; exact hni o
  · exact ⟨[.map (some w.heap.size)], by simp [RepS, e], by simp [mkS, SV.isAgg]⟩
theorem repVs_set {w : World} {I : Nat → Nat → Prop} : ∀ {xs : List AV} {vs : List Value} {i : Nat} {y : AV} {v : Value}, yc w I xs vs → Rep w I y v → yc w I (xs.set i y) (vs.set i v)
  | [], vs, i, y, v, h, _ => by
    simp only [yc] at h; subst h; simp [yc]
  | x :: xs, vs, 0, y, v, h, k => by
    simp only [yc] at h
    obtain ⟨c, r, rfl, h1, h2⟩ := h
    obtain ⟨c', k1, k2⟩ := k
    simp only [List.set_cons_zero, yc]
    exact ⟨c', r, by rw [k2], k1, h2⟩
  | x :: xs, vs, i + 1, y, v, h, k => by
    simp only [yc] at h
    obtain ⟨c, r, rfl, h1, h2⟩ := h
    simp only [List.set_cons_succ, yc]
    exact ⟨c, _, rfl, h1, repVs_set h2 k⟩
theorem s_mapUpdate {g : Nat} {kt vt : TypeId} {l : List ByteArray} {vs : List AV} {s : ByteArray} {v : AV} (hx : opS A x = .mref g) (hg : A g = .mpr (strs l) vs) (hy : opV A y = some (.v (.string s))) (hz : opV A z = some v)
    (hT : C.P.underlying T = some (.map kt vt)) (hk : C.P.underlying kt = some .string) :
    zv C ⟨none, .mapUpdate T x y z, ty, pos, af, gd⟩ (g :: (opR x ++ (opR y ++ opR z))) [] A [(g, .mpr (strs (mputK l s)) (mputV l vs s v))] := by
  intro A' a w hR hF ⟨G, S⟩
  have hgA : A' g = .mpr (strs l) vs := (hR g List.mem_cons_self).trans hg
  obtain ⟨c, hc1, hc2⟩ := S.opS ((yd (fun k hk => hR k (List.mem_cons_of_mem _ (List.mem_append_left _ hk)))).trans hx) rfl
  simp only [RepS] at hc1
  have hev : a.eval x = .map (some (G.blk g)) := by rw [hc2, hc1]; rfl
  rw [← yU (fun k hk => hR k (List.mem_cons_of_mem _ (List.mem_append_right _ (List.mem_append_left _ hk))))] at hy
  rw [← yU (fun k hk => hR k (List.mem_cons_of_mem _ (List.mem_append_right _ (List.mem_append_right _ hk))))] at hz
  have hys := xk (S.opV hy)
  have hzv := S.opV hz
  have hb := S.holds g
  rw [hgA] at hb
  simp only [Holds] at hb
  obtain ⟨how, ⟨es, h1, h2, h3, h4⟩, hni⟩ := hb
  have hkeys : es.toList.map (·.key) = l.map Value.string := s8 h3
  have hlen : es.size = l.length := by have := congrArg List.length hkeys; simpa using this
  have hfind := rY (P := C.P) (s := s) hk hkeys w
  have hobj := run_getMap (P := C.P) h1
  unfold Oper.wp
  cases hm : uH l s 0 with
  | some i =>
    have hi := rM hm
    have hie : i < es.size := by omega
    have hkey : es[i].key = .string s := by
      have hk2 : (es.toList.map (·.key))[i]? = (l.map Value.string)[i]? := by rw [hkeys]
      have hsl : l[i]? = some s := by
        have := mfind_get hm
        simpa using this
      simp only [List.getElem?_map, hsl, Option.map_some] at hk2
      rw [Array.getElem?_toList, Array.getElem?_eq_getElem hie] at hk2
      simpa using hk2
    have hrun : (execOp a.eval ⟨none, .mapUpdate T x y z, ty, pos, af, gd⟩).run C.P w = .ok .skip (yR w (G.blk g) (.map (es.modify i fun e => { e with key := .string s, val := a.eval z }) es.size)) := by
      have e1 : (es[i]?).map (·.key) = some (.string s) := by rw [Array.getElem?_eq_getElem hie]; simp [hkey]
      have e2 : (es.toList[i]?).map (fun e => (i, e.val)) = some (i, es[i].val) := by rw [Array.getElem?_toList, Array.getElem?_eq_getElem hie]; rfl
      have e3 : Instr.sameBits 10000 (.string s) (.string s) = true := by simp [Instr.sameBits, ba_beq]
      simp only [execOp, Instr.mapUpdate, Sem.run_bind, za hT, Result.andThen_ok, hev, hobj, hys, uz hk, hfind, hm, Option.bind_some, e2, e1, Option.getD_some, Instr.keyThatStays, e3, if_true, Sem.run_pure, run_setMap h1]
    rw [hrun, Oper.upon_skip]
    have hmp : mputK l s = l ∧ mputV l vs s v = vs.set i v := by unfold mputK mputV; rw [hm]; exact ⟨rfl, rfl⟩
    rw [hmp.1, hmp.2]
    refine S.turnO how hni (by rw [hgA]; simp [zm]) (fun b h => by simpa only [zm] using h) fun hle => ?_
    simp only [Holds]
    refine ⟨⟨how.1, by rw [yT]; exact how.2⟩, ⟨es.modify i fun e => { e with key := .string s, val := a.eval z }, by rw [wI how.2]; simp, fun j hj => ?_, ?_, ?_⟩, hni⟩
    · simp only [Array.getElem_modify]
      split
      · exact h2 j (by simpa using hj)
      · exact h2 j (by simpa using hj)
    · have : ((es.modify i fun e => { e with key := .string s, val := a.eval z }).toList.map (·.key)) = es.toList.map (·.key) := by
        refine List.ext_getElem (by simp) fun j h5 h6 => ?_
        simp only [List.getElem_map, Array.getElem_toList, Array.getElem_modify]
        split
        · rename_i hij; subst hij; rw [hkey]
        · rfl
      rw [this]; exact yc.mono hle _ _ h3
    · have : ((es.modify i fun e => { e with key := .string s, val := a.eval z }).toList.map (·.val)) = (es.toList.map (·.val)).set i (a.eval z) := by
        refine List.ext_getElem (by simp) fun j h5 h6 => ?_
        simp only [List.getElem_map, Array.getElem_toList, Array.getElem_modify, List.getElem_set]
        split <;> rfl
      rw [this]; exact repVs_set (yc.mono hle _ _ h4) (hzv.mono hle)
  | none =>
    have hrun : (execOp a.eval ⟨none, .mapUpdate T x y z, ty, pos, af, gd⟩).run C.P w = .ok .skip (yR w (G.blk g) (.map (es.push { key := .string s, val := a.eval z, born := es.size }) (es.size + 1))) := by
      simp only [execOp, Instr.mapUpdate, Sem.run_bind, za hT, Result.andThen_ok, hev, hobj, hys, uz hk, hfind, hm, Option.bind_none, Sem.run_pure, run_setMap h1]
    rw [hrun, Oper.upon_skip]
    have hmp : mputK l s = l ++ [s] ∧ mputV l vs s v = vs ++ [v] := by unfold mputK mputV; rw [hm]; exact ⟨rfl, rfl⟩
    rw [hmp.1, hmp.2]
    refine S.turnO how hni (by rw [hgA]; simp [zm]) (fun b h => by simpa only [zm] using h) fun hle => ?_
    simp only [Holds]
    refine ⟨⟨how.1, by rw [yT]; exact how.2⟩, ⟨es.push { key := .string s, val := a.eval z, born := es.size }, by rw [wI how.2]; simp, fun j hj => ?_, ?_, ?_⟩, hni⟩
    · simp only [Array.getElem_push]
      split
      · rename_i hj2; exact h2 j hj2
      · rename_i hj2; simp at hj; show es.size = j; omega
    · have e : strs (l ++ [s]) = strs l ++ [.v (.string s)] := by simp [strs]
      rw [e]
      simp only [Array.toList_push, List.map_append, List.map_cons, List.map_nil]
      exact v7 (yc.mono hle _ _ h3) (by simp only [yc]; exact ⟨[.string s], [], by simp [mkV, AV.isAgg], by simp [RepC, Value.cells, Al.plain], rfl⟩)
    · simp only [Array.toList_push, List.map_append, List.map_cons, List.map_nil]
      obtain ⟨cz, k1, k2⟩ := hzv.mono hle
      exact v7 (yc.mono hle _ _ h4) (by simp only [yc]; exact ⟨cz, [], by rw [k2], k1, rfl⟩)
end
end Go.Al
namespace Go.Al
open Go.RowKit
def units (n : Nat) : List AV := List.replicate n (.agg [])
@[simp] theorem units_length (n : Nat) : (units n).length = n := List.length_replicate
section
variable {C : Cx} {A : Nat → SV} {d : Nat} {ty : TypeId} {pos : String} {af : Array Edge} {gd : Option (Nat × Bool)} {x y z : Operand} {T T' : TypeId}
end
end Go.Al
namespace Go.Al
open Go.RowKit
structure SortC (P : Program) (Γ : List (Nat × AV)) (f : FuncId) : Prop where
  call : u6 P f = true
  sorts : ∀ (blk cap : Nat) (ss : List (List UInt8)) (w : World), Sort.Holds Proofs.encStr w blk 0 ss.toArray → blk < w.heap.size → ss.length < 4611686018427387904 →
    Calls P f #[.slice (some ⟨blk, 0, none⟩) ss.length cap] w fun e w' =>
      e = .returned (.tuple #[]) ∧ ∃ n os, w' = Sort.grow (Sort.putRow Proofs.encStr (Sort.ahead w n) blk 0 (ss.mergeSort fun x y => decide (x ≤ y)).toArray) os
  empty : zn P Γ f [.v (.slice none 0 0)] []
section
variable {C : Cx} {A : Nat → SV} {d : Nat} {ty : TypeId} {pos : String} {af : Array Edge} {gd : Option (Nat × Bool)} {x y z : Operand} {T T' : TypeId}
end
end Go.Al
namespace Go.Proofs
open Go Go.Al
end Go.Proofs
namespace Go.Al
open Go.RowKit
section
variable {C : Cx} {d : Nat} {ty : TypeId} {pos : String} {af : Array Edge} {x : Operand}
end
end Go.Al
namespace Go.Al
section
variable {C : Cx} {A : Nat → SV} {d : Nat} {ty : TypeId} {pos : String} {af : Array Edge} {gd : Option (Nat × Bool)} {x : Operand}
end
end Go.Al
namespace Go.Proofs
open Go Go.Al
theorem sameVs_ne {a b : List GV} (h : a ≠ b) : sJ a b = false := by cases hs : sJ a b; rfl; exact absurd ((vO _ _).1 hs) h
theorem sameA_ne {a b : GA} (h : a ≠ b) : sameA a b = false := by cases hs : sameA a b; rfl; exact absurd ((ui _ _).1 hs) h
theorem sameA_refl (a : GA) : sameA a a = true := (ui a a).2 rfl
theorem sameVs_refl (a : List GV) : sJ a a = true := (vO a a).2 rfl
end Go.Proofs
namespace Go.Proofs
open Go Go.Al
set_option maxRecDepth 10000
set_option maxHeartbeats 1000000 in
theorem eqfV_c (a b : List GV) (fn : FuncId) (hl : a.length ≤ 1000000000) (hf : ∀ x ∈ a, ∀ y : GV, zn Tryz.prog Γ0 fn ([] ++ [x.av, y.av] ++ []) [bv (rW x y)]) : zn Tryz.prog Γ0 150 [(.sl 6 (a.map avV)), (.sl 6 (b.map avV)), .fn (.func fn) [] []] [bv (sJ a b)] := by
  refine z_ Tryz.func150 rfl Tryz.ntmps150 (by kernel_rfl) rfl fun w0 I0 G0 => ?_
  refine zD <| zB <| g_u (zE rfl rfl) <| zH <| zA <| zD <| zD <| zB <| g_u (zC rfl rfl) <| g_u (z7 rfl rfl Tryz.underlying68) <| g_u (zC rfl rfl) <| g_u (z7 rfl rfl Tryz.underlying68) <| g_u (xl rfl rfl rfl) <| zH <| zA ?_
  refine zN rfl (fun hb1 => ?_) (fun hb1 => ?_)
  · have q : ¬ a.length = b.length := by have e := bne_iff_ne.1 hb1; simp only [List.length_map] at e; omega
    refine zD <| zB <| g_u (zE rfl rfl) <| zH <| zA <| zL <| zK ?_
    exact ⟨⟨(rfl : toAV (Al.look _ _) = some _).trans (congrArg some (by (exact congrArg bv (by first | exact (sameVs_ne (fun e => q (by rw [e]))).symm | exact ((vO _ _).2 (xc v0 el (fun j hj => h2 j (by omega)))).symm)))), rfl⟩, trivial⟩
  · have el : a.length = b.length := by have e := qd.1 hb1; simp only [List.length_map] at e; omega
    refine zQ <| zA <| zD <| zD <| zB <| g_u (zC rfl rfl) <| g_u (z7 rfl rfl Tryz.underlying68) <| g_u (zC rfl rfl) <| zH <| zA <| zU ?_
    refine zw (fun i : Nat => [(1, .imm (.sl 6 (b.map avV))), (2, .imm (.fn (.func fn) [] [])), (15, .imm (.sl 6 (a.map avV))), (16, .imm (iv (a.length : Int))), (17, .imm (iv (i : Int)))]) (fun i => i ≤ a.length ∧ ∀ j, j < i → nth a j v0 = nth b j v0) (fun i => a.length - i) (0) ?_ ⟨rfl, rfl, rfl, zX rfl (by rw [List.length_map]), rfl, trivial⟩ ?_
    · exact ⟨Nat.zero_le _, fun j h => absurd h (Nat.not_lt_zero _)⟩
    · rintro i ⟨h1, h2⟩; (try dsimp only at h1 h2)
      refine zD <| zB <| g_u (ye rfl rfl rfl) <| zH <| zA <| zD ?_
      refine zN rfl (fun hb2 => ?_) (fun hb2 => ?_)
      · have hi : i < a.length := by have := of_decide_eq_true hb2; (try simp only [List.length_map] at this); omega
        have hib : i < b.length := by omega
        refine zQ <| zA <| zD <| zU <| zD <| zB <| g_u (zC rfl rfl) ?_
        refine g_u (zR rfl rfl rfl Tryz.underlying68 tS70 (by omega) (ixV hi)) ?_
        refine g_u (zd rfl rfl tA70 tS70 rfl rfl) <| g_uG (zy 1008 rfl rfl rfl tZ70) rfl <| g_u (zE rfl rfl) <| g_u (zV rfl rfl rfl tS70 rfl rfl) <| zH <| zA <| zD <| zB <| g_u (zC rfl rfl) <| g_u (zC rfl rfl) ?_
        refine g_u (zR rfl rfl rfl Tryz.underlying68 tS70 (by omega) (ixV hib)) ?_
        refine g_u (zd rfl rfl tA70 tS70 rfl rfl) <| g_uG (zy 1009 rfl rfl rfl tZ70) rfl <| g_u (zV rfl rfl rfl tS70 rfl rfl) <| zH <| zA <| zD <| zB <| g_u (zC rfl rfl) <| g_u (yC rfl rfl rfl tA70 tS70 rfl rfl) <| g_u (yC rfl rfl rfl tA70 tS70 rfl rfl) <| g_u (wM (hf _ (uy hi) _) rfl rfl rfl) <| g_u (uA rfl rfl) <| zH <| zA ?_
        refine zN rfl (fun hb3 => ?_) (fun hb3 => ?_)
        · have q : ¬ nthV a i = nthV b i := fun h => by have e := hb3; rw [h, sameV_refl] at e; cases e
          refine zD <| zB <| g_u (zE rfl rfl) <| zH <| zA <| zL <| zt <| zK <| zK <| zt <| zK ?_
          exact ⟨⟨(rfl : toAV (Al.look _ _) = some _).trans (congrArg some (by (exact congrArg bv (by first | exact (sameVs_ne (fun e => q (by rw [e]))).symm | exact ((vO _ _).2 (xc v0 el (fun j hj => h2 j (by omega)))).symm)))), rfl⟩, trivial⟩
        · have ev : nthV a i = nthV b i := (vV _ _).1 (by have e := hb3; simpa using e)
          refine zQ <| zW <| zA <| zB <| g_u (z0 rfl rfl rfl) <| g_u (zC rfl rfl) <| zH <| zA ?_
          refine ⟨i + 1, ⟨hi, fun j hj => by rcases Nat.lt_or_ge j i with h | h; exact h2 j h; rw [show j = i by omega]; exact ev⟩, ⟨rfl, rfl, rfl, rfl, zX rfl (by rw [zO (by omega) (by omega)]; rfl), trivial⟩, by (try dsimp only); omega⟩
      · have hin : i = a.length := by have := of_decide_eq_false hb2; (try simp only [List.length_map] at this); omega
        refine zz <| zT <| zT <| zq <| zA <| zD <| zB <| g_u (zE rfl rfl) <| zH <| zA <| zL ?_
        exact ⟨⟨(rfl : toAV (Al.look _ _) = some _).trans (congrArg some (by (exact congrArg bv (by first | exact (sameVs_ne (fun e => q (by rw [e]))).symm | exact ((vO _ _).2 (xc v0 el (fun j hj => h2 j (by omega)))).symm)))), rfl⟩, trivial⟩
set_option maxHeartbeats 1000000 in
theorem eqfA_c (a b : List GA) (fn : FuncId) (hl : a.length ≤ 1000000000) (hf : ∀ x ∈ a, ∀ y : GA, zn Tryz.prog Γ0 fn ([] ++ [x.av, y.av] ++ []) [bv (sameA x y)]) : zn Tryz.prog Γ0 129 [(.sl 7 (a.map avA)), (.sl 7 (b.map avA)), .fn (.func fn) [] []] [bv (uj a b)] := by
  refine z_ Tryz.func129 rfl Tryz.ntmps129 (by kernel_rfl) rfl fun w0 I0 G0 => ?_
  refine zD <| zB <| g_u (zE rfl rfl) <| zH <| zA <| zD <| zD <| zB <| g_u (zC rfl rfl) <| g_u (z7 rfl rfl Tryz.underlying44) <| g_u (zC rfl rfl) <| g_u (z7 rfl rfl Tryz.underlying44) <| g_u (xl rfl rfl rfl) <| zH <| zA ?_
  refine zN rfl (fun hb1 => ?_) (fun hb1 => ?_)
  · have q : ¬ a.length = b.length := by have e := bne_iff_ne.1 hb1; simp only [List.length_map] at e; omega
    refine zD <| zB <| g_u (zE rfl rfl) <| zH <| zA <| zL <| zK ?_
    exact ⟨⟨(rfl : toAV (Al.look _ _) = some _).trans (congrArg some (by (exact congrArg bv (by first | exact (sameAs_ne (fun e => q (by rw [e]))).symm | exact ((yy _ _).2 (xc a0 el (fun j hj => h2 j (by omega)))).symm)))), rfl⟩, trivial⟩
  · have el : a.length = b.length := by have e := qd.1 hb1; simp only [List.length_map] at e; omega
    refine zQ <| zA <| zD <| zD <| zB <| g_u (zC rfl rfl) <| g_u (z7 rfl rfl Tryz.underlying44) <| g_u (zC rfl rfl) <| zH <| zA <| zU ?_
    refine zw (fun i : Nat => [(1, .imm (.sl 7 (b.map avA))), (2, .imm (.fn (.func fn) [] [])), (15, .imm (.sl 7 (a.map avA))), (16, .imm (iv (a.length : Int))), (17, .imm (iv (i : Int)))]) (fun i => i ≤ a.length ∧ ∀ j, j < i → nth a j a0 = nth b j a0) (fun i => a.length - i) (0) ?_ ⟨rfl, rfl, rfl, zX rfl (by rw [List.length_map]), rfl, trivial⟩ ?_
    · exact ⟨Nat.zero_le _, fun j h => absurd h (Nat.not_lt_zero _)⟩
    · rintro i ⟨h1, h2⟩; (try dsimp only at h1 h2)
      refine zD <| zB <| g_u (ye rfl rfl rfl) <| zH <| zA <| zD ?_
      refine zN rfl (fun hb2 => ?_) (fun hb2 => ?_)
      · have hi : i < a.length := by have := of_decide_eq_true hb2; (try simp only [List.length_map] at this); omega
        have hib : i < b.length := by omega
        refine zQ <| zA <| zD <| zU <| zD <| zB <| g_u (zC rfl rfl) ?_
        refine g_u (zR rfl rfl rfl Tryz.underlying44 tS72 (by omega) (ixA hi)) ?_
        refine g_u (zd rfl rfl tA72 tS72 rfl rfl) <| g_uG (zy 1008 rfl rfl rfl tZ72) rfl <| g_u (zE rfl rfl) <| g_u (zV rfl rfl rfl tS72 rfl rfl) <| zH <| zA <| zD <| zB <| g_u (zC rfl rfl) <| g_u (zC rfl rfl) ?_
        refine g_u (zR rfl rfl rfl Tryz.underlying44 tS72 (by omega) (ixA hib)) ?_
        refine g_u (zd rfl rfl tA72 tS72 rfl rfl) <| g_uG (zy 1009 rfl rfl rfl tZ72) rfl <| g_u (zV rfl rfl rfl tS72 rfl rfl) <| zH <| zA <| zD <| zB <| g_u (zC rfl rfl) <| g_u (yC rfl rfl rfl tA72 tS72 rfl rfl) <| g_u (yC rfl rfl rfl tA72 tS72 rfl rfl) <| g_u (wM (hf _ (xY hi) _) rfl rfl rfl) <| g_u (uA rfl rfl) <| zH <| zA ?_
        refine zN rfl (fun hb3 => ?_) (fun hb3 => ?_)
        · have q : ¬ nthA a i = nthA b i := fun h => by have e := hb3; rw [h, sameA_refl] at e; cases e
          refine zD <| zB <| g_u (zE rfl rfl) <| zH <| zA <| zL <| zt <| zK <| zK <| zt <| zK ?_
          exact ⟨⟨(rfl : toAV (Al.look _ _) = some _).trans (congrArg some (by (exact congrArg bv (by first | exact (sameAs_ne (fun e => q (by rw [e]))).symm | exact ((yy _ _).2 (xc a0 el (fun j hj => h2 j (by omega)))).symm)))), rfl⟩, trivial⟩
        · have ev : nthA a i = nthA b i := (ui _ _).1 (by have e := hb3; simpa using e)
          refine zQ <| zW <| zA <| zB <| g_u (z0 rfl rfl rfl) <| g_u (zC rfl rfl) <| zH <| zA ?_
          refine ⟨i + 1, ⟨hi, fun j hj => by rcases Nat.lt_or_ge j i with h | h; exact h2 j h; rw [show j = i by omega]; exact ev⟩, ⟨rfl, rfl, rfl, rfl, zX rfl (by rw [zO (by omega) (by omega)]; rfl), trivial⟩, by (try dsimp only); omega⟩
      · have hin : i = a.length := by have := of_decide_eq_false hb2; (try simp only [List.length_map] at this); omega
        refine zz <| zT <| zT <| zq <| zA <| zD <| zB <| g_u (zE rfl rfl) <| zH <| zA <| zL ?_
        exact ⟨⟨(rfl : toAV (Al.look _ _) = some _).trans (congrArg some (by (exact congrArg bv (by first | exact (sameAs_ne (fun e => q (by rw [e]))).symm | exact ((yy _ _).2 (xc a0 el (fun j hj => h2 j (by omega)))).symm)))), rfl⟩, trivial⟩
theorem psameA_st (a b : GA) (ih : zn Tryz.prog Γ0 131 [a.val.av, b.val.av] [bv (rW a.val b.val)]) : zn Tryz.prog Γ0 130 [a.av, b.av] [bv (sameA a b)] := by
  refine z_ Tryz.func130 rfl Tryz.ntmps130 (by kernel_rfl) rfl fun w0 I0 G0 => ?_
  refine zD <| zB <| g_uG (zk 1002 rfl rfl rfl rfl) rfl <| g_uG (zk 1003 rfl rfl rfl rfl) rfl <| g_u (zE rfl rfl) <| zH <| zA <| zD <| zB <| g_u (zF rfl rfl uq rfl) <| g_u (zG rfl rfl rfl tA9 tS9 rfl rfl) <| g_u (zF rfl rfl uq rfl) <| g_u (zG rfl rfl rfl tA9 tS9 rfl rfl) <| g_u (jZ rfl rfl rfl) <| g_u (zC rfl rfl) <| yB (t := 10) rfl ?_
  rintro (hb1 | hb1)
  · rw [hb1]
    have ek : a.key = b.key := by have e := hb1; rw [yH] at e; exact of_decide_eq_true e
    refine zY rfl rfl (zF rfl rfl ul rfl) <| zY rfl rfl (zG rfl rfl rfl tA70 tS70 rfl rfl) <| zY rfl rfl (zF rfl rfl ul rfl) <| zY rfl rfl (zG rfl rfl rfl tA70 tS70 rfl rfl) <| zY rfl rfl (zP (ih) rfl rfl) <| g_u (zZ rfl rfl rfl) <| g_u (zE rfl rfl) <| zH <| zA <| zL ?_
    exact ⟨⟨(rfl : toAV (Al.look _ _) = some _).trans (congrArg some (by (exact congrArg bv (by first | exact (sameA_ne (fun e => q (by rw [e]))).symm | (rw [Bool.eq_iff_iff, vV, ui]; exact ⟨fun h => GA.ext' ek h, fun h => by rw [h]⟩))))), rfl⟩, trivial⟩
  · rw [hb1]
    have q : ¬ a.key = b.key := by have e := hb1; rw [yH] at e; exact of_decide_eq_false e
    refine zI rfl rfl rfl <| zI rfl rfl rfl <| zI rfl rfl rfl <| zI rfl rfl rfl <| zI rfl rfl rfl <| g_u (zh rfl rfl rfl) <| g_u (zE rfl rfl) <| zH <| zA <| zL ?_
    exact ⟨⟨(rfl : toAV (Al.look _ _) = some _).trans (congrArg some (by (exact congrArg bv (by first | exact (sameA_ne (fun e => q (by rw [e]))).symm | (rw [Bool.eq_iff_iff, vV, ui]; exact ⟨fun h => GA.ext' ek h, fun h => by rw [h]⟩))))), rfl⟩, trivial⟩
theorem psameAs_st (a b : List GA) (hl : a.length ≤ 1000000000) (ih : ∀ x ∈ a, ∀ y : GA, zn Tryz.prog Γ0 131 [x.val.av, y.val.av] [bv (rW x.val y.val)]) : zn Tryz.prog Γ0 100 [.sl 7 (a.map avA), .sl 7 (b.map avA)] [bv (uj a b)] := by
  refine z_ Tryz.func100 rfl Tryz.ntmps100 (by kernel_rfl) rfl fun w0 I0 G0 => ?_
  refine zD <| zB <| g_u (zE rfl rfl) <| zH <| zA <| zD <| zB <| g_u (zC rfl rfl) <| g_u (zC rfl rfl) ?_
  refine g_u (zP (eqfA_c a b 130 hl (fun x hx y => psameA_st x y (ih x hx y))) rfl rfl) ?_
  refine g_u (zE rfl rfl) <| zH <| zA <| zL ?_
  exact ⟨⟨(rfl : toAV (Al.look _ _) = some _).trans (congrArg some (by rfl)), rfl⟩, trivial⟩
set_option maxHeartbeats 2000000 in
theorem psameV_st (a b : GV) (ihl : zn Tryz.prog Γ0 150 [.sl 6 (a.list.map avV), .sl 6 (b.list.map avV), .fn (.func 131) [] []] [bv (sJ a.list b.list)]) (ihm : zn Tryz.prog Γ0 100 [.sl 7 (a.map.map avA), .sl 7 (b.map.map avA)] [bv (uj a.map b.map)]) : zn Tryz.prog Γ0 131 [a.av, b.av] [bv (rW a b)] := by
  refine z_ Tryz.func131 rfl Tryz.ntmps131 (by kernel_rfl) rfl fun w0 I0 G0 => ?_
  refine zD <| zB <| g_uG (zk 1002 rfl rfl rfl rfl) rfl <| g_uG (zk 1003 rfl rfl rfl rfl) rfl <| g_u (zE rfl rfl) <| zH <| zA <| zD <| zD <| zB <| g_u (zF rfl rfl xI rfl) <| g_u (zG rfl rfl rfl tA5 tS5 rfl rfl) <| g_u (zF rfl rfl xI rfl) <| g_u (zG rfl rfl rfl tA5 tS5 rfl rfl) <| g_u (xl rfl rfl rfl) <| g_u (zC rfl rfl) <| yB (t := 10) rfl ?_
  rintro (hb1 | hb1)
  · rw [hb1]
    have q : ¬ a.kind = b.kind := bne_iff_ne.1 hb1
    refine zI rfl rfl rfl <| zI rfl rfl rfl <| zI rfl rfl rfl <| zI rfl rfl rfl <| zI rfl rfl rfl <| g_u (zZ rfl rfl rfl) <| g_u (zC rfl rfl) <| zI rfl rfl rfl <| zI rfl rfl rfl <| zI rfl rfl rfl <| zI rfl rfl rfl <| zI rfl rfl rfl <| g_u (zZ rfl rfl rfl) <| g_u (zC rfl rfl) <| zI rfl rfl rfl <| zI rfl rfl rfl <| zI rfl rfl rfl <| zI rfl rfl rfl <| zI rfl rfl rfl <| g_u (zZ rfl rfl rfl) <| zH <| zA <| zs rfl <| zD <| zB <| g_u (zE rfl rfl) <| zH <| zA <| zL <| zK ?_
    exact ⟨⟨(rfl : toAV (Al.look _ _) = some _).trans (congrArg some (by (exact congrArg bv (by first | exact (su (fun e => q (by rw [e]))).symm | exact td e1 e2 e3 e4 e5)))), rfl⟩, trivial⟩
  · rw [hb1]
    have e1 : a.kind = b.kind := qd.1 hb1
    refine zY rfl rfl (zF rfl rfl sc rfl) <| zY rfl rfl (zG rfl rfl rfl tA9 tS9 rfl rfl) <| zY rfl rfl (zF rfl rfl sc rfl) <| zY rfl rfl (zG rfl rfl rfl tA9 tS9 rfl rfl) <| zY rfl rfl (s_neS rfl rfl rfl) <| g_u (zh rfl rfl rfl) <| g_u (zC rfl rfl) <| yB (t := 17) rfl ?_
    rintro (hb2 | hb2)
    · rw [hb2]
      have q : ¬ a.text = b.text := by have e := hb2; rw [yH] at e; simpa using e
      refine zI rfl rfl rfl <| zI rfl rfl rfl <| zI rfl rfl rfl <| zI rfl rfl rfl <| zI rfl rfl rfl <| g_u (zZ rfl rfl rfl) <| g_u (zC rfl rfl) <| zI rfl rfl rfl <| zI rfl rfl rfl <| zI rfl rfl rfl <| zI rfl rfl rfl <| zI rfl rfl rfl <| g_u (zZ rfl rfl rfl) <| zH <| zA <| zs rfl <| zD <| zB <| g_u (zE rfl rfl) <| zH <| zA <| zL <| zK ?_
      exact ⟨⟨(rfl : toAV (Al.look _ _) = some _).trans (congrArg some (by (exact congrArg bv (by first | exact (su (fun e => q (by rw [e]))).symm | exact td e1 e2 e3 e4 e5)))), rfl⟩, trivial⟩
    · rw [hb2]
      have e2 : a.text = b.text := by have e := hb2; rw [yH] at e; simpa using e
      refine zY rfl rfl (zF rfl rfl rP rfl) <| zY rfl rfl (zG rfl rfl rfl tA3 tS3 rfl rfl) <| zY rfl rfl (zF rfl rfl rP rfl) <| zY rfl rfl (zG rfl rfl rfl tA3 tS3 rfl rfl) <| zY rfl rfl (xl rfl rfl rfl) <| g_u (zh rfl rfl rfl) <| g_u (zC rfl rfl) <| yB (t := 24) rfl ?_
      rintro (hb3 | hb3)
      · rw [hb3]
        have q : ¬ a.num = b.num := bne_iff_ne.1 hb3
        refine zI rfl rfl rfl <| zI rfl rfl rfl <| zI rfl rfl rfl <| zI rfl rfl rfl <| zI rfl rfl rfl <| g_u (zZ rfl rfl rfl) <| zH <| zA <| zs rfl <| zD <| zB <| g_u (zE rfl rfl) <| zH <| zA <| zL <| zK ?_
        exact ⟨⟨(rfl : toAV (Al.look _ _) = some _).trans (congrArg some (by (exact congrArg bv (by first | exact (su (fun e => q (by rw [e]))).symm | exact td e1 e2 e3 e4 e5)))), rfl⟩, trivial⟩
      · rw [hb3]
        have e3 : a.num = b.num := qd.1 hb3
        refine zY rfl rfl (zF rfl rfl fa70_3 rfl) <| zY rfl rfl (zG rfl rfl rfl tA57 tS57 rfl rfl) <| zY rfl rfl (zF rfl rfl fa70_3 rfl) <| zY rfl rfl (zG rfl rfl rfl tA57 tS57 rfl rfl) <| zY rfl rfl (xl rfl rfl rfl) <| g_u (zh rfl rfl rfl) <| zH <| zA ?_
        refine zN rfl (fun hb4 => ?_) (fun hb4 => ?_)
        · have q : ¬ a.bits = b.bits := bne_iff_ne.1 hb4
          refine zD <| zB <| g_u (zE rfl rfl) <| zH <| zA <| zL <| zK ?_
          exact ⟨⟨(rfl : toAV (Al.look _ _) = some _).trans (congrArg some (by (exact congrArg bv (by first | exact (su (fun e => q (by rw [e]))).symm | exact td e1 e2 e3 e4 e5)))), rfl⟩, trivial⟩
        · have e4 : a.bits = b.bits := qd.1 hb4
          refine zQ <| zA <| zD <| zB <| g_u (zF rfl rfl rR rfl) <| g_u (zG rfl rfl rfl tA68 tS68 rfl rfl) <| g_u (zF rfl rfl rR rfl) <| g_u (zG rfl rfl rfl tA68 tS68 rfl rfl) <| g_u (zP (ihl) rfl rfl) <| g_u (zC rfl rfl) <| yB (t := 36) rfl ?_
          rintro (hb5 | hb5)
          · rw [hb5]
            have e5 : a.list = b.list := (vO _ _).1 hb5
            refine zY rfl rfl (zF rfl rfl rO rfl) <| zY rfl rfl (zG rfl rfl rfl tA44 tS44 rfl rfl) <| zY rfl rfl (zF rfl rfl rO rfl) <| zY rfl rfl (zG rfl rfl rfl tA44 tS44 rfl rfl) <| zY rfl rfl (zP (ihm) rfl rfl) <| g_u (zZ rfl rfl rfl) <| g_u (zE rfl rfl) <| zH <| zA <| zL ?_
            exact ⟨⟨(rfl : toAV (Al.look _ _) = some _).trans (congrArg some (by (exact congrArg bv (by first | exact (su (fun e => q (by rw [e]))).symm | exact td e1 e2 e3 e4 e5)))), rfl⟩, trivial⟩
          · rw [hb5]
            have q : ¬ a.list = b.list := fun h => by have e := hb5; rw [h, sameVs_refl] at e; cases e
            refine zI rfl rfl rfl <| zI rfl rfl rfl <| zI rfl rfl rfl <| zI rfl rfl rfl <| zI rfl rfl rfl <| g_u (zh rfl rfl rfl) <| g_u (zE rfl rfl) <| zH <| zA <| zL ?_
            exact ⟨⟨(rfl : toAV (Al.look _ _) = some _).trans (congrArg some (by (exact congrArg bv (by first | exact (su (fun e => q (by rw [e]))).symm | exact td e1 e2 e3 e4 e5)))), rfl⟩, trivial⟩
theorem psameV_c (a : GV) : a.wt ≤ 1000000000 → ∀ b : GV, zn Tryz.prog Γ0 131 [a.av, b.av] [bv (rW a b)] := by
  refine GV.ind (P := fun a => a.wt ≤ 1000000000 → ∀ b : GV, zn Tryz.prog Γ0 131 [a.av, b.av] [bv (rW a b)]) ?_ a
  intro a h1 h2 hw b
  have ek := a.wt_eq
  have la := yv a.map
  have lv := xh a.list
  exact psameV_st a b (eqfV_c a.list b.list 131 (by omega) fun y hy z => h1 y hy (by have := s9 hy; omega) z) (psameAs_st a.map b.map (by omega) fun x hx y => h2 x hx (by have := xy hx; have := x.wt_eq; omega) y.val)
theorem jU (a b : List GA) (hw : wtAs a ≤ 1000000000) : zn Tryz.prog Γ0 100 [.sl 7 (a.map avA), .sl 7 (b.map avA)] [bv (uj a b)] := by
  have la := yv a
  exact psameAs_st a b (by omega) fun x hx y => psameV_c x.val (by have := xy hx; have := x.wt_eq; omega) y.val
end Go.Proofs
namespace Go.Proofs
open Go Go.Al
set_option maxRecDepth 10000
end Go.Proofs
namespace Go.Proofs
open Go Go.Al
theorem xu {a b : Int} (h : orC a b = 0) : a = 0 ∧ b = 0 := by unfold orC at h; split at h <;> omega
theorem checkVs_mem {d : Int} : ∀ {l : List GV}, vo d l = 0 → ∀ y ∈ l, y9 d y = 0
  | x :: l, h, y, hy => by
    rw [vo] at h
    obtain ⟨h1, h2⟩ := xu h
    rcases List.mem_cons.1 hy with rfl | hy
    · exact h1
    · exact checkVs_mem h2 y hy
theorem checkV_parts {d : Int} {v : GV} (h : y9 d v = 0) : vo (d + 1) v.list = 0 ∧ entC (d + 1) none v.map = 0 := by
  rw [z8] at h
  split at h; · omega
  split at h; · omega
  split at h; · omega
  split at h; · omega
  split at h; · omega
  exact xu h
end Go.Proofs
namespace Go.Proofs
open Go Go.Al
set_option maxRecDepth 10000
end Go.Proofs
namespace Go.Proofs
open Go Go.Al
def firstC : List Int → Int
  | [] => 0
  | c :: cs => orC c (firstC cs)
theorem evC_drop {l : List GE} {i : Nat} (h : i < l.length) : evC (l.drop i) = if 9223372036854775807 < (nthE l i).time then 11 else orC (orC (xE (nthE l i).name) (ym (nthE l i).attrs)) (evC (l.drop (i + 1))) := by
  rw [xW (d := ge0) h, evC]; rfl
theorem lkC_drop {l : List GL} {i : Nat} (h : i < l.length) : lkC (l.drop i) = if xg (nthL l i).trace || xg (nthL l i).span then 10 else orC (orC (xE (nthL l i).state) (ym (nthL l i).attrs)) (lkC (l.drop (i + 1))) := by
  rw [xW (d := gl0) h, lkC]; rfl
def vP (s : GSpan) : Int :=
  firstC [if xg s.trace || xg s.id then 10 else 0, xE s.state, xE s.name, if s.kind < 0 ∨ 5 < s.kind then 7 else 0, xr ⟨s.start, s.fin⟩, ym s.attrs, evsC s.events, lksC s.links, if s.code < 0 ∨ 2 < s.code then 7 else 0, xE s.note]
end Go.Proofs
namespace Go.Al
section
variable {P : Program} {b : Frame} {a : Act} {k : List Item} {cs : List Frame} {w : World}
end
end Go.Al
namespace Go.Proofs
open Go Go.Al
set_option maxRecDepth 10000
set_option maxHeartbeats 4000000 in
theorem eqdE_c (a b : List GE) (fn : FuncId) (hl : a.length ≤ 1000000000) (hf : ∀ x ∈ a, ∀ y : GE, zn Tryz.prog Γ0 fn ([] ++ [x.av, y.av] ++ []) [bv (decide (x = y))]) : zn Tryz.prog Γ0 151 [(.sl 3 (a.map GE.av)), (.sl 3 (b.map GE.av)), .fn (.func fn) [] []] [bv (decide (a = b))] := by
  refine z_ Tryz.func151 rfl Tryz.ntmps151 (by kernel_rfl) rfl fun w0 I0 G0 => ?_
  refine zD <| zB <| g_u (zE rfl rfl) <| zH <| zA <| zD <| zD <| zB <| g_u (zC rfl rfl) <| g_u (z7 rfl rfl Tryz.underlying58) <| g_u (zC rfl rfl) <| g_u (z7 rfl rfl Tryz.underlying58) <| g_u (xl rfl rfl rfl) <| zH <| zA ?_
  refine zN rfl (fun hb1 => ?_) (fun hb1 => ?_)
  · have q : ¬ a.length = b.length := by have e := bne_iff_ne.1 hb1; simp only [List.length_map] at e; omega
    refine zD <| zB <| g_u (zE rfl rfl) <| zH <| zA <| zL <| zK ?_
    exact ⟨⟨(rfl : toAV (Al.look _ _) = some _).trans (congrArg some (by (exact congrArg bv (by first | exact (decide_eq_false (fun e => q (by rw [e]))).symm | exact (decide_eq_true (xc ge0 el (fun j hj => h2 j (by omega)))).symm)))), rfl⟩, trivial⟩
  · have el : a.length = b.length := by have e := qd.1 hb1; simp only [List.length_map] at e; omega
    refine zQ <| zA <| zD <| zD <| zB <| g_u (zC rfl rfl) <| g_u (z7 rfl rfl Tryz.underlying58) <| g_u (zC rfl rfl) <| zH <| zA <| zU ?_
    refine zw (fun i : Nat => [(1, .imm (.sl 3 (b.map GE.av))), (2, .imm (.fn (.func fn) [] [])), (15, .imm (.sl 3 (a.map GE.av))), (16, .imm (iv (a.length : Int))), (17, .imm (iv (i : Int)))]) (fun i => i ≤ a.length ∧ ∀ j, j < i → nth a j ge0 = nth b j ge0) (fun i => a.length - i) (0) ?_ ⟨rfl, rfl, rfl, zX rfl (by rw [List.length_map]), rfl, trivial⟩ ?_
    · exact ⟨Nat.zero_le _, fun j h => absurd h (Nat.not_lt_zero _)⟩
    · rintro i ⟨h1, h2⟩; (try dsimp only at h1 h2)
      refine zD <| zB <| g_u (ye rfl rfl rfl) <| zH <| zA <| zD ?_
      refine zN rfl (fun hb2 => ?_) (fun hb2 => ?_)
      · have hi : i < a.length := by have := of_decide_eq_true hb2; (try simp only [List.length_map] at this); omega
        have hib : i < b.length := by omega
        refine zQ <| zA <| zD <| zU <| zD <| zB <| g_u (zC rfl rfl) ?_
        refine g_u (zR rfl rfl rfl Tryz.underlying58 tS92 (by omega) (ixE hi)) ?_
        refine g_u (zd rfl rfl tA92 tS92 rfl rfl) <| g_uG (zy 1008 rfl rfl rfl tZ92) rfl <| g_u (zE rfl rfl) <| g_u (zV rfl rfl rfl tS92 rfl rfl) <| zH <| zA <| zD <| zB <| g_u (zC rfl rfl) <| g_u (zC rfl rfl) ?_
        refine g_u (zR rfl rfl rfl Tryz.underlying58 tS92 (by omega) (ixE hib)) ?_
        refine g_u (zd rfl rfl tA92 tS92 rfl rfl) <| g_uG (zy 1009 rfl rfl rfl tZ92) rfl <| g_u (zV rfl rfl rfl tS92 rfl rfl) <| zH <| zA <| zD <| zB <| g_u (zC rfl rfl) <| g_u (yC rfl rfl rfl tA92 tS92 rfl rfl) <| g_u (yC rfl rfl rfl tA92 tS92 rfl rfl) <| g_u (wM (hf _ (v_ hi) _) rfl rfl rfl) <| g_u (uA rfl rfl) <| zH <| zA ?_
        refine zN rfl (fun hb3 => ?_) (fun hb3 => ?_)
        · have q : ¬ nthE a i = nthE b i := fun h => by have e := hb3; rw [decide_eq_true h] at e; cases e
          refine zD <| zB <| g_u (zE rfl rfl) <| zH <| zA <| zL <| zt <| zK <| zK <| zt <| zK ?_
          exact ⟨⟨(rfl : toAV (Al.look _ _) = some _).trans (congrArg some (by (exact congrArg bv (by first | exact (decide_eq_false (fun e => q (by rw [e]))).symm | exact (decide_eq_true (xc ge0 el (fun j hj => h2 j (by omega)))).symm)))), rfl⟩, trivial⟩
        · have ev : nthE a i = nthE b i := by have e := hb3; simpa using e
          refine zQ <| zW <| zA <| zB <| g_u (z0 rfl rfl rfl) <| g_u (zC rfl rfl) <| zH <| zA ?_
          refine ⟨i + 1, ⟨hi, fun j hj => by rcases Nat.lt_or_ge j i with h | h; exact h2 j h; rw [show j = i by omega]; exact ev⟩, ⟨rfl, rfl, rfl, rfl, zX rfl (by rw [zO (by omega) (by omega)]; rfl), trivial⟩, by (try dsimp only); omega⟩
      · have hin : i = a.length := by have := of_decide_eq_false hb2; (try simp only [List.length_map] at this); omega
        refine zz <| zT <| zT <| zq <| zA <| zD <| zB <| g_u (zE rfl rfl) <| zH <| zA <| zL ?_
        exact ⟨⟨(rfl : toAV (Al.look _ _) = some _).trans (congrArg some (by (exact congrArg bv (by first | exact (decide_eq_false (fun e => q (by rw [e]))).symm | exact (decide_eq_true (xc ge0 el (fun j hj => h2 j (by omega)))).symm)))), rfl⟩, trivial⟩
set_option maxHeartbeats 4000000 in
theorem eqdL_c (a b : List GL) (fn : FuncId) (hl : a.length ≤ 1000000000) (hf : ∀ x ∈ a, ∀ y : GL, zn Tryz.prog Γ0 fn ([] ++ [x.av, y.av] ++ []) [bv (decide (x = y))]) : zn Tryz.prog Γ0 153 [(.sl 26 (a.map GL.av)), (.sl 26 (b.map GL.av)), .fn (.func fn) [] []] [bv (decide (a = b))] := by
  refine z_ Tryz.func153 rfl Tryz.ntmps153 (by kernel_rfl) rfl fun w0 I0 G0 => ?_
  refine zD <| zB <| g_u (zE rfl rfl) <| zH <| zA <| zD <| zD <| zB <| g_u (zC rfl rfl) <| g_u (z7 rfl rfl Tryz.underlying59) <| g_u (zC rfl rfl) <| g_u (z7 rfl rfl Tryz.underlying59) <| g_u (xl rfl rfl rfl) <| zH <| zA ?_
  refine zN rfl (fun hb1 => ?_) (fun hb1 => ?_)
  · have q : ¬ a.length = b.length := by have e := bne_iff_ne.1 hb1; simp only [List.length_map] at e; omega
    refine zD <| zB <| g_u (zE rfl rfl) <| zH <| zA <| zL <| zK ?_
    exact ⟨⟨(rfl : toAV (Al.look _ _) = some _).trans (congrArg some (by (exact congrArg bv (by first | exact (decide_eq_false (fun e => q (by rw [e]))).symm | exact (decide_eq_true (xc gl0 el (fun j hj => h2 j (by omega)))).symm)))), rfl⟩, trivial⟩
  · have el : a.length = b.length := by have e := qd.1 hb1; simp only [List.length_map] at e; omega
    refine zQ <| zA <| zD <| zD <| zB <| g_u (zC rfl rfl) <| g_u (z7 rfl rfl Tryz.underlying59) <| g_u (zC rfl rfl) <| zH <| zA <| zU ?_
    refine zw (fun i : Nat => [(1, .imm (.sl 26 (b.map GL.av))), (2, .imm (.fn (.func fn) [] [])), (15, .imm (.sl 26 (a.map GL.av))), (16, .imm (iv (a.length : Int))), (17, .imm (iv (i : Int)))]) (fun i => i ≤ a.length ∧ ∀ j, j < i → nth a j gl0 = nth b j gl0) (fun i => a.length - i) (0) ?_ ⟨rfl, rfl, rfl, zX rfl (by rw [List.length_map]), rfl, trivial⟩ ?_
    · exact ⟨Nat.zero_le _, fun j h => absurd h (Nat.not_lt_zero _)⟩
    · rintro i ⟨h1, h2⟩; (try dsimp only at h1 h2)
      refine zD <| zB <| g_u (ye rfl rfl rfl) <| zH <| zA <| zD ?_
      refine zN rfl (fun hb2 => ?_) (fun hb2 => ?_)
      · have hi : i < a.length := by have := of_decide_eq_true hb2; (try simp only [List.length_map] at this); omega
        have hib : i < b.length := by omega
        refine zQ <| zA <| zD <| zU <| zD <| zB <| g_u (zC rfl rfl) ?_
        refine g_u (zR rfl rfl rfl Tryz.underlying59 tS94 (by omega) (ixL hi)) ?_
        refine g_u (zd rfl rfl tA94 tS94 rfl (by first | exact wh (GL.width _) rfl | rfl)) ?_
        refine g_uG (zy 1008 rfl rfl rfl tZ94) rfl <| g_u (zE rfl rfl) ?_
        refine g_u (zV rfl rfl rfl tS94 (by first | exact beqW (GL.width _) | rfl) (by first | exact ur (z94_w.trans (GL.width _).symm) rfl | rfl)) ?_
        refine zH <| zA <| zD <| zB <| g_u (zC rfl rfl) <| g_u (zC rfl rfl) ?_
        refine g_u (zR rfl rfl rfl Tryz.underlying59 tS94 (by omega) (ixL hib)) ?_
        refine g_u (zd rfl rfl tA94 tS94 rfl (by first | exact wh (GL.width _) rfl | rfl)) ?_
        refine g_uG (zy 1009 rfl rfl rfl tZ94) rfl ?_
        refine g_u (zV rfl rfl rfl tS94 (by first | exact beqW (GL.width _) | rfl) (by first | exact ur (z94_w.trans (GL.width _).symm) rfl | rfl)) ?_
        refine zH <| zA <| zD <| zB <| g_u (zC rfl rfl) ?_
        refine g_u (zG rfl rfl rfl tA94 tS94 rfl (by first | exact wh (GL.width _) rfl | rfl)) ?_
        refine g_u (zG rfl rfl rfl tA94 tS94 rfl (by first | exact wh (GL.width _) rfl | rfl)) ?_
        refine g_u (wM (hf _ (jC hi) _) rfl rfl rfl) <| g_u (uA rfl rfl) <| zH <| zA ?_
        refine zN rfl (fun hb3 => ?_) (fun hb3 => ?_)
        · have q : ¬ nthL a i = nthL b i := fun h => by have e := hb3; rw [decide_eq_true h] at e; cases e
          refine zD <| zB <| g_u (zE rfl rfl) <| zH <| zA <| zL <| zt <| zK <| zK <| zt <| zK ?_
          exact ⟨⟨(rfl : toAV (Al.look _ _) = some _).trans (congrArg some (by (exact congrArg bv (by first | exact (decide_eq_false (fun e => q (by rw [e]))).symm | exact (decide_eq_true (xc gl0 el (fun j hj => h2 j (by omega)))).symm)))), rfl⟩, trivial⟩
        · have ev : nthL a i = nthL b i := by have e := hb3; simpa using e
          refine zQ <| zW <| zA <| zB <| g_u (z0 rfl rfl rfl) <| g_u (zC rfl rfl) <| zH <| zA ?_
          refine ⟨i + 1, ⟨hi, fun j hj => by rcases Nat.lt_or_ge j i with h | h; exact h2 j h; rw [show j = i by omega]; exact ev⟩, ⟨rfl, rfl, rfl, rfl, zX rfl (by rw [zO (by omega) (by omega)]; rfl), trivial⟩, by (try dsimp only); omega⟩
      · have hin : i = a.length := by have := of_decide_eq_false hb2; (try simp only [List.length_map] at this); omega
        refine zz <| zT <| zT <| zq <| zA <| zD <| zB <| g_u (zE rfl rfl) <| zH <| zA <| zL ?_
        exact ⟨⟨(rfl : toAV (Al.look _ _) = some _).trans (congrArg some (by (exact congrArg bv (by first | exact (decide_eq_false (fun e => q (by rw [e]))).symm | exact (decide_eq_true (xc gl0 el (fun j hj => h2 j (by omega)))).symm)))), rfl⟩, trivial⟩
theorem sameE_c (a b : GE) (hw : wtAs a.attrs ≤ 1000000000) : zn Tryz.prog Γ0 152 [a.av, b.av] [bv (decide (a = b))] := by
  refine z_ Tryz.func152 rfl Tryz.ntmps152 (by kernel_rfl) rfl fun w0 I0 G0 => ?_
  refine zD <| zB <| g_uG (zk 1002 rfl rfl rfl rfl) rfl <| g_uG (zk 1003 rfl rfl rfl rfl) rfl <| g_u (zE rfl rfl) <| zH <| zA <| zD <| zB <| g_u (zF rfl rfl fa92_0 rfl) <| g_u (zG rfl rfl rfl tA57 tS57 rfl rfl) <| g_u (zF rfl rfl fa92_0 rfl) <| g_u (zG rfl rfl rfl tA57 tS57 rfl rfl) <| g_u (yz rfl rfl rfl) <| g_u (zC rfl rfl) <| yB (t := 10) rfl ?_
  rintro (hb1 | hb1)
  · rw [hb1]
    have f1 : a.time = b.time := beq_iff_eq.1 hb1
    refine zY rfl rfl (zF rfl rfl jK rfl) <| zY rfl rfl (zG rfl rfl rfl tA9 tS9 rfl rfl) <| zY rfl rfl (zF rfl rfl jK rfl) <| zY rfl rfl (zG rfl rfl rfl tA9 tS9 rfl rfl) <| zY rfl rfl (jZ rfl rfl rfl) <| g_u (zZ rfl rfl rfl) <| g_u (zC rfl rfl) <| yB (t := 17) rfl ?_
    rintro (hb2 | hb2)
    · rw [hb2]
      have f2 : a.name = b.name := by have e := hb2; rw [yH] at e; simpa using e
      refine zY rfl rfl (zF rfl rfl fa92_2 rfl) <| zY rfl rfl (zG rfl rfl rfl tA44 tS44 rfl rfl) <| zY rfl rfl (zF rfl rfl fa92_2 rfl) <| zY rfl rfl (zG rfl rfl rfl tA44 tS44 rfl rfl) ?_
      refine zY rfl rfl (zP (jU _ _ (by omega)) rfl rfl) ?_
      refine g_u (zZ rfl rfl rfl) <| g_u (zE rfl rfl) <| zH <| zA <| zL ?_
      exact ⟨⟨(rfl : toAV (Al.look _ _) = some _).trans (congrArg some (by (exact congrArg bv (by first | exact (decide_eq_false (fun e => q (by rw [e]))).symm | (rw [Bool.eq_iff_iff, yy, decide_eq_true_iff]; exact ⟨fun h => GE.ext' f1 f2 h, fun h => by rw [h]⟩))))), rfl⟩, trivial⟩
    · rw [hb2]
      have q : ¬ a.name = b.name := by have e := hb2; rw [yH] at e; simpa using e
      refine zI rfl rfl rfl <| zI rfl rfl rfl <| zI rfl rfl rfl <| zI rfl rfl rfl <| zI rfl rfl rfl <| g_u (zh rfl rfl rfl) <| g_u (zE rfl rfl) <| zH <| zA <| zL ?_
      exact ⟨⟨(rfl : toAV (Al.look _ _) = some _).trans (congrArg some (by (exact congrArg bv (by first | exact (decide_eq_false (fun e => q (by rw [e]))).symm | (rw [Bool.eq_iff_iff, yy, decide_eq_true_iff]; exact ⟨fun h => GE.ext' f1 f2 h, fun h => by rw [h]⟩))))), rfl⟩, trivial⟩
  · rw [hb1]
    have q : ¬ a.time = b.time := beq_eq_false_iff_ne.1 hb1
    refine zI rfl rfl rfl <| zI rfl rfl rfl <| zI rfl rfl rfl <| zI rfl rfl rfl <| zI rfl rfl rfl <| g_u (zh rfl rfl rfl) <| g_u (zC rfl rfl) <| zI rfl rfl rfl <| zI rfl rfl rfl <| zI rfl rfl rfl <| zI rfl rfl rfl <| zI rfl rfl rfl <| g_u (zh rfl rfl rfl) <| g_u (zE rfl rfl) <| zH <| zA <| zL ?_
    exact ⟨⟨(rfl : toAV (Al.look _ _) = some _).trans (congrArg some (by (exact congrArg bv (by first | exact (decide_eq_false (fun e => q (by rw [e]))).symm | (rw [Bool.eq_iff_iff, yy, decide_eq_true_iff]; exact ⟨fun h => GE.ext' f1 f2 h, fun h => by rw [h]⟩))))), rfl⟩, trivial⟩
set_option maxHeartbeats 1000000 in
theorem sameL_c (a b : GL) (hw : wtAs a.attrs ≤ 1000000000) : zn Tryz.prog Γ0 154 [a.av, b.av] [bv (decide (a = b))] := by
  refine z_ Tryz.func154 rfl Tryz.ntmps154 (by kernel_rfl) rfl fun w0 I0 G0 => ?_
  refine zD <| zB <| g_uG (zk 1002 rfl rfl rfl rfl) rfl <| g_uG (zk 1003 rfl rfl rfl rfl) rfl <| g_u (zE rfl rfl) <| zH <| zA <| zD <| zB <| g_u (zF rfl rfl fa94_0 rfl) <| g_u (zG rfl rfl rfl tA54 tS54 rfl rfl) <| g_u (zF rfl rfl fa94_0 rfl) <| g_u (zG rfl rfl rfl tA54 tS54 rfl rfl) <| g_u (s_eqA rfl rfl rfl eg54 rfl rfl (eq54 _ _)) <| g_u (zC rfl rfl) <| yB (t := 10) rfl ?_
  rintro (hb1 | hb1)
  · rw [hb1]
    have g1 : a.trace = b.trace := by have e := hb1; simpa using e
    refine zY rfl rfl (zF rfl rfl fa94_1 rfl) <| zY rfl rfl (zG rfl rfl rfl tA56 tS56 rfl rfl) <| zY rfl rfl (zF rfl rfl fa94_1 rfl) <| zY rfl rfl (zG rfl rfl rfl tA56 tS56 rfl rfl) <| zY rfl rfl (s_eqA rfl rfl rfl eg56 rfl rfl (eq56 _ _)) <| g_u (zZ rfl rfl rfl) <| g_u (zC rfl rfl) <| yB (t := 17) rfl ?_
    rintro (hb2 | hb2)
    · rw [hb2]
      have g2 : a.span = b.span := by have e := hb2; simpa using e
      refine zY rfl rfl (zF rfl rfl fa94_2 rfl) <| zY rfl rfl (zG rfl rfl rfl tA9 tS9 rfl rfl) <| zY rfl rfl (zF rfl rfl fa94_2 rfl) <| zY rfl rfl (zG rfl rfl rfl tA9 tS9 rfl rfl) <| zY rfl rfl (jZ rfl rfl rfl) <| g_u (zZ rfl rfl rfl) <| g_u (zC rfl rfl) <| yB (t := 24) rfl ?_
      rintro (hb3 | hb3)
      · rw [hb3]
        have g3 : a.state = b.state := by have e := hb3; rw [yH] at e; simpa using e
        refine zY rfl rfl (zF rfl rfl fa94_3 rfl) <| zY rfl rfl (zG rfl rfl rfl tA44 tS44 rfl rfl) <| zY rfl rfl (zF rfl rfl fa94_3 rfl) <| zY rfl rfl (zG rfl rfl rfl tA44 tS44 rfl rfl) ?_
        refine zY rfl rfl (zP (jU _ _ (by omega)) rfl rfl) ?_
        refine g_u (zZ rfl rfl rfl) <| g_u (zE rfl rfl) <| zH <| zA <| zL ?_
        exact ⟨⟨(rfl : toAV (Al.look _ _) = some _).trans (congrArg some (by (exact congrArg bv (by first | exact (decide_eq_false (fun e => q (by rw [e]))).symm | (rw [Bool.eq_iff_iff, yy, decide_eq_true_iff]; exact ⟨fun h => GL.ext' g1 g2 g3 h, fun h => by rw [h]⟩))))), rfl⟩, trivial⟩
      · rw [hb3]
        have q : ¬ a.state = b.state := by have e := hb3; rw [yH] at e; simpa using e
        refine zI rfl rfl rfl <| zI rfl rfl rfl <| zI rfl rfl rfl <| zI rfl rfl rfl <| zI rfl rfl rfl <| g_u (zh rfl rfl rfl) <| g_u (zE rfl rfl) <| zH <| zA <| zL ?_
        exact ⟨⟨(rfl : toAV (Al.look _ _) = some _).trans (congrArg some (by (exact congrArg bv (by first | exact (decide_eq_false (fun e => q (by rw [e]))).symm | (rw [Bool.eq_iff_iff, yy, decide_eq_true_iff]; exact ⟨fun h => GL.ext' g1 g2 g3 h, fun h => by rw [h]⟩))))), rfl⟩, trivial⟩
    · rw [hb2]
      have q : ¬ a.span = b.span := by have e := hb2; simpa using e
      refine zI rfl rfl rfl <| zI rfl rfl rfl <| zI rfl rfl rfl <| zI rfl rfl rfl <| zI rfl rfl rfl <| g_u (zh rfl rfl rfl) <| g_u (zC rfl rfl) <| zI rfl rfl rfl <| zI rfl rfl rfl <| zI rfl rfl rfl <| zI rfl rfl rfl <| zI rfl rfl rfl <| g_u (zh rfl rfl rfl) <| g_u (zE rfl rfl) <| zH <| zA <| zL ?_
      exact ⟨⟨(rfl : toAV (Al.look _ _) = some _).trans (congrArg some (by (exact congrArg bv (by first | exact (decide_eq_false (fun e => q (by rw [e]))).symm | (rw [Bool.eq_iff_iff, yy, decide_eq_true_iff]; exact ⟨fun h => GL.ext' g1 g2 g3 h, fun h => by rw [h]⟩))))), rfl⟩, trivial⟩
  · rw [hb1]
    have q : ¬ a.trace = b.trace := by have e := hb1; simpa using e
    refine zI rfl rfl rfl <| zI rfl rfl rfl <| zI rfl rfl rfl <| zI rfl rfl rfl <| zI rfl rfl rfl <| g_u (zh rfl rfl rfl) <| g_u (zC rfl rfl) <| zI rfl rfl rfl <| zI rfl rfl rfl <| zI rfl rfl rfl <| zI rfl rfl rfl <| zI rfl rfl rfl <| g_u (zh rfl rfl rfl) <| g_u (zC rfl rfl) <| zI rfl rfl rfl <| zI rfl rfl rfl <| zI rfl rfl rfl <| zI rfl rfl rfl <| zI rfl rfl rfl <| g_u (zh rfl rfl rfl) <| g_u (zE rfl rfl) <| zH <| zA <| zL ?_
    exact ⟨⟨(rfl : toAV (Al.look _ _) = some _).trans (congrArg some (by (exact congrArg bv (by first | exact (decide_eq_false (fun e => q (by rw [e]))).symm | (rw [Bool.eq_iff_iff, yy, decide_eq_true_iff]; exact ⟨fun h => GL.ext' g1 g2 g3 h, fun h => by rw [h]⟩))))), rfl⟩, trivial⟩
set_option maxHeartbeats 8000000 in
theorem psameS_c (a b : GSpan) (hw : a.wt ≤ 1000000000) : zn Tryz.prog Γ0 133 [a.av, b.av] [bv (decide (a = b))] := by
  have qw : a.wt = 1 + a.state.size + a.name.size + a.note.size + wtAs a.attrs + zg GE.wt a.events + zg GL.wt a.links := rfl
  have ql := yX GE.wt (fun e => by unfold GE.wt; omega) a.events
  have qm := yX GL.wt (fun e => by unfold GL.wt; omega) a.links
  refine z_ Tryz.func133 rfl Tryz.ntmps133 (by kernel_rfl) rfl fun w0 I0 G0 => ?_
  refine zD <| zB <| g_uG (zk 1002 rfl rfl rfl rfl) rfl <| g_uG (zk 1003 rfl rfl rfl rfl) rfl <| g_u (zE rfl rfl) <| zH <| zA <| zD <| zB <| g_u (zF rfl rfl fa63_0 rfl) <| g_u (zG rfl rfl rfl tA54 tS54 rfl rfl) <| g_u (zF rfl rfl fa63_0 rfl) <| g_u (zG rfl rfl rfl tA54 tS54 rfl rfl) <| g_u (s_eqA rfl rfl rfl eg54 rfl rfl (eq54 _ _)) <| g_u (zC rfl rfl) <| yB (t := 11) rfl ?_
  rintro (hb1 | hb1)
  · rw [hb1]
    have e0 : a.trace = b.trace := by have e := hb1; simpa using e
    refine zY rfl rfl (zF rfl rfl fa63_1 rfl) <| zY rfl rfl (zG rfl rfl rfl tA56 tS56 rfl rfl) <| zY rfl rfl (zF rfl rfl fa63_1 rfl) <| zY rfl rfl (zG rfl rfl rfl tA56 tS56 rfl rfl) <| zY rfl rfl (s_eqA rfl rfl rfl eg56 rfl rfl (eq56 _ _)) <| g_u (zZ rfl rfl rfl) <| g_u (zC rfl rfl) <| yB (t := 18) rfl ?_
    rintro (hb2 | hb2)
    · rw [hb2]
      have e1 : a.id = b.id := by have e := hb2; simpa using e
      refine zY rfl rfl (zF rfl rfl fa63_2 rfl) <| zY rfl rfl (zG rfl rfl rfl tA56 tS56 rfl rfl) <| zY rfl rfl (zF rfl rfl fa63_2 rfl) <| zY rfl rfl (zG rfl rfl rfl tA56 tS56 rfl rfl) <| zY rfl rfl (s_eqA rfl rfl rfl eg56 rfl rfl (eq56 _ _)) <| g_u (zZ rfl rfl rfl) <| g_u (zC rfl rfl) <| yB (t := 25) rfl ?_
      rintro (hb3 | hb3)
      · rw [hb3]
        have e2 : a.parent = b.parent := by have e := hb3; simpa using e
        refine zY rfl rfl (zF rfl rfl fa63_3 rfl) <| zY rfl rfl (zG rfl rfl rfl tA9 tS9 rfl rfl) <| zY rfl rfl (zF rfl rfl fa63_3 rfl) <| zY rfl rfl (zG rfl rfl rfl tA9 tS9 rfl rfl) <| zY rfl rfl (jZ rfl rfl rfl) <| g_u (zZ rfl rfl rfl) <| g_u (zC rfl rfl) <| yB (t := 32) rfl ?_
        rintro (hb4 | hb4)
        · rw [hb4]
          have e3 : a.state = b.state := by have e := hb4; rw [yH] at e; simpa using e
          refine zY rfl rfl (zF rfl rfl fa63_4 rfl) <| zY rfl rfl (zG rfl rfl rfl tA9 tS9 rfl rfl) <| zY rfl rfl (zF rfl rfl fa63_4 rfl) <| zY rfl rfl (zG rfl rfl rfl tA9 tS9 rfl rfl) <| zY rfl rfl (jZ rfl rfl rfl) <| g_u (zZ rfl rfl rfl) <| g_u (zE rfl rfl) <| zH <| zA <| zD <| zD <| zB <| g_u (zC rfl rfl) <| g_u (uA rfl rfl) <| g_u (zC rfl rfl) <| yB (t := 41) rfl ?_
          rintro (hb5 | hb5)
          · rw [hb5]
            have q : ¬ a.name = b.name := by have e := hb5; rw [yH] at e; simpa using e
            refine zI rfl rfl rfl <| zI rfl rfl rfl <| zI rfl rfl rfl <| zI rfl rfl rfl <| zI rfl rfl rfl <| g_u (zZ rfl rfl rfl) <| g_u (zC rfl rfl) <| zI rfl rfl rfl <| zI rfl rfl rfl <| zI rfl rfl rfl <| zI rfl rfl rfl <| zI rfl rfl rfl <| g_u (zZ rfl rfl rfl) <| g_u (zC rfl rfl) <| zI rfl rfl rfl <| zI rfl rfl rfl <| zI rfl rfl rfl <| zI rfl rfl rfl <| zI rfl rfl rfl <| g_u (zZ rfl rfl rfl) <| g_u (zC rfl rfl) <| zI rfl rfl rfl <| zI rfl rfl rfl <| zI rfl rfl rfl <| zI rfl rfl rfl <| zI rfl rfl rfl <| g_u (zZ rfl rfl rfl) <| g_u (zC rfl rfl) <| zI rfl rfl rfl <| zI rfl rfl rfl <| zI rfl rfl rfl <| zI rfl rfl rfl <| zI rfl rfl rfl <| zI rfl rfl rfl <| g_u (zZ rfl rfl rfl) <| zH <| zA <| zs rfl <| zD <| zB <| g_u (zE rfl rfl) <| zH <| zA <| zL <| zK ?_
            exact ⟨⟨(rfl : toAV (Al.look _ _) = some _).trans (congrArg some (by (exact congrArg bv (by first | exact (decide_eq_false (fun e => q ⟨congrArg GSpan.code e, congrArg GSpan.note e⟩)).symm | exact (decide_eq_false (fun e => q (by rw [e]))).symm | (rw [Bool.eq_iff_iff, decide_eq_true_iff, decide_eq_true_iff]; exact ⟨fun h => GSpan.ext' e0 e1 e2 e3 e4 e5 e6 e7 e9 e10 h e8.1 e8.2, fun h => by rw [h]⟩))))), rfl⟩, trivial⟩
          · rw [hb5]
            have e4 : a.name = b.name := by have e := hb5; rw [yH] at e; simpa using e
            refine zY rfl rfl (zF rfl rfl fa63_5 rfl) <| zY rfl rfl (zG rfl rfl rfl tA3 tS3 rfl rfl) <| zY rfl rfl (zF rfl rfl fa63_5 rfl) <| zY rfl rfl (zG rfl rfl rfl tA3 tS3 rfl rfl) <| zY rfl rfl (xl rfl rfl rfl) <| g_u (zh rfl rfl rfl) <| g_u (zC rfl rfl) <| yB (t := 48) rfl ?_
            rintro (hb6 | hb6)
            · rw [hb6]
              have q : ¬ a.kind = b.kind := bne_iff_ne.1 hb6
              refine zI rfl rfl rfl <| zI rfl rfl rfl <| zI rfl rfl rfl <| zI rfl rfl rfl <| zI rfl rfl rfl <| g_u (zZ rfl rfl rfl) <| g_u (zC rfl rfl) <| zI rfl rfl rfl <| zI rfl rfl rfl <| zI rfl rfl rfl <| zI rfl rfl rfl <| zI rfl rfl rfl <| g_u (zZ rfl rfl rfl) <| g_u (zC rfl rfl) <| zI rfl rfl rfl <| zI rfl rfl rfl <| zI rfl rfl rfl <| zI rfl rfl rfl <| zI rfl rfl rfl <| g_u (zZ rfl rfl rfl) <| g_u (zC rfl rfl) <| zI rfl rfl rfl <| zI rfl rfl rfl <| zI rfl rfl rfl <| zI rfl rfl rfl <| zI rfl rfl rfl <| zI rfl rfl rfl <| g_u (zZ rfl rfl rfl) <| zH <| zA <| zs rfl <| zD <| zB <| g_u (zE rfl rfl) <| zH <| zA <| zL <| zK ?_
              exact ⟨⟨(rfl : toAV (Al.look _ _) = some _).trans (congrArg some (by (exact congrArg bv (by first | exact (decide_eq_false (fun e => q ⟨congrArg GSpan.code e, congrArg GSpan.note e⟩)).symm | exact (decide_eq_false (fun e => q (by rw [e]))).symm | (rw [Bool.eq_iff_iff, decide_eq_true_iff, decide_eq_true_iff]; exact ⟨fun h => GSpan.ext' e0 e1 e2 e3 e4 e5 e6 e7 e9 e10 h e8.1 e8.2, fun h => by rw [h]⟩))))), rfl⟩, trivial⟩
            · rw [hb6]
              have e5 : a.kind = b.kind := qd.1 hb6
              refine zY rfl rfl (zF rfl rfl fa63_6 rfl) <| zY rfl rfl (zG rfl rfl rfl tA57 tS57 rfl rfl) <| zY rfl rfl (zF rfl rfl fa63_6 rfl) <| zY rfl rfl (zG rfl rfl rfl tA57 tS57 rfl rfl) <| zY rfl rfl (xl rfl rfl rfl) <| g_u (zh rfl rfl rfl) <| g_u (zC rfl rfl) <| yB (t := 55) rfl ?_
              rintro (hb7 | hb7)
              · rw [hb7]
                have q : ¬ a.start = b.start := bne_iff_ne.1 hb7
                refine zI rfl rfl rfl <| zI rfl rfl rfl <| zI rfl rfl rfl <| zI rfl rfl rfl <| zI rfl rfl rfl <| g_u (zZ rfl rfl rfl) <| g_u (zC rfl rfl) <| zI rfl rfl rfl <| zI rfl rfl rfl <| zI rfl rfl rfl <| zI rfl rfl rfl <| zI rfl rfl rfl <| g_u (zZ rfl rfl rfl) <| g_u (zC rfl rfl) <| zI rfl rfl rfl <| zI rfl rfl rfl <| zI rfl rfl rfl <| zI rfl rfl rfl <| zI rfl rfl rfl <| zI rfl rfl rfl <| g_u (zZ rfl rfl rfl) <| zH <| zA <| zs rfl <| zD <| zB <| g_u (zE rfl rfl) <| zH <| zA <| zL <| zK ?_
                exact ⟨⟨(rfl : toAV (Al.look _ _) = some _).trans (congrArg some (by (exact congrArg bv (by first | exact (decide_eq_false (fun e => q ⟨congrArg GSpan.code e, congrArg GSpan.note e⟩)).symm | exact (decide_eq_false (fun e => q (by rw [e]))).symm | (rw [Bool.eq_iff_iff, decide_eq_true_iff, decide_eq_true_iff]; exact ⟨fun h => GSpan.ext' e0 e1 e2 e3 e4 e5 e6 e7 e9 e10 h e8.1 e8.2, fun h => by rw [h]⟩))))), rfl⟩, trivial⟩
              · rw [hb7]
                have e6 : a.start = b.start := qd.1 hb7
                refine zY rfl rfl (zF rfl rfl fa63_7 rfl) <| zY rfl rfl (zG rfl rfl rfl tA57 tS57 rfl rfl) <| zY rfl rfl (zF rfl rfl fa63_7 rfl) <| zY rfl rfl (zG rfl rfl rfl tA57 tS57 rfl rfl) <| zY rfl rfl (xl rfl rfl rfl) <| g_u (zh rfl rfl rfl) <| g_u (zC rfl rfl) <| yB (t := 62) rfl ?_
                rintro (hb8 | hb8)
                · rw [hb8]
                  have q : ¬ a.fin = b.fin := bne_iff_ne.1 hb8
                  refine zI rfl rfl rfl <| zI rfl rfl rfl <| zI rfl rfl rfl <| zI rfl rfl rfl <| zI rfl rfl rfl <| g_u (zZ rfl rfl rfl) <| g_u (zC rfl rfl) <| zI rfl rfl rfl <| zI rfl rfl rfl <| zI rfl rfl rfl <| zI rfl rfl rfl <| zI rfl rfl rfl <| zI rfl rfl rfl <| g_u (zZ rfl rfl rfl) <| zH <| zA <| zs rfl <| zD <| zB <| g_u (zE rfl rfl) <| zH <| zA <| zL <| zK ?_
                  exact ⟨⟨(rfl : toAV (Al.look _ _) = some _).trans (congrArg some (by (exact congrArg bv (by first | exact (decide_eq_false (fun e => q ⟨congrArg GSpan.code e, congrArg GSpan.note e⟩)).symm | exact (decide_eq_false (fun e => q (by rw [e]))).symm | (rw [Bool.eq_iff_iff, decide_eq_true_iff, decide_eq_true_iff]; exact ⟨fun h => GSpan.ext' e0 e1 e2 e3 e4 e5 e6 e7 e9 e10 h e8.1 e8.2, fun h => by rw [h]⟩))))), rfl⟩, trivial⟩
                · rw [hb8]
                  have e7 : a.fin = b.fin := qd.1 hb8
                  refine zY rfl rfl (zF rfl rfl tf rfl) <| zY rfl rfl (zG rfl rfl rfl tA61 tS61 rfl rfl) <| zY rfl rfl (zF rfl rfl tf rfl) <| zY rfl rfl (zG rfl rfl rfl tA61 tS61 rfl rfl) <| zY rfl rfl (s_neA rfl rfl rfl eg61 rfl rfl (eq61 _ _ _ _)) <| g_u (zh rfl rfl rfl) <| g_u (zC rfl rfl) <| yB (t := 69) rfl ?_
                  rintro (hb9 | hb9)
                  · rw [hb9]
                    have q : ¬ (a.code = b.code ∧ a.note = b.note) := fun h => by have e := hb9; rw [yH, h.1, h.2] at e; simp at e
                    refine zI rfl rfl rfl <| zI rfl rfl rfl <| zI rfl rfl rfl <| zI rfl rfl rfl <| zI rfl rfl rfl <| zI rfl rfl rfl <| g_u (zZ rfl rfl rfl) <| zH <| zA <| zs rfl <| zD <| zB <| g_u (zE rfl rfl) <| zH <| zA <| zL <| zK ?_
                    exact ⟨⟨(rfl : toAV (Al.look _ _) = some _).trans (congrArg some (by (exact congrArg bv (by first | exact (decide_eq_false (fun e => q ⟨congrArg GSpan.code e, congrArg GSpan.note e⟩)).symm | exact (decide_eq_false (fun e => q (by rw [e]))).symm | (rw [Bool.eq_iff_iff, decide_eq_true_iff, decide_eq_true_iff]; exact ⟨fun h => GSpan.ext' e0 e1 e2 e3 e4 e5 e6 e7 e9 e10 h e8.1 e8.2, fun h => by rw [h]⟩))))), rfl⟩, trivial⟩
                  · rw [hb9]
                    have e8 : a.code = b.code ∧ a.note = b.note := by have e := hb9; rw [yH] at e; simpa using e
                    refine zY rfl rfl (zF rfl rfl si rfl) <| zY rfl rfl (zG rfl rfl rfl tA44 tS44 rfl rfl) <| zY rfl rfl (zF rfl rfl si rfl) <| zY rfl rfl (zG rfl rfl rfl tA44 tS44 rfl rfl) ?_
                    refine zY rfl rfl (zP (jU a.attrs b.attrs (by omega)) rfl rfl) ?_
                    refine zY rfl rfl (uA rfl rfl) <| g_u (zh rfl rfl rfl) <| zH <| zA ?_
                    refine zN rfl (fun hb10 => ?_) (fun hb10 => ?_)
                    · have q : ¬ a.attrs = b.attrs := fun h => by have e := hb10; rw [h, sameAs_refl] at e; cases e
                      refine zD <| zB <| g_u (zE rfl rfl) <| zH <| zA <| zL <| zK ?_
                      exact ⟨⟨(rfl : toAV (Al.look _ _) = some _).trans (congrArg some (by (exact congrArg bv (by first | exact (decide_eq_false (fun e => q ⟨congrArg GSpan.code e, congrArg GSpan.note e⟩)).symm | exact (decide_eq_false (fun e => q (by rw [e]))).symm | (rw [Bool.eq_iff_iff, decide_eq_true_iff, decide_eq_true_iff]; exact ⟨fun h => GSpan.ext' e0 e1 e2 e3 e4 e5 e6 e7 e9 e10 h e8.1 e8.2, fun h => by rw [h]⟩))))), rfl⟩, trivial⟩
                    · have e9 : a.attrs = b.attrs := (yy _ _).1 (by have e := hb10; simpa using e)
                      refine zQ <| zA <| zD <| zB <| g_u (zF rfl rfl vN rfl) <| g_u (zG rfl rfl rfl tA58 tS58 rfl rfl) <| g_u (zF rfl rfl vN rfl) <| g_u (zG rfl rfl rfl tA58 tS58 rfl rfl) ?_
                      refine g_u (zP (eqdE_c a.events b.events 152 (by omega) (fun x hx y => sameE_c x y (by have h5 := yP GE.wt hx; have h6 : x.wt = 1 + x.name.size + wtAs x.attrs := rfl; omega))) rfl rfl) ?_
                      refine g_u (zC rfl rfl) <| yB (t := 82) rfl ?_
                      rintro (hb11 | hb11)
                      · rw [hb11]
                        have e10 : a.events = b.events := of_decide_eq_true hb11
                        refine zY rfl rfl (zF rfl rfl wK rfl) <| zY rfl rfl (zG rfl rfl rfl tA59 tS59 rfl rfl) <| zY rfl rfl (zF rfl rfl wK rfl) <| zY rfl rfl (zG rfl rfl rfl tA59 tS59 rfl rfl) ?_
                        refine zY rfl rfl (zP (eqdL_c a.links b.links 154 (by omega) (fun x hx y => sameL_c x y (by have h5 := yP GL.wt hx; have h6 : x.wt = 1 + x.state.size + wtAs x.attrs := rfl; omega))) rfl rfl) ?_
                        refine g_u (zZ rfl rfl rfl) <| g_u (zE rfl rfl) <| zH <| zA <| zL ?_
                        exact ⟨⟨(rfl : toAV (Al.look _ _) = some _).trans (congrArg some (by (exact congrArg bv (by first | exact (decide_eq_false (fun e => q ⟨congrArg GSpan.code e, congrArg GSpan.note e⟩)).symm | exact (decide_eq_false (fun e => q (by rw [e]))).symm | (rw [Bool.eq_iff_iff, decide_eq_true_iff, decide_eq_true_iff]; exact ⟨fun h => GSpan.ext' e0 e1 e2 e3 e4 e5 e6 e7 e9 e10 h e8.1 e8.2, fun h => by rw [h]⟩))))), rfl⟩, trivial⟩
                      · rw [hb11]
                        have q : ¬ a.events = b.events := of_decide_eq_false hb11
                        refine zI rfl rfl rfl <| zI rfl rfl rfl <| zI rfl rfl rfl <| zI rfl rfl rfl <| zI rfl rfl rfl <| g_u (zh rfl rfl rfl) <| g_u (zE rfl rfl) <| zH <| zA <| zL ?_
                        exact ⟨⟨(rfl : toAV (Al.look _ _) = some _).trans (congrArg some (by (exact congrArg bv (by first | exact (decide_eq_false (fun e => q ⟨congrArg GSpan.code e, congrArg GSpan.note e⟩)).symm | exact (decide_eq_false (fun e => q (by rw [e]))).symm | (rw [Bool.eq_iff_iff, decide_eq_true_iff, decide_eq_true_iff]; exact ⟨fun h => GSpan.ext' e0 e1 e2 e3 e4 e5 e6 e7 e9 e10 h e8.1 e8.2, fun h => by rw [h]⟩))))), rfl⟩, trivial⟩
        · rw [hb4]
          have q : ¬ a.state = b.state := by have e := hb4; rw [yH] at e; simpa using e
          refine zI rfl rfl rfl <| zI rfl rfl rfl <| zI rfl rfl rfl <| zI rfl rfl rfl <| zI rfl rfl rfl <| g_u (zh rfl rfl rfl) <| g_u (zE rfl rfl) <| zH <| zA <| zD <| zD <| zB <| g_u (zC rfl rfl) <| g_u (uA rfl rfl) <| g_u (zC rfl rfl) <| zI rfl rfl rfl <| zI rfl rfl rfl <| zI rfl rfl rfl <| zI rfl rfl rfl <| zI rfl rfl rfl <| g_u (zZ rfl rfl rfl) <| g_u (zC rfl rfl) <| zI rfl rfl rfl <| zI rfl rfl rfl <| zI rfl rfl rfl <| zI rfl rfl rfl <| zI rfl rfl rfl <| g_u (zZ rfl rfl rfl) <| g_u (zC rfl rfl) <| zI rfl rfl rfl <| zI rfl rfl rfl <| zI rfl rfl rfl <| zI rfl rfl rfl <| zI rfl rfl rfl <| g_u (zZ rfl rfl rfl) <| g_u (zC rfl rfl) <| zI rfl rfl rfl <| zI rfl rfl rfl <| zI rfl rfl rfl <| zI rfl rfl rfl <| zI rfl rfl rfl <| g_u (zZ rfl rfl rfl) <| g_u (zC rfl rfl) <| zI rfl rfl rfl <| zI rfl rfl rfl <| zI rfl rfl rfl <| zI rfl rfl rfl <| zI rfl rfl rfl <| zI rfl rfl rfl <| g_u (zZ rfl rfl rfl) <| zH <| zA <| zs rfl <| zD <| zB <| g_u (zE rfl rfl) <| zH <| zA <| zL <| zK ?_
          exact ⟨⟨(rfl : toAV (Al.look _ _) = some _).trans (congrArg some (by (exact congrArg bv (by first | exact (decide_eq_false (fun e => q ⟨congrArg GSpan.code e, congrArg GSpan.note e⟩)).symm | exact (decide_eq_false (fun e => q (by rw [e]))).symm | (rw [Bool.eq_iff_iff, decide_eq_true_iff, decide_eq_true_iff]; exact ⟨fun h => GSpan.ext' e0 e1 e2 e3 e4 e5 e6 e7 e9 e10 h e8.1 e8.2, fun h => by rw [h]⟩))))), rfl⟩, trivial⟩
      · rw [hb3]
        have q : ¬ a.parent = b.parent := by have e := hb3; simpa using e
        refine zI rfl rfl rfl <| zI rfl rfl rfl <| zI rfl rfl rfl <| zI rfl rfl rfl <| zI rfl rfl rfl <| g_u (zh rfl rfl rfl) <| g_u (zC rfl rfl) <| zI rfl rfl rfl <| zI rfl rfl rfl <| zI rfl rfl rfl <| zI rfl rfl rfl <| zI rfl rfl rfl <| g_u (zh rfl rfl rfl) <| g_u (zE rfl rfl) <| zH <| zA <| zD <| zD <| zB <| g_u (zC rfl rfl) <| g_u (uA rfl rfl) <| g_u (zC rfl rfl) <| zI rfl rfl rfl <| zI rfl rfl rfl <| zI rfl rfl rfl <| zI rfl rfl rfl <| zI rfl rfl rfl <| g_u (zZ rfl rfl rfl) <| g_u (zC rfl rfl) <| zI rfl rfl rfl <| zI rfl rfl rfl <| zI rfl rfl rfl <| zI rfl rfl rfl <| zI rfl rfl rfl <| g_u (zZ rfl rfl rfl) <| g_u (zC rfl rfl) <| zI rfl rfl rfl <| zI rfl rfl rfl <| zI rfl rfl rfl <| zI rfl rfl rfl <| zI rfl rfl rfl <| g_u (zZ rfl rfl rfl) <| g_u (zC rfl rfl) <| zI rfl rfl rfl <| zI rfl rfl rfl <| zI rfl rfl rfl <| zI rfl rfl rfl <| zI rfl rfl rfl <| g_u (zZ rfl rfl rfl) <| g_u (zC rfl rfl) <| zI rfl rfl rfl <| zI rfl rfl rfl <| zI rfl rfl rfl <| zI rfl rfl rfl <| zI rfl rfl rfl <| zI rfl rfl rfl <| g_u (zZ rfl rfl rfl) <| zH <| zA <| zs rfl <| zD <| zB <| g_u (zE rfl rfl) <| zH <| zA <| zL <| zK ?_
        exact ⟨⟨(rfl : toAV (Al.look _ _) = some _).trans (congrArg some (by (exact congrArg bv (by first | exact (decide_eq_false (fun e => q ⟨congrArg GSpan.code e, congrArg GSpan.note e⟩)).symm | exact (decide_eq_false (fun e => q (by rw [e]))).symm | (rw [Bool.eq_iff_iff, decide_eq_true_iff, decide_eq_true_iff]; exact ⟨fun h => GSpan.ext' e0 e1 e2 e3 e4 e5 e6 e7 e9 e10 h e8.1 e8.2, fun h => by rw [h]⟩))))), rfl⟩, trivial⟩
    · rw [hb2]
      have q : ¬ a.id = b.id := by have e := hb2; simpa using e
      refine zI rfl rfl rfl <| zI rfl rfl rfl <| zI rfl rfl rfl <| zI rfl rfl rfl <| zI rfl rfl rfl <| g_u (zh rfl rfl rfl) <| g_u (zC rfl rfl) <| zI rfl rfl rfl <| zI rfl rfl rfl <| zI rfl rfl rfl <| zI rfl rfl rfl <| zI rfl rfl rfl <| g_u (zh rfl rfl rfl) <| g_u (zC rfl rfl) <| zI rfl rfl rfl <| zI rfl rfl rfl <| zI rfl rfl rfl <| zI rfl rfl rfl <| zI rfl rfl rfl <| g_u (zh rfl rfl rfl) <| g_u (zE rfl rfl) <| zH <| zA <| zD <| zD <| zB <| g_u (zC rfl rfl) <| g_u (uA rfl rfl) <| g_u (zC rfl rfl) <| zI rfl rfl rfl <| zI rfl rfl rfl <| zI rfl rfl rfl <| zI rfl rfl rfl <| zI rfl rfl rfl <| g_u (zZ rfl rfl rfl) <| g_u (zC rfl rfl) <| zI rfl rfl rfl <| zI rfl rfl rfl <| zI rfl rfl rfl <| zI rfl rfl rfl <| zI rfl rfl rfl <| g_u (zZ rfl rfl rfl) <| g_u (zC rfl rfl) <| zI rfl rfl rfl <| zI rfl rfl rfl <| zI rfl rfl rfl <| zI rfl rfl rfl <| zI rfl rfl rfl <| g_u (zZ rfl rfl rfl) <| g_u (zC rfl rfl) <| zI rfl rfl rfl <| zI rfl rfl rfl <| zI rfl rfl rfl <| zI rfl rfl rfl <| zI rfl rfl rfl <| g_u (zZ rfl rfl rfl) <| g_u (zC rfl rfl) <| zI rfl rfl rfl <| zI rfl rfl rfl <| zI rfl rfl rfl <| zI rfl rfl rfl <| zI rfl rfl rfl <| zI rfl rfl rfl <| g_u (zZ rfl rfl rfl) <| zH <| zA <| zs rfl <| zD <| zB <| g_u (zE rfl rfl) <| zH <| zA <| zL <| zK ?_
      exact ⟨⟨(rfl : toAV (Al.look _ _) = some _).trans (congrArg some (by (exact congrArg bv (by first | exact (decide_eq_false (fun e => q ⟨congrArg GSpan.code e, congrArg GSpan.note e⟩)).symm | exact (decide_eq_false (fun e => q (by rw [e]))).symm | (rw [Bool.eq_iff_iff, decide_eq_true_iff, decide_eq_true_iff]; exact ⟨fun h => GSpan.ext' e0 e1 e2 e3 e4 e5 e6 e7 e9 e10 h e8.1 e8.2, fun h => by rw [h]⟩))))), rfl⟩, trivial⟩
  · rw [hb1]
    have q : ¬ a.trace = b.trace := by have e := hb1; simpa using e
    refine zI rfl rfl rfl <| zI rfl rfl rfl <| zI rfl rfl rfl <| zI rfl rfl rfl <| zI rfl rfl rfl <| g_u (zh rfl rfl rfl) <| g_u (zC rfl rfl) <| zI rfl rfl rfl <| zI rfl rfl rfl <| zI rfl rfl rfl <| zI rfl rfl rfl <| zI rfl rfl rfl <| g_u (zh rfl rfl rfl) <| g_u (zC rfl rfl) <| zI rfl rfl rfl <| zI rfl rfl rfl <| zI rfl rfl rfl <| zI rfl rfl rfl <| zI rfl rfl rfl <| g_u (zh rfl rfl rfl) <| g_u (zC rfl rfl) <| zI rfl rfl rfl <| zI rfl rfl rfl <| zI rfl rfl rfl <| zI rfl rfl rfl <| zI rfl rfl rfl <| g_u (zh rfl rfl rfl) <| g_u (zE rfl rfl) <| zH <| zA <| zD <| zD <| zB <| g_u (zC rfl rfl) <| g_u (uA rfl rfl) <| g_u (zC rfl rfl) <| zI rfl rfl rfl <| zI rfl rfl rfl <| zI rfl rfl rfl <| zI rfl rfl rfl <| zI rfl rfl rfl <| g_u (zZ rfl rfl rfl) <| g_u (zC rfl rfl) <| zI rfl rfl rfl <| zI rfl rfl rfl <| zI rfl rfl rfl <| zI rfl rfl rfl <| zI rfl rfl rfl <| g_u (zZ rfl rfl rfl) <| g_u (zC rfl rfl) <| zI rfl rfl rfl <| zI rfl rfl rfl <| zI rfl rfl rfl <| zI rfl rfl rfl <| zI rfl rfl rfl <| g_u (zZ rfl rfl rfl) <| g_u (zC rfl rfl) <| zI rfl rfl rfl <| zI rfl rfl rfl <| zI rfl rfl rfl <| zI rfl rfl rfl <| zI rfl rfl rfl <| g_u (zZ rfl rfl rfl) <| g_u (zC rfl rfl) <| zI rfl rfl rfl <| zI rfl rfl rfl <| zI rfl rfl rfl <| zI rfl rfl rfl <| zI rfl rfl rfl <| zI rfl rfl rfl <| g_u (zZ rfl rfl rfl) <| zH <| zA <| zs rfl <| zD <| zB <| g_u (zE rfl rfl) <| zH <| zA <| zL <| zK ?_
    exact ⟨⟨(rfl : toAV (Al.look _ _) = some _).trans (congrArg some (by (exact congrArg bv (by first | exact (decide_eq_false (fun e => q ⟨congrArg GSpan.code e, congrArg GSpan.note e⟩)).symm | exact (decide_eq_false (fun e => q (by rw [e]))).symm | (rw [Bool.eq_iff_iff, decide_eq_true_iff, decide_eq_true_iff]; exact ⟨fun h => GSpan.ext' e0 e1 e2 e3 e4 e5 e6 e7 e9 e10 h e8.1 e8.2, fun h => by rw [h]⟩))))), rfl⟩, trivial⟩
end Go.Proofs
namespace Go.Proofs
open Go Go.Al
set_option maxRecDepth 10000
end Go.Proofs
namespace Go.Proofs
open Go Go.Al
set_option maxRecDepth 10000
end Go.Proofs
namespace Go.Proofs
open Go Go.Al
set_option maxRecDepth 10000
end Go.Proofs
namespace Go.Al
open Go.RowKit
section
variable {C : Cx} {A : Nat → SV} {d : Nat} {ty : TypeId} {pos : String} {af : Array Edge} {gd : Option (Nat × Bool)} {x y : Operand} {T T' : TypeId}
theorem s_loadByte {g o n : Nat} {l : List UInt8} {T0 : TypeId} (hN : Nat.blt d C.N = true) (h : opS A x = .ptr g o) (hg : A g = .box T0 (.imm (.arr n l))) (hq : xd C.P T = some false) (hn : yJ C.P T = some 1) (ho : o < n) :
    zv C ⟨some d, .load T x, ty, pos, af, gd⟩ (g :: opR x) [] A [(d, .imm (.v (wr (l.getD o 0))))] := by
  refine zv.value rfl hN fun A' G a w hR S => ?_
  have hgA : A' g = .box T0 (.imm (.arr n l)) := (hR g List.mem_cons_self).trans hg
  obtain ⟨c, h1, h2⟩ := S.opS ((yd (fun k hk => hR k (List.mem_cons_of_mem _ hk))).trans h) rfl
  simp only [RepS] at h1
  have hev : a.eval x = .pointer (some ⟨G.blk g, o, none⟩) := by rw [h2, h1]; rfl
  have hb := S.holds g
  rw [hgA] at hb
  simp only [Holds] at hb
  obtain ⟨how, ⟨cs, fr, hb0, hrep, huf⟩, hni⟩ := hb
  simp only [RepS, RepC] at hrep
  obtain ⟨e1, e2⟩ := hrep
  have hol : o < l.length := by omega
  have hcell : w.cell? ⟨G.blk g, o, none⟩ = some (wr (l.getD o 0)) := by
    simp only [World.cell?, hb0, Option.isSome_none, Bool.false_eq_true, if_false]
    rw [← Array.getElem?_toList, e1, List.getElem?_map, List.getElem?_eq_getElem hol]
    simp [List.getD_eq_getElem?_getD, hol]
  refine ⟨wr (l.getD o 0), ?_, yg.2 (xm _ _ rfl)⟩
  simp only [execOp, Instr.loadAt, Instr.sureAddr, hev, Sem.run_bind, Sem.run_pure, Result.andThen_ok]
  rw [vh (cs := [wr (l.getD o 0)]) hq (by simpa using hn) (fun _ => rfl) (fun j hj => by
    have : j = 0 := by simpa using hj
    subst this; simpa using hcell)]
  rfl
end
end Go.Al
namespace Go.Proofs
open Go Go.Al
theorem orC_assoc (a b c : Int) : orC (orC a b) c = orC a (orC b c) := by
  by_cases ha : a = 0
  · rw [zJ a b ha, zJ a (orC b c) ha]
  · rw [zj a b ha, zj a c ha, zj a (orC b c) ha]
theorem vU (s : GSpan) : vP s = orC (if xg s.trace || xg s.id then 10 else 0) (orC (orC (xE s.state) (xE s.name)) (orC (if s.kind < 0 ∨ 5 < s.kind then 7 else 0) (orC (xr ⟨s.start, s.fin⟩) (orC (orC (ym s.attrs) (orC (evsC s.events) (lksC s.links))) (orC (if s.code < 0 ∨ 2 < s.code then 7 else 0) (xE s.note)))))) := by
  unfold vP
  simp only [firstC, orC_right, orC_assoc]
theorem zeros_snoc : ∀ (m : Bs) (x : UInt8), xg (m ++ [x]) = (xg m && (x == 0))
  | [], x => by simp [xg]
  | y :: m, x => by
    have := zeros_snoc m x
    simp only [xg, List.cons_append, List.all_cons] at this ⊢
    rw [this, Bool.and_assoc]
theorem byte0 (x : UInt8) : (((x.toNat : Nat) : Int) == 0) = (x == 0) := by
  rw [Bool.eq_iff_iff, beq_iff_eq, beq_iff_eq]
  constructor
  · intro h
    have h2 : x.toNat = (0 : UInt8).toNat := by show x.toNat = 0; omega
    exact UInt8.toNat_inj.1 h2
  · rintro rfl; rfl
theorem rL {l : Bs} {i : Nat} (h : i < l.length) : xg (l.take (i + 1)) = (xg (l.take i) && ((((l.getD i 0).toNat : Nat) : Int) == 0)) := by
  rw [byte0, ← zeros_snoc]
  congr 1
  rw [List.take_succ_eq_append_getElem h]
  simp [List.getD_eq_getElem?_getD, h]
end Go.Proofs
namespace Go.Proofs
open Go Go.Al
set_option maxRecDepth 10000
theorem rh (t : ByteArray) (ht : t.size < 9223372036854775808) : zn Tryz.prog Γ0 75 [sv t] [iv (xE t)] := by
  have cr := rk t
  have ce := check_eq t
  refine z_ Tryz.func75 rfl Tryz.ntmps75 (by kernel_rfl) rfl fun w0 I0 G0 => ?_
  refine zD <| zB <| g_u (zE rfl rfl) <| zH <| zA <| zD <| zD <| zB <| g_u (zC rfl rfl) ?_
  refine g_u (zP (rcheck_c _ (by omega)) rfl rfl) ?_
  refine g_u (xl rfl rfl rfl) <| zH <| zA ?_
  refine zN rfl (fun hb1 => ?_) (fun hb1 => ?_)
  · have q := bne_iff_ne.1 hb1
    refine zD <| zB <| g_u (zE rfl rfl) <| zH <| zA <| zL <| zK ?_
    exact ⟨⟨(rfl : toAV (Al.look _ _) = some _).trans (congrArg some (by (exact congrArg iv (by unfold xE; (repeat' split) <;> first | rfl | omega)))), rfl⟩, trivial⟩
  · have q := qd.1 hb1
    refine zQ <| zA <| zD <| zD <| zB <| g_u (zC rfl rfl) <| g_u (yp rfl rfl Tryz.underlying9) <| g_u (wD rfl rfl rfl) <| zH <| zA ?_
    refine zN rfl (fun hb2 => ?_) (fun hb2 => ?_)
    · have q := of_decide_eq_true hb2
      refine zD <| zB <| g_u (zE rfl rfl) <| zH <| zA <| zL <| zK ?_
      exact ⟨⟨(rfl : toAV (Al.look _ _) = some _).trans (congrArg some (by (exact congrArg iv (by unfold xE; (repeat' split) <;> first | rfl | omega)))), rfl⟩, trivial⟩
    · have q := of_decide_eq_false hb2
      refine zQ <| zA <| zD <| zB <| g_u (zE rfl rfl) <| zH <| zA <| zL ?_
      exact ⟨⟨(rfl : toAV (Al.look _ _) = some _).trans (congrArg some (by (exact congrArg iv (by unfold xE; (repeat' split) <;> first | rfl | omega)))), rfl⟩, trivial⟩
theorem or_c (a b : Int) : zn Tryz.prog Γ0 109 [iv a, iv b] [iv (orC a b)] := by
  refine z_ Tryz.func109 rfl Tryz.ntmps109 (by kernel_rfl) rfl fun w0 I0 G0 => ?_
  refine zD <| zB <| g_u (zE rfl rfl) <| zH <| zA <| zD <| zD <| zB <| g_u (zC rfl rfl) <| g_u (xl rfl rfl rfl) <| zH <| zA ?_
  refine zN rfl (fun hb1 => ?_) (fun hb1 => ?_)
  · have q := bne_iff_ne.1 hb1
    refine zD <| zB <| g_u (zC rfl rfl) <| g_u (zE rfl rfl) <| zH <| zA <| zL <| zK ?_
    exact ⟨⟨(rfl : toAV (Al.look _ _) = some _).trans (congrArg some (by (exact congrArg iv (by first | (rw [zj _ _ q]; done) | (rw [zJ _ _ q]; done))))), rfl⟩, trivial⟩
  · have q := qd.1 hb1
    refine zQ <| zA <| zD <| zB <| g_u (zC rfl rfl) <| g_u (zE rfl rfl) <| zH <| zA <| zL ?_
    exact ⟨⟨(rfl : toAV (Al.look _ _) = some _).trans (congrArg some (by (exact congrArg iv (by first | (rw [zj _ _ q]; done) | (rw [zJ _ _ q]; done))))), rfl⟩, trivial⟩
set_option maxHeartbeats 1000000 in
theorem none_c (t id : Bs) (h1 : t.length = 16) (h2 : id.length = 8) : zn Tryz.prog Γ0 108 [.arr 16 t, .arr 8 id] [bv (xg t || xg id)] := by
  refine z_ Tryz.func108 rfl Tryz.ntmps108 (by kernel_rfl) rfl fun w0 I0 G0 => ?_
  refine zD <| zB <| g_uG (zk 1002 rfl rfl rfl rfl) rfl <| g_uG (zk 1003 rfl rfl rfl rfl) rfl <| g_u (zE rfl rfl) <| zH <| zA <| zD <| zB <| g_u (zE rfl rfl) <| g_u (zE rfl rfl) <| zH <| zA <| zD <| zD <| zB <| g_u (zE rfl rfl) <| zH <| zA <| zU ?_
  refine zw (fun i : Nat => [(2, .ptr 1002 0), (1002, .box 54 (.imm (.arr 16 t))), (3, .ptr 1003 0), (1003, .box 56 (.imm (.arr 8 id))), (5, .imm (bv (xg (t.take i)))), (6, .imm (bv true)), (7, .imm (iv (i : Int)))]) (fun i => i ≤ 16) (fun i => 16 - i) (0) ?_ ⟨rfl, rfl, rfl, rfl, rfl, rfl, rfl, trivial⟩ ?_
  · exact Nat.zero_le _
  · rintro i h1i; have h1i : i ≤ 16 := h1i
    refine zD <| zD <| zB <| g_u (zC rfl rfl) <| g_u (ye rfl rfl rfl) <| zH <| zA ?_
    refine zN rfl (fun hb1 => ?_) (fun hb1 => ?_)
    · have hii : i + 1 ≤ 16 := by have := of_decide_eq_true hb1; omega
      refine zQ <| zA <| zD <| zU <| zB <| g_u (zC rfl rfl) <| g_u (zC rfl rfl) <| yB (t := 14) rfl ?_
      rintro (hb2 | hb2)
      · rw [hb2]
        have q : xg (t.take i) = true := hb2
        refine zY rfl rfl (zC rfl rfl) ?_
        refine zY rfl rfl (s_ixOwn rfl rfl rfl Tryz.underlying54 tS5 (by ((try simp only [decide_eq_true_eq, decide_eq_false_iff_not, bne_iff_ne, ne_eq, beq_iff_eq, qd, beq_eq_false_iff_ne, Bool.not_eq_true', Bool.not_eq_false', gt_iff_lt, ge_iff_le] at *); (repeat simp (disch := omega) only [zO, zi] at *)); omega)) ?_
        refine zY rfl rfl (s_loadByte rfl rfl rfl tA5 tS5 (by (try dsimp only); omega)) ?_
        refine zY rfl rfl (yz rfl rfl rfl) <| g_u (zZ rfl rfl rfl) <| g_u (zE rfl rfl) <| zH <| zW <| zA <| zB <| g_u (zC rfl rfl) <| g_u (z0 rfl rfl rfl) <| g_u (zE rfl rfl) <| zH <| zA ?_
        have ez := rL (l := t) (i := i) (by omega)
        have ei : (0 + ((i : Nat) : Int).toNat) = i := by omega
        refine ⟨i + 1, hii, ⟨rfl, rfl, rfl, rfl, xF rfl (by first | (rw [ez, q]; done) | (rw [ez, q]; rfl) | (rw [ez, q]; simp only [ei, Bool.true_and]; done) | (rw [ez, q]; simp only [ei, Bool.true_and]; rfl)), rfl, zX rfl (by rw [zO (by omega) (by omega)]; rfl), trivial⟩, by (try dsimp only); omega⟩
      · rw [hb2]
        have q : xg (t.take i) = false := hb2
        refine zI rfl rfl rfl <| zI rfl rfl rfl <| zI rfl rfl rfl <| zI rfl rfl rfl <| g_u (zh rfl rfl rfl) <| g_u (zE rfl rfl) <| zH <| zW <| zA <| zB <| g_u (zC rfl rfl) <| g_u (z0 rfl rfl rfl) <| g_u (zE rfl rfl) <| zH <| zA ?_
        have ez := rL (l := t) (i := i) (by omega)
        have ei : (0 + ((i : Nat) : Int).toNat) = i := by omega
        refine ⟨i + 1, hii, ⟨rfl, rfl, rfl, rfl, xF rfl (by first | (rw [ez, q]; done) | (rw [ez, q]; rfl) | (rw [ez, q]; simp only [ei, Bool.true_and]; done) | (rw [ez, q]; simp only [ei, Bool.true_and]; rfl)), rfl, zX rfl (by rw [zO (by omega) (by omega)]; rfl), trivial⟩, by (try dsimp only); omega⟩
    · have hin : i = 16 := by have := of_decide_eq_false hb1; omega
      refine zz <| zT <| zT <| zq <| zA <| zD <| zD <| zB <| g_u (zE rfl rfl) <| zH <| zA <| zU ?_
      refine zw (fun j : Nat => [(2, .ptr 1002 0), (1002, .box 54 (.imm (.arr 16 t))), (3, .ptr 1003 0), (1003, .box 56 (.imm (.arr 8 id))), (5, .imm (bv (xg t))), (6, .imm (bv (xg (id.take j)))), (8, .imm (iv (j : Int)))]) (fun j => j ≤ 8) (fun j => 8 - j) (0) ?_ ⟨rfl, rfl, rfl, rfl, xF rfl (by rw [hin, ← h1, List.take_length]), rfl, rfl, trivial⟩ ?_
      · exact Nat.zero_le _
      · rintro j h1j; have h1j : j ≤ 8 := h1j
        refine zD <| zD <| zB <| g_u (zC rfl rfl) <| g_u (ye rfl rfl rfl) <| zH <| zA ?_
        refine zN rfl (fun hb3 => ?_) (fun hb3 => ?_)
        · have hij : j + 1 ≤ 8 := by have := of_decide_eq_true hb3; omega
          refine zQ <| zA <| zD <| zU <| zB <| g_u (zC rfl rfl) <| g_u (zC rfl rfl) <| yB (t := 25) rfl ?_
          rintro (hb4 | hb4)
          · rw [hb4]
            have q : xg (id.take j) = true := hb4
            refine zY rfl rfl (zC rfl rfl) ?_
            refine zY rfl rfl (s_ixOwn rfl rfl rfl Tryz.underlying56 tS5 (by ((try simp only [decide_eq_true_eq, decide_eq_false_iff_not, bne_iff_ne, ne_eq, beq_iff_eq, qd, beq_eq_false_iff_ne, Bool.not_eq_true', Bool.not_eq_false', gt_iff_lt, ge_iff_le] at *); (repeat simp (disch := omega) only [zO, zi] at *)); omega)) ?_
            refine zY rfl rfl (s_loadByte rfl rfl rfl tA5 tS5 (by (try dsimp only); omega)) ?_
            refine zY rfl rfl (yz rfl rfl rfl) <| g_u (zZ rfl rfl rfl) <| g_u (zE rfl rfl) <| zH <| zW <| zA <| zB <| g_u (zC rfl rfl) <| g_u (z0 rfl rfl rfl) <| g_u (zE rfl rfl) <| zH <| zA ?_
            have ez := rL (l := id) (i := j) (by omega)
            have ei : (0 + ((j : Nat) : Int).toNat) = j := by omega
            refine ⟨j + 1, hij, ⟨rfl, rfl, rfl, rfl, rfl, xF rfl (by first | (rw [ez, q]; done) | (rw [ez, q]; rfl) | (rw [ez, q]; simp only [ei, Bool.true_and]; done) | (rw [ez, q]; simp only [ei, Bool.true_and]; rfl)), zX rfl (by rw [zO (by omega) (by omega)]; rfl), trivial⟩, by (try dsimp only); omega⟩
          · rw [hb4]
            have q : xg (id.take j) = false := hb4
            refine zI rfl rfl rfl <| zI rfl rfl rfl <| zI rfl rfl rfl <| zI rfl rfl rfl <| g_u (zh rfl rfl rfl) <| g_u (zE rfl rfl) <| zH <| zW <| zA <| zB <| g_u (zC rfl rfl) <| g_u (z0 rfl rfl rfl) <| g_u (zE rfl rfl) <| zH <| zA ?_
            have ez := rL (l := id) (i := j) (by omega)
            have ei : (0 + ((j : Nat) : Int).toNat) = j := by omega
            refine ⟨j + 1, hij, ⟨rfl, rfl, rfl, rfl, rfl, xF rfl (by first | (rw [ez, q]; done) | (rw [ez, q]; rfl) | (rw [ez, q]; simp only [ei, Bool.true_and]; done) | (rw [ez, q]; simp only [ei, Bool.true_and]; rfl)), zX rfl (by rw [zO (by omega) (by omega)]; rfl), trivial⟩, by (try dsimp only); omega⟩
        · have hjn : j = 8 := by have := of_decide_eq_false hb3; omega
          refine zz <| zT <| zT <| zq <| zA <| zD <| zB <| g_u (zC rfl rfl) <| g_u (zC rfl rfl) <| yB (t := 32) rfl ?_
          rintro (hb5 | hb5)
          · rw [hb5]
            have q : xg t = true := hb5
            refine zI rfl rfl rfl <| g_u (zZ rfl rfl rfl) <| g_u (zE rfl rfl) <| zH <| zA <| zL ?_
            exact ⟨⟨(rfl : toAV (Al.look _ _) = some _).trans (congrArg some (by (exact congrArg bv (by (try rw [q]); first | rfl | (rw [hjn, ← h2, List.take_length]; rfl))))), rfl⟩, trivial⟩
          · rw [hb5]
            have q : xg t = false := hb5
            refine zY rfl rfl (zC rfl rfl) <| g_u (zh rfl rfl rfl) <| g_u (zE rfl rfl) <| zH <| zA <| zL ?_
            exact ⟨⟨(rfl : toAV (Al.look _ _) = some _).trans (congrArg some (by (exact congrArg bv (by (try rw [q]); first | rfl | (rw [hjn, ← h2, List.take_length]; rfl))))), rfl⟩, trivial⟩
set_option maxHeartbeats 1000000 in
theorem revents_c (l : List GE) (ho : ∀ e ∈ l, e.ok) (hw : zg GE.wt l ≤ 1000000) : zn Tryz.prog Γ0 111 [.sl 3 (l.map GE.av)] [iv (evsC l)] := by
  have ql := yX GE.wt (fun e => by unfold GE.wt; omega) l
  refine z_ Tryz.func111 rfl Tryz.ntmps111 (by kernel_rfl) rfl fun w0 I0 G0 => ?_
  refine zD <| zB <| g_u (zE rfl rfl) <| zH <| zA <| zD <| zD <| zB <| g_u (zC rfl rfl) <| g_u (z7 rfl rfl Tryz.underlying58) <| g_u (wD rfl rfl rfl) <| zH <| zA ?_
  refine zN rfl (fun hb1 => ?_) (fun hb1 => ?_)
  · have q16 : 16 < l.length := by have := of_decide_eq_true hb1; (try simp only [List.length_map] at this); omega
    refine zD <| zB <| g_u (zE rfl rfl) <| zH <| zA <| zL <| zK ?_
    exact ⟨⟨(rfl : toAV (Al.look _ _) = some _).trans (congrArg some (by (exact congrArg iv (by unfold evsC; first | (rw [if_pos q16]; done) | (rw [if_neg q16, h2, hin, List.drop_length]; rfl) | (rw [if_neg q16, h2, E, if_pos qt]; done) | (rw [if_neg q16, h2, E, if_neg qt, zj _ _ q]; done))))), rfl⟩, trivial⟩
  · have q16 : ¬ 16 < l.length := by have := of_decide_eq_false hb1; (try simp only [List.length_map] at this); omega
    refine zQ <| zA <| zD <| zD <| zB <| g_u (zE rfl rfl) <| zH <| zA <| zU ?_
    refine zw (fun i : Nat => [(0, .imm (.sl 3 (l.map GE.av))), (3, .imm (iv (i : Int)))]) (fun i => i ≤ l.length ∧ evC l = evC (l.drop i)) (fun i => l.length - i) (0) ?_ ⟨rfl, rfl, trivial⟩ ?_
    · exact ⟨Nat.zero_le _, rfl⟩
    · rintro i ⟨h1, h2⟩; (try dsimp only at h1 h2)
      refine zD <| zD <| zB <| g_u (zC rfl rfl) <| g_u (zC rfl rfl) <| g_u (z7 rfl rfl Tryz.underlying58) <| g_u (ye rfl rfl rfl) <| zH <| zA ?_
      refine zN rfl (fun hb2 => ?_) (fun hb2 => ?_)
      · have hi : i < l.length := by have := of_decide_eq_true hb2; (try simp only [List.length_map] at this); omega
        have hx := yP GE.wt (v_ hi)
        have hx2 : (nthE l i).wt = 1 + (nthE l i).name.size + wtAs (nthE l i).attrs := rfl
        have hxo := (ho _ (v_ hi)).2.2
        have E := evC_drop hi
        refine zQ <| zA <| zD <| zU <| zD <| zD <| zB <| g_u (zC rfl rfl) <| g_u (zC rfl rfl) ?_
        refine g_u (zR rfl rfl rfl Tryz.underlying58 tS92 (by omega) (ixE hi)) ?_
        refine g_u (zf rfl rfl fa92_0 rfl rfl) <| g_u (zd rfl rfl tA57 tS57 rfl rfl) <| g_u (wD rfl rfl rfl) <| zH <| zA ?_
        refine zN rfl (fun hb3 => ?_) (fun hb3 => ?_)
        · have qt : 9223372036854775807 < (nthE l i).time := of_decide_eq_true hb3
          refine zD <| zB <| g_u (zE rfl rfl) <| zH <| zA <| zL <| zK <| zt <| zK <| zK <| zt <| zK ?_
          exact ⟨⟨(rfl : toAV (Al.look _ _) = some _).trans (congrArg some (by (exact congrArg iv (by unfold evsC; first | (rw [if_pos q16]; done) | (rw [if_neg q16, h2, hin, List.drop_length]; rfl) | (rw [if_neg q16, h2, E, if_pos qt]; done) | (rw [if_neg q16, h2, E, if_neg qt, zj _ _ q]; done))))), rfl⟩, trivial⟩
        · have qt : ¬ 9223372036854775807 < (nthE l i).time := of_decide_eq_false hb3
          refine zQ <| zA <| zD <| y_ xR <| g_u (zC rfl rfl) <| g_u (zC rfl rfl) ?_
          refine g_u (zR rfl rfl rfl Tryz.underlying58 tS92 (by omega) (ixE hi)) ?_
          refine g_u (zf rfl rfl jK rfl rfl) <| g_u (zd rfl rfl tA9 tS9 rfl rfl) ?_
          refine g_u (zP (rh _ (by omega)) rfl rfl) ?_
          refine g_u (zC rfl rfl) <| g_u (zC rfl rfl) ?_
          refine g_u (zR rfl rfl rfl Tryz.underlying58 tS92 (by omega) (ixE hi)) ?_
          refine g_u (zf rfl rfl fa92_2 rfl rfl) <| g_u (zd rfl rfl tA44 tS44 rfl rfl) ?_
          refine g_u (zP (sx _ (by assumption) (by omega)) rfl rfl) ?_
          refine g_u (zP (or_c _ _) rfl rfl) <| g_u (zE rfl rfl) ?_
          refine zH ⟨by kernel_rfl, ?_⟩
          refine zA <| zD <| zB <| g_u (zC rfl rfl) <| g_u (xl rfl rfl rfl) <| zH <| zA ?_
          refine zN rfl (fun hb4 => ?_) (fun hb4 => ?_)
          · have q := bne_iff_ne.1 hb4
            refine zD <| zB <| g_u (zC rfl rfl) <| g_u (zE rfl rfl) <| zH <| zA <| zL <| zt <| zK <| zK <| zt <| zK ?_
            exact ⟨⟨(rfl : toAV (Al.look _ _) = some _).trans (congrArg some (by (exact congrArg iv (by unfold evsC; first | (rw [if_pos q16]; done) | (rw [if_neg q16, h2, hin, List.drop_length]; rfl) | (rw [if_neg q16, h2, E, if_pos qt]; done) | (rw [if_neg q16, h2, E, if_neg qt, zj _ _ q]; done))))), rfl⟩, trivial⟩
          · have q := qd.1 hb4
            refine zQ <| zW <| zA <| zB <| g_u (zC rfl rfl) <| g_u (z0 rfl rfl rfl) <| g_u (zE rfl rfl) <| zH <| zA ?_
            refine ⟨i + 1, ⟨hi, by (try dsimp only); rw [h2, E, if_neg qt, zJ _ _ q]⟩, ⟨rfl, zX rfl (by rw [zO (by omega) (by omega)]; rfl), trivial⟩, by (try dsimp only); omega⟩
      · have hin : i = l.length := by have := of_decide_eq_false hb2; (try simp only [List.length_map] at this); omega
        refine zz <| zT <| zT <| zq <| zA <| zD <| zB <| g_u (zE rfl rfl) <| zH <| zA <| zL ?_
        exact ⟨⟨(rfl : toAV (Al.look _ _) = some _).trans (congrArg some (by (exact congrArg iv (by unfold evsC; first | (rw [if_pos q16]; done) | (rw [if_neg q16, h2, hin, List.drop_length]; rfl) | (rw [if_neg q16, h2, E, if_pos qt]; done) | (rw [if_neg q16, h2, E, if_neg qt, zj _ _ q]; done))))), rfl⟩, trivial⟩
set_option maxHeartbeats 2000000 in
theorem rlinks_c (l : List GL) (ho : ∀ e ∈ l, e.ok) (hw : zg GL.wt l ≤ 1000000) : zn Tryz.prog Γ0 112 [.sl 26 (l.map GL.av)] [iv (lksC l)] := by
  have ql := yX GL.wt (fun e => by unfold GL.wt; omega) l
  refine z_ Tryz.func112 rfl Tryz.ntmps112 (by kernel_rfl) rfl fun w0 I0 G0 => ?_
  refine zD <| zB <| g_u (zE rfl rfl) <| zH <| zA <| zD <| zD <| zB <| g_u (zC rfl rfl) <| g_u (z7 rfl rfl Tryz.underlying59) <| g_u (wD rfl rfl rfl) <| zH <| zA ?_
  refine zN rfl (fun hb1 => ?_) (fun hb1 => ?_)
  · have q16 : 16 < l.length := by have := of_decide_eq_true hb1; (try simp only [List.length_map] at this); omega
    refine zD <| zB <| g_u (zE rfl rfl) <| zH <| zA <| zL <| zK ?_
    exact ⟨⟨(rfl : toAV (Al.look _ _) = some _).trans (congrArg some (by (exact congrArg iv (by unfold lksC; first | (rw [if_pos q16]; done) | (rw [if_neg q16, h2, hin, List.drop_length]; rfl) | (rw [if_neg q16, h2, E, if_pos q]; done) | (rw [if_neg q16, h2, E, q, if_neg (by decide), zj _ _ q2]; done))))), rfl⟩, trivial⟩
  · have q16 : ¬ 16 < l.length := by have := of_decide_eq_false hb1; (try simp only [List.length_map] at this); omega
    refine zQ <| zA <| zD <| zD <| zB <| g_u (zE rfl rfl) <| zH <| zA <| zU ?_
    refine zw (fun i : Nat => [(0, .imm (.sl 26 (l.map GL.av))), (3, .imm (iv (i : Int)))]) (fun i => i ≤ l.length ∧ lkC l = lkC (l.drop i)) (fun i => l.length - i) (0) ?_ ⟨rfl, rfl, trivial⟩ ?_
    · exact ⟨Nat.zero_le _, rfl⟩
    · rintro i ⟨h1, h2⟩; (try dsimp only at h1 h2)
      refine zD <| zD <| zB <| g_u (zC rfl rfl) <| g_u (zC rfl rfl) <| g_u (z7 rfl rfl Tryz.underlying59) <| g_u (ye rfl rfl rfl) <| zH <| zA ?_
      refine zN rfl (fun hb2 => ?_) (fun hb2 => ?_)
      · have hi : i < l.length := by have := of_decide_eq_true hb2; (try simp only [List.length_map] at this); omega
        have hx := yP GL.wt (jC hi)
        have hx2 : (nthL l i).wt = 1 + (nthL l i).state.size + wtAs (nthL l i).attrs := rfl
        have hx3 := ho _ (jC hi)
        have hxo := hx3.2.2.2
        have hx4 := hx3.1
        have hx5 := hx3.2.1
        have E := lkC_drop hi
        refine zQ <| zA <| zD <| zU <| zD <| zD <| y_ xR <| g_u (zC rfl rfl) <| g_u (zC rfl rfl) ?_
        refine g_u (zR rfl rfl rfl Tryz.underlying59 tS94 (by omega) (ixL hi)) ?_
        refine g_u (zf rfl rfl fa94_0 rfl rfl) <| g_u (zd rfl rfl tA54 tS54 rfl rfl) <| g_u (zC rfl rfl) <| g_u (zC rfl rfl) ?_
        refine g_u (zR rfl rfl rfl Tryz.underlying59 tS94 (by omega) (ixL hi)) ?_
        refine g_u (zf rfl rfl fa94_1 rfl rfl) <| g_u (zd rfl rfl tA56 tS56 rfl rfl) ?_
        refine g_u (zP (none_c _ _ (by assumption) (by assumption)) rfl rfl) ?_
        refine zH ⟨by kernel_rfl, ?_⟩
        refine zA ?_
        refine zN rfl (fun hb3 => ?_) (fun hb3 => ?_)
        · have q : (xg (nthL l i).trace || xg (nthL l i).span) = true := hb3
          refine zD <| zB <| g_u (zE rfl rfl) <| zH <| zA <| zL <| zK <| zt <| zK <| zK <| zt <| zK ?_
          exact ⟨⟨(rfl : toAV (Al.look _ _) = some _).trans (congrArg some (by (exact congrArg iv (by unfold lksC; first | (rw [if_pos q16]; done) | (rw [if_neg q16, h2, hin, List.drop_length]; rfl) | (rw [if_neg q16, h2, E, if_pos q]; done) | (rw [if_neg q16, h2, E, q, if_neg (by decide), zj _ _ q2]; done))))), rfl⟩, trivial⟩
        · have q : (xg (nthL l i).trace || xg (nthL l i).span) = false := hb3
          refine zQ <| zA <| zD <| y_ xR <| g_u (zC rfl rfl) <| g_u (zC rfl rfl) ?_
          refine g_u (zR rfl rfl rfl Tryz.underlying59 tS94 (by omega) (ixL hi)) ?_
          refine g_u (zf rfl rfl fa94_2 rfl rfl) <| g_u (zd rfl rfl tA9 tS9 rfl rfl) ?_
          refine g_u (zP (rh _ (by omega)) rfl rfl) ?_
          refine g_u (zC rfl rfl) <| g_u (zC rfl rfl) ?_
          refine g_u (zR rfl rfl rfl Tryz.underlying59 tS94 (by omega) (ixL hi)) ?_
          refine g_u (zf rfl rfl fa94_3 rfl rfl) <| g_u (zd rfl rfl tA44 tS44 rfl rfl) ?_
          refine g_u (zP (sx _ (by assumption) (by omega)) rfl rfl) ?_
          refine g_u (zP (or_c _ _) rfl rfl) <| g_u (zE rfl rfl) ?_
          refine zH ⟨by kernel_rfl, ?_⟩
          refine zA <| zD <| zB <| g_u (zC rfl rfl) <| g_u (xl rfl rfl rfl) <| zH <| zA ?_
          refine zN rfl (fun hb4 => ?_) (fun hb4 => ?_)
          · have q2 := bne_iff_ne.1 hb4
            refine zD <| zB <| g_u (zC rfl rfl) <| g_u (zE rfl rfl) <| zH <| zA <| zL <| zt <| zK <| zK <| zt <| zK ?_
            exact ⟨⟨(rfl : toAV (Al.look _ _) = some _).trans (congrArg some (by (exact congrArg iv (by unfold lksC; first | (rw [if_pos q16]; done) | (rw [if_neg q16, h2, hin, List.drop_length]; rfl) | (rw [if_neg q16, h2, E, if_pos q]; done) | (rw [if_neg q16, h2, E, q, if_neg (by decide), zj _ _ q2]; done))))), rfl⟩, trivial⟩
          · have q2 := qd.1 hb4
            refine zQ <| zW <| zA <| zB <| g_u (zC rfl rfl) <| g_u (z0 rfl rfl rfl) <| g_u (zE rfl rfl) <| zH <| zA ?_
            refine ⟨i + 1, ⟨hi, by (try dsimp only); rw [h2, E, q, if_neg (by decide), zJ _ _ q2]⟩, ⟨rfl, zX rfl (by rw [zO (by omega) (by omega)]; rfl), trivial⟩, by (try dsimp only); omega⟩
      · have hin : i = l.length := by have := of_decide_eq_false hb2; (try simp only [List.length_map] at this); omega
        refine zz <| zT <| zT <| zq <| zA <| zD <| zB <| g_u (zE rfl rfl) <| zH <| zA <| zL ?_
        exact ⟨⟨(rfl : toAV (Al.look _ _) = some _).trans (congrArg some (by (exact congrArg iv (by unfold lksC; first | (rw [if_pos q16]; done) | (rw [if_neg q16, h2, hin, List.drop_length]; rfl) | (rw [if_neg q16, h2, E, if_pos q]; done) | (rw [if_neg q16, h2, E, q, if_neg (by decide), zj _ _ q2]; done))))), rfl⟩, trivial⟩
set_option maxHeartbeats 4000000 in
theorem rspanCheck_c (s : GSpan) (ho : s.ok) (hw : s.wt ≤ 1000000) : zn Tryz.prog Γ0 76 [s.av] [iv (vP s)] := by
  have qw : s.wt = 1 + s.state.size + s.name.size + s.note.size + wtAs s.attrs + zg GE.wt s.events + zg GL.wt s.links := rfl
  have ql := yX GE.wt (fun e => by unfold GE.wt; omega) s.events
  have qm := yX GL.wt (fun e => by unfold GL.wt; omega) s.links
  obtain ⟨⟨o1, o2, o3⟩, ⟨o4, o5, o6⟩, o7, ho8, ho9, ho10⟩ := ho
  refine z_ Tryz.func76 rfl Tryz.ntmps76 (by kernel_rfl) rfl fun w0 I0 G0 => ?_
  refine zD <| zB <| g_uG (zk 1001 rfl rfl rfl rfl) rfl <| g_u (zE rfl rfl) <| zH <| zA <| zD <| zD <| zB <| g_u (zF rfl rfl fa63_0 rfl) <| g_u (zG rfl rfl rfl tA54 tS54 rfl rfl) <| g_u (zF rfl rfl fa63_1 rfl) <| g_u (zG rfl rfl rfl tA56 tS56 rfl rfl) ?_
  refine g_u (zP (none_c _ _ (by assumption) (by assumption)) rfl rfl) ?_
  refine zH <| zA ?_
  refine zN rfl (fun hb1 => ?_) (fun hb1 => ?_)
  · have hz : (xg s.trace || xg s.id) = true := hb1
    refine zD <| zB <| g_u (zE rfl rfl) <| zH <| zA <| zL <| zK ?_
    exact ⟨⟨(rfl : toAV (Al.look _ _) = some _).trans (congrArg some (by (exact congrArg iv (by rw [vU]; first | (rw [hz, if_pos rfl, zj _ _ (by decide)]; done) | (rw [hz, if_neg (by decide), zJ _ _ rfl, zj _ _ q23]; done) | (rw [hz, if_neg (by decide), zJ _ _ rfl, zJ _ _ q23, if_pos hk, zj _ _ (by decide)]; done) | (rw [hz, if_neg (by decide), zJ _ _ rfl, zJ _ _ q23, if_neg hk, zJ _ _ rfl, hf, zj _ _ (by decide)]; done) | (rw [hz, if_neg (by decide), zJ _ _ rfl, zJ _ _ q23, if_neg hk, zJ _ _ rfl, zJ _ _ hf, zj _ _ q6]; done) | (rw [hz, if_neg (by decide), zJ _ _ rfl, zJ _ _ q23, if_neg hk, zJ _ _ rfl, zJ _ _ hf, zJ _ _ q6, if_pos hc, zj _ _ (by decide)]; done) | (rw [hz, if_neg (by decide), zJ _ _ rfl, zJ _ _ q23, if_neg hk, zJ _ _ rfl, zJ _ _ hf, zJ _ _ q6, if_neg hc, zJ _ _ rfl]; done))))), rfl⟩, trivial⟩
  · have hz : (xg s.trace || xg s.id) = false := hb1
    refine zQ <| zA <| zD <| zD <| y_ xR <| g_u (zF rfl rfl fa63_3 rfl) <| g_u (zG rfl rfl rfl tA9 tS9 rfl rfl) ?_
    refine g_u (zP (rh _ (by omega)) rfl rfl) ?_
    refine g_u (zF rfl rfl fa63_4 rfl) <| g_u (zG rfl rfl rfl tA9 tS9 rfl rfl) ?_
    refine g_u (zP (rh _ (by omega)) rfl rfl) ?_
    refine g_u (zP (or_c _ _) rfl rfl) <| g_u (zE rfl rfl) ?_
    refine zH ⟨by kernel_rfl, ?_⟩
    refine zA <| zD <| zB <| g_u (zC rfl rfl) <| g_u (xl rfl rfl rfl) <| zH <| zA ?_
    refine zN rfl (fun hb2 => ?_) (fun hb2 => ?_)
    · have q23 := bne_iff_ne.1 hb2
      refine zD <| zB <| g_u (zC rfl rfl) <| g_u (zE rfl rfl) <| zH <| zA <| zL <| zK ?_
      exact ⟨⟨(rfl : toAV (Al.look _ _) = some _).trans (congrArg some (by (exact congrArg iv (by rw [vU]; first | (rw [hz, if_pos rfl, zj _ _ (by decide)]; done) | (rw [hz, if_neg (by decide), zJ _ _ rfl, zj _ _ q23]; done) | (rw [hz, if_neg (by decide), zJ _ _ rfl, zJ _ _ q23, if_pos hk, zj _ _ (by decide)]; done) | (rw [hz, if_neg (by decide), zJ _ _ rfl, zJ _ _ q23, if_neg hk, zJ _ _ rfl, hf, zj _ _ (by decide)]; done) | (rw [hz, if_neg (by decide), zJ _ _ rfl, zJ _ _ q23, if_neg hk, zJ _ _ rfl, zJ _ _ hf, zj _ _ q6]; done) | (rw [hz, if_neg (by decide), zJ _ _ rfl, zJ _ _ q23, if_neg hk, zJ _ _ rfl, zJ _ _ hf, zJ _ _ q6, if_pos hc, zj _ _ (by decide)]; done) | (rw [hz, if_neg (by decide), zJ _ _ rfl, zJ _ _ q23, if_neg hk, zJ _ _ rfl, zJ _ _ hf, zJ _ _ q6, if_neg hc, zJ _ _ rfl]; done))))), rfl⟩, trivial⟩
    · have q23 := qd.1 hb2
      refine zQ <| zA <| zD <| zD <| zB <| g_u (zF rfl rfl fa63_5 rfl) <| g_u (zG rfl rfl rfl tA3 tS3 rfl rfl) <| g_u (ye rfl rfl rfl) <| g_u (zC rfl rfl) <| yB (t := 23) rfl ?_
      rintro (hb3 | hb3)
      · rw [hb3]
        have hk : s.kind < 0 ∨ 5 < s.kind := .inl (of_decide_eq_true hb3)
        refine zI rfl rfl rfl <| zI rfl rfl rfl <| zI rfl rfl rfl <| g_u (zZ rfl rfl rfl) <| zH <| zA <| zs rfl <| zD <| zB <| g_u (zE rfl rfl) <| zH <| zA <| zL <| zK ?_
        exact ⟨⟨(rfl : toAV (Al.look _ _) = some _).trans (congrArg some (by (exact congrArg iv (by rw [vU]; first | (rw [hz, if_pos rfl, zj _ _ (by decide)]; done) | (rw [hz, if_neg (by decide), zJ _ _ rfl, zj _ _ q23]; done) | (rw [hz, if_neg (by decide), zJ _ _ rfl, zJ _ _ q23, if_pos hk, zj _ _ (by decide)]; done) | (rw [hz, if_neg (by decide), zJ _ _ rfl, zJ _ _ q23, if_neg hk, zJ _ _ rfl, hf, zj _ _ (by decide)]; done) | (rw [hz, if_neg (by decide), zJ _ _ rfl, zJ _ _ q23, if_neg hk, zJ _ _ rfl, zJ _ _ hf, zj _ _ q6]; done) | (rw [hz, if_neg (by decide), zJ _ _ rfl, zJ _ _ q23, if_neg hk, zJ _ _ rfl, zJ _ _ hf, zJ _ _ q6, if_pos hc, zj _ _ (by decide)]; done) | (rw [hz, if_neg (by decide), zJ _ _ rfl, zJ _ _ q23, if_neg hk, zJ _ _ rfl, zJ _ _ hf, zJ _ _ q6, if_neg hc, zJ _ _ rfl]; done))))), rfl⟩, trivial⟩
      · rw [hb3]
        have hk0 : ¬ s.kind < 0 := of_decide_eq_false hb3
        refine zY rfl rfl (zF rfl rfl fa63_5 rfl) <| zY rfl rfl (zG rfl rfl rfl tA3 tS3 rfl rfl) <| zY rfl rfl (wD rfl rfl rfl) <| g_u (zh rfl rfl rfl) <| zH <| zA ?_
        refine zN rfl (fun hb4 => ?_) (fun hb4 => ?_)
        · have hk : s.kind < 0 ∨ 5 < s.kind := .inr (of_decide_eq_true hb4)
          refine zD <| zB <| g_u (zE rfl rfl) <| zH <| zA <| zL <| zK ?_
          exact ⟨⟨(rfl : toAV (Al.look _ _) = some _).trans (congrArg some (by (exact congrArg iv (by rw [vU]; first | (rw [hz, if_pos rfl, zj _ _ (by decide)]; done) | (rw [hz, if_neg (by decide), zJ _ _ rfl, zj _ _ q23]; done) | (rw [hz, if_neg (by decide), zJ _ _ rfl, zJ _ _ q23, if_pos hk, zj _ _ (by decide)]; done) | (rw [hz, if_neg (by decide), zJ _ _ rfl, zJ _ _ q23, if_neg hk, zJ _ _ rfl, hf, zj _ _ (by decide)]; done) | (rw [hz, if_neg (by decide), zJ _ _ rfl, zJ _ _ q23, if_neg hk, zJ _ _ rfl, zJ _ _ hf, zj _ _ q6]; done) | (rw [hz, if_neg (by decide), zJ _ _ rfl, zJ _ _ q23, if_neg hk, zJ _ _ rfl, zJ _ _ hf, zJ _ _ q6, if_pos hc, zj _ _ (by decide)]; done) | (rw [hz, if_neg (by decide), zJ _ _ rfl, zJ _ _ q23, if_neg hk, zJ _ _ rfl, zJ _ _ hf, zJ _ _ q6, if_neg hc, zJ _ _ rfl]; done))))), rfl⟩, trivial⟩
        · have hk : ¬ (s.kind < 0 ∨ 5 < s.kind) := fun h => h.elim hk0 (of_decide_eq_false hb4)
          refine zQ <| zA <| zD <| zD <| zB <| g_u (zF rfl rfl fa63_6 rfl) <| g_u (zG rfl rfl rfl tA57 tS57 rfl rfl) <| g_u (zF rfl rfl fa63_7 rfl) <| g_u (zG rfl rfl rfl tA57 tS57 rfl rfl) <| g_u (zP (rfine_c _ _) rfl rfl) <| g_u (uA rfl rfl) <| zH <| zA ?_
          refine zN rfl (fun hb5 => ?_) (fun hb5 => ?_)
          · have hf := rf (s := s.start) (e := s.fin) (by have e := hb5; simpa using e)
            refine zD <| zB <| g_u (zE rfl rfl) <| zH <| zA <| zL <| zK ?_
            exact ⟨⟨(rfl : toAV (Al.look _ _) = some _).trans (congrArg some (by (exact congrArg iv (by rw [vU]; first | (rw [hz, if_pos rfl, zj _ _ (by decide)]; done) | (rw [hz, if_neg (by decide), zJ _ _ rfl, zj _ _ q23]; done) | (rw [hz, if_neg (by decide), zJ _ _ rfl, zJ _ _ q23, if_pos hk, zj _ _ (by decide)]; done) | (rw [hz, if_neg (by decide), zJ _ _ rfl, zJ _ _ q23, if_neg hk, zJ _ _ rfl, hf, zj _ _ (by decide)]; done) | (rw [hz, if_neg (by decide), zJ _ _ rfl, zJ _ _ q23, if_neg hk, zJ _ _ rfl, zJ _ _ hf, zj _ _ q6]; done) | (rw [hz, if_neg (by decide), zJ _ _ rfl, zJ _ _ q23, if_neg hk, zJ _ _ rfl, zJ _ _ hf, zJ _ _ q6, if_pos hc, zj _ _ (by decide)]; done) | (rw [hz, if_neg (by decide), zJ _ _ rfl, zJ _ _ q23, if_neg hk, zJ _ _ rfl, zJ _ _ hf, zJ _ _ q6, if_neg hc, zJ _ _ rfl]; done))))), rfl⟩, trivial⟩
          · have hf := u4 (s := s.start) (e := s.fin) (by have e := hb5; simpa using e)
            refine zQ <| zA <| zD <| y_ xR <| g_u (zF rfl rfl si rfl) <| g_u (zG rfl rfl rfl tA44 tS44 rfl rfl) ?_
            refine g_u (zP (sx _ (by assumption) (by omega)) rfl rfl) ?_
            refine g_u (zF rfl rfl vN rfl) <| g_u (zG rfl rfl rfl tA58 tS58 rfl rfl) ?_
            refine g_u (zP (revents_c _ (by assumption) (by omega)) rfl rfl) ?_
            refine g_u (zF rfl rfl wK rfl) <| g_u (zG rfl rfl rfl tA59 tS59 rfl rfl) ?_
            refine g_u (zP (rlinks_c _ (by assumption) (by omega)) rfl rfl) ?_
            refine g_u (zP (or_c _ _) rfl rfl) <| g_u (zP (or_c _ _) rfl rfl) <| g_u (zE rfl rfl) ?_
            refine zH ⟨by kernel_rfl, ?_⟩
            refine zA <| zD <| zD <| zB <| g_u (zC rfl rfl) <| g_u (xl rfl rfl rfl) <| zH <| zA ?_
            refine zN rfl (fun hb6 => ?_) (fun hb6 => ?_)
            · have q6 := bne_iff_ne.1 hb6
              refine zD <| zB <| g_u (zC rfl rfl) <| g_u (zE rfl rfl) <| zH <| zA <| zL <| zK ?_
              exact ⟨⟨(rfl : toAV (Al.look _ _) = some _).trans (congrArg some (by (exact congrArg iv (by rw [vU]; first | (rw [hz, if_pos rfl, zj _ _ (by decide)]; done) | (rw [hz, if_neg (by decide), zJ _ _ rfl, zj _ _ q23]; done) | (rw [hz, if_neg (by decide), zJ _ _ rfl, zJ _ _ q23, if_pos hk, zj _ _ (by decide)]; done) | (rw [hz, if_neg (by decide), zJ _ _ rfl, zJ _ _ q23, if_neg hk, zJ _ _ rfl, hf, zj _ _ (by decide)]; done) | (rw [hz, if_neg (by decide), zJ _ _ rfl, zJ _ _ q23, if_neg hk, zJ _ _ rfl, zJ _ _ hf, zj _ _ q6]; done) | (rw [hz, if_neg (by decide), zJ _ _ rfl, zJ _ _ q23, if_neg hk, zJ _ _ rfl, zJ _ _ hf, zJ _ _ q6, if_pos hc, zj _ _ (by decide)]; done) | (rw [hz, if_neg (by decide), zJ _ _ rfl, zJ _ _ q23, if_neg hk, zJ _ _ rfl, zJ _ _ hf, zJ _ _ q6, if_neg hc, zJ _ _ rfl]; done))))), rfl⟩, trivial⟩
            · have q6 := qd.1 hb6
              refine zQ <| zA <| zD <| zD <| zB <| g_u (zF rfl rfl tf rfl) <| g_u (zF rfl rfl fa61_0 rfl) <| g_u (zG rfl rfl rfl tA3 tS3 rfl rfl) <| g_u (ye rfl rfl rfl) <| g_u (zC rfl rfl) <| yB (t := 52) rfl ?_
              rintro (hb7 | hb7)
              · rw [hb7]
                have hc : s.code < 0 ∨ 2 < s.code := .inl (of_decide_eq_true hb7)
                refine zI rfl rfl rfl <| zI rfl rfl rfl <| zI rfl rfl rfl <| zI rfl rfl rfl <| g_u (zZ rfl rfl rfl) <| zH <| zA <| zs rfl <| zD <| zB <| g_u (zE rfl rfl) <| zH <| zA <| zL <| zK ?_
                exact ⟨⟨(rfl : toAV (Al.look _ _) = some _).trans (congrArg some (by (exact congrArg iv (by rw [vU]; first | (rw [hz, if_pos rfl, zj _ _ (by decide)]; done) | (rw [hz, if_neg (by decide), zJ _ _ rfl, zj _ _ q23]; done) | (rw [hz, if_neg (by decide), zJ _ _ rfl, zJ _ _ q23, if_pos hk, zj _ _ (by decide)]; done) | (rw [hz, if_neg (by decide), zJ _ _ rfl, zJ _ _ q23, if_neg hk, zJ _ _ rfl, hf, zj _ _ (by decide)]; done) | (rw [hz, if_neg (by decide), zJ _ _ rfl, zJ _ _ q23, if_neg hk, zJ _ _ rfl, zJ _ _ hf, zj _ _ q6]; done) | (rw [hz, if_neg (by decide), zJ _ _ rfl, zJ _ _ q23, if_neg hk, zJ _ _ rfl, zJ _ _ hf, zJ _ _ q6, if_pos hc, zj _ _ (by decide)]; done) | (rw [hz, if_neg (by decide), zJ _ _ rfl, zJ _ _ q23, if_neg hk, zJ _ _ rfl, zJ _ _ hf, zJ _ _ q6, if_neg hc, zJ _ _ rfl]; done))))), rfl⟩, trivial⟩
              · rw [hb7]
                have hc0 : ¬ s.code < 0 := of_decide_eq_false hb7
                refine zY rfl rfl (zF rfl rfl tf rfl) <| zY rfl rfl (zF rfl rfl fa61_0 rfl) <| zY rfl rfl (zG rfl rfl rfl tA3 tS3 rfl rfl) <| zY rfl rfl (wD rfl rfl rfl) <| g_u (zh rfl rfl rfl) <| zH <| zA ?_
                refine zN rfl (fun hb8 => ?_) (fun hb8 => ?_)
                · have hc : s.code < 0 ∨ 2 < s.code := .inr (of_decide_eq_true hb8)
                  refine zD <| zB <| g_u (zE rfl rfl) <| zH <| zA <| zL <| zK ?_
                  exact ⟨⟨(rfl : toAV (Al.look _ _) = some _).trans (congrArg some (by (exact congrArg iv (by rw [vU]; first | (rw [hz, if_pos rfl, zj _ _ (by decide)]; done) | (rw [hz, if_neg (by decide), zJ _ _ rfl, zj _ _ q23]; done) | (rw [hz, if_neg (by decide), zJ _ _ rfl, zJ _ _ q23, if_pos hk, zj _ _ (by decide)]; done) | (rw [hz, if_neg (by decide), zJ _ _ rfl, zJ _ _ q23, if_neg hk, zJ _ _ rfl, hf, zj _ _ (by decide)]; done) | (rw [hz, if_neg (by decide), zJ _ _ rfl, zJ _ _ q23, if_neg hk, zJ _ _ rfl, zJ _ _ hf, zj _ _ q6]; done) | (rw [hz, if_neg (by decide), zJ _ _ rfl, zJ _ _ q23, if_neg hk, zJ _ _ rfl, zJ _ _ hf, zJ _ _ q6, if_pos hc, zj _ _ (by decide)]; done) | (rw [hz, if_neg (by decide), zJ _ _ rfl, zJ _ _ q23, if_neg hk, zJ _ _ rfl, zJ _ _ hf, zJ _ _ q6, if_neg hc, zJ _ _ rfl]; done))))), rfl⟩, trivial⟩
                · have hc : ¬ (s.code < 0 ∨ 2 < s.code) := fun h => h.elim hc0 (of_decide_eq_false hb8)
                  refine zQ <| zA <| zD <| zB <| g_u (zF rfl rfl tf rfl) <| g_u (zF rfl rfl fa61_1 rfl) <| g_u (zG rfl rfl rfl tA9 tS9 rfl rfl) ?_
                  refine g_u (zP (rh _ (by omega)) rfl rfl) ?_
                  refine g_u (zE rfl rfl) <| zH <| zA <| zL ?_
                  exact ⟨⟨(rfl : toAV (Al.look _ _) = some _).trans (congrArg some (by (exact congrArg iv (by rw [vU]; first | (rw [hz, if_pos rfl, zj _ _ (by decide)]; done) | (rw [hz, if_neg (by decide), zJ _ _ rfl, zj _ _ q23]; done) | (rw [hz, if_neg (by decide), zJ _ _ rfl, zJ _ _ q23, if_pos hk, zj _ _ (by decide)]; done) | (rw [hz, if_neg (by decide), zJ _ _ rfl, zJ _ _ q23, if_neg hk, zJ _ _ rfl, hf, zj _ _ (by decide)]; done) | (rw [hz, if_neg (by decide), zJ _ _ rfl, zJ _ _ q23, if_neg hk, zJ _ _ rfl, zJ _ _ hf, zj _ _ q6]; done) | (rw [hz, if_neg (by decide), zJ _ _ rfl, zJ _ _ q23, if_neg hk, zJ _ _ rfl, zJ _ _ hf, zJ _ _ q6, if_pos hc, zj _ _ (by decide)]; done) | (rw [hz, if_neg (by decide), zJ _ _ rfl, zJ _ _ q23, if_neg hk, zJ _ _ rfl, zJ _ _ hf, zJ _ _ q6, if_neg hc, zJ _ _ rfl]; done))))), rfl⟩, trivial⟩
end Go.Proofs
namespace Go.Proofs
open Go Go.Al
set_option maxRecDepth 10000
end Go.Proofs
namespace Go.Proofs
open Go Go.Al
set_option maxRecDepth 10000
end Go.Proofs
namespace Go.Al
open Go.RowKit
def base (P : Program) (Γ : List (Nat × AV)) (N : Nat) (w : World) (G : Gh) : Cx := ⟨P, w, G.I, fun _ => False, N, 100000, G, Γ, [], none⟩
theorem notOwn_res {G : Gh} {k b : Nat} {x : SV} (h : x.res = false) : ¬ zm G k b x := by cases x <;> simp [SV.res, zm] at h ⊢
theorem Holds.mono_slot {w0 w1 : World} {E E' : Nat → Prop} {G G' : Gh} {a : Act} {w w' : World} {k : Nat} {x : SV} (hx : x.res = false) (hle : Le w G.I w' G'.I) (hg : GRel [] G G') (h : Holds w0 E G a w k x) : Holds w1 E' G' a w' k x := by
  cases x <;> simp only [Holds] at h ⊢ <;> first | trivial | exact ⟨h.1, xZ.mono hle hg (xa.1 _) h.2⟩ | cases hx
theorem SimG.turned {P : Program} {Γ : List (Nat × AV)} {N : Nat} {A : Nat → SV} {G : Gh} {a : Act} {w w' : World} {I' : Nat → Nat → Prop} (S : SimG (base P Γ N w G) A G a w) (hr : ∀ k, (A k).res = false)
    (hle : Le w G.I w' I') (hv : ValI w' I') : SimG (base P Γ N w' { G with I := I' }) A { G with I := I' } a w' :=
  ⟨rfl, rfl, rfl, Nat.le_refl _, fun _ _ _ => rfl, Le.refl _ _, fun _ _ => ⟨rfl, .inl ⟨rfl, rfl⟩⟩, S.glob.mono hle, fun _ _ h => .inl h, hv, S.nts, S.dfs,
    fun k => (S.holds k).mono_slot (hr k) hle (fun _ _ => ⟨rfl, .inl ⟨rfl, rfl⟩⟩), fun k _ _ _ h _ => notOwn_res (hr k) h⟩
section
variable {ι : Type} {P : Program} {Γ : List (Nat × AV)} {N n : Nat} {J : ι → (Nat → Nat → Prop) → World → Prop}
variable {c x y : Code} {st : St} {j : ι} {K : St → ι → Prop} {Q : Exit → St → ι → Prop}
theorem Go1.mono {C : Cx} {ops : Array Oper} {K K' : St → List Tr → Prop} (hK : ∀ st tr, K st tr → K' st tr) : ∀ {os : List Oper} {st : St} {tr : List Tr}, Go1 C ops os st tr K → Go1 C ops os st tr K'
  | [], _, _, h => hK _ _ h
  | _ :: _, _, _, ⟨t, h1, h2, h3⟩ => ⟨t, h1, h2, Go1.mono hK h3⟩
end
end Go.Al
namespace Go.Al
open Go.RowKit
theorem Holds.kind {w0 : World} {E : Nat → Prop} {G : Gh} {a : Act} {w : World} {k b : Nat} {x : SV} (r : Holds w0 E G a w k x) (h : zm G k b x) {o : Obj} (ho : w.heap[b]? = some o) : isBook o = false := by
  cases x <;> simp only [zm] at h <;> simp only [Holds] at r
  case box T x =>
    obtain ⟨_, ⟨cs, fr, h1, _⟩, _⟩ := r
    rw [h, ho] at h1; cases h1; rfl
  case mpr ks vs =>
    obtain ⟨_, ⟨es, h1, _⟩, _⟩ := r
    rw [h, ho] at h1; cases h1; rfl
  case gen R => exact (R _ _ _).kind _ _ _ _ r.2 h ho
  case row l =>
    obtain ⟨ad, n', c, h1, h2⟩ := h
    rcases r.2 with ⟨e, _⟩ | ⟨b', cap, e, _, _, _, ⟨cs, T, h5, _⟩, _⟩
    · rw [e] at h1; cases h1
    · rw [e] at h1; cases h1; rw [← h2, h5] at ho; cases ho; rfl
  case itr m n s =>
    have h1 := r.2.1
    rw [h, ho] at h1; cases h1; rfl
  case tok n l =>
    obtain ⟨ad, n', c, h1, h2⟩ := h
    rcases r.2 with ⟨e, _⟩ | ⟨b', cap, e, _, _, _, _, ⟨cs, T, fr, h5, _⟩, _⟩
    · rw [e] at h1; cases h1
    · rw [e] at h1; cases h1; rw [← h2, h5] at ho; cases ho; rfl
theorem cell_book {w : World} {d : Nat} {o : Obj} (h : w.heap[d]? = some o) (ho : isBook o = true) (n : Nat) : w.cell? ⟨d, n, none⟩ = none := by
  unfold World.cell?
  cases o <;> simp_all [isBook]
theorem rb (w : World) (d : Nat) (o : Obj) : (w.putObj d o).heap.size = w.heap.size := by simp [World.putObj]
theorem SimG.book {C : Cx} {A : Nat → SV} {G : Gh} {a : Act} {w : World} (S : SimG C A G a w) {d : Nat} {o o' : Obj} (h : w.heap[d]? = some o) (ho : isBook o = true) (ho' : isBook o' = true) (hd : C.w0.heap.size ≤ d ∨ C.E d) :
    SimG C A G a (w.putObj d o') := by
  have hlt : d < w.heap.size := (Array.getElem?_eq_some_iff.1 h).1
  have hsame : (w.putObj d o').heap[d]? = some o' := World.putObj_heap_same hlt
  have hoth : ∀ k, k ≠ d → (w.putObj d o').heap[k]? = w.heap[k]? := fun k hk => World.putObj_heap_other hk
  have hle : Le w G.I (w.putObj d o') G.I := by
    intro b n hi
    refine ⟨hi, ?_⟩
    by_cases e : b = d
    · subst e
      refine ⟨by rw [cell_book hsame ho', cell_book h ho], fun es ck h1 => ?_⟩
      rw [h] at h1; cases h1; cases ho
    · exact y7 (hoth b e)
  refine ⟨S.os, S.tape, S.output, by rw [rb]; exact S.size, fun k h1 h2 => ?_, S.sub.trans hle, S.rel, S.glob.mono hle, S.new, fun b o h => by rw [rb]; exact S.val b o h, S.nts, S.dfs, fun k => ?_, S.apart⟩
  · have : k ≠ d := by
      rintro rfl
      rcases hd with hd | hd
      · omega
      · exact h2 hd
    rw [hoth k this]; exact S.block k h1 h2
  · refine (S.holds k).keep (Gs := []) hle (fun _ _ => ⟨rfl, .inl ⟨rfl, rfl⟩⟩) (xa.1 _) (by rw [rb]; exact Nat.le_refl _) (fun h => ⟨h, rfl⟩) (fun _ => ⟨rfl, rfl, rfl⟩) (fun b hbk => ?_)
    have hne : b ≠ d := by
      rintro rfl
      have := (S.holds k).kind hbk h
      rw [ho] at this; cases this
    exact ⟨hoth b hne, fun _ hi => hi⟩
def own (A : Nat → SV) (G : Gh) (b : Nat) : Prop := ∃ k, zm G k b (A k)
theorem SimG.back {C : Cx} {A A' : Nat → SV} {G G' : Gh} {a a' : Act} {w w' : World} (S : SimG C A G a w) {K : Nat} {D : List Deferred} {R : Option Nat} (hK : K ≤ C.K)
    (S' : SimG ⟨C.P, w, G.I, own A G, C.N, K, G, C.Γ, D, R⟩ A' G' a' w') : SimG ⟨C.P, C.w0, C.I0, C.E, C.N, C.K, C.G0, C.Γ, D, R⟩ A' G' a' w' := by
  have hown : ∀ b, own A G b → C.w0.heap.size ≤ b ∨ C.E b := fun b ⟨k, hk⟩ => ((S.holds k).owned hk).1
  have hsz : w.heap.size ≤ w'.heap.size := S'.size
  refine ⟨S'.os.trans S.os, S'.tape.trans S.tape, S'.output.trans S.output, Nat.le_trans S.size hsz, fun k h1 h2 => ?_, S.sub.trans S'.sub, fun g hg => (S.rel g hg).trans (S'.rel g (Nat.le_trans hK hg)), S'.glob, fun b o hi => ?_, S'.val, S'.nts, S'.dfs, fun k => ?_, S'.apart⟩
  · have hno : ¬ own A G k := by
      intro ho
      rcases hown k ho with h | h
      · exact absurd h1 (by show ¬ k < C.w0.heap.size; omega)
      · exact h2 h
    exact (S'.block k (Nat.lt_of_lt_of_le h1 S.size) hno).trans (S.block k h1 h2)
  · rcases S'.new b o hi with h | h | h
    · exact S.new b o h
    · exact .inr (.inl (Nat.le_trans S.size h))
    · exact .inr (hown b h)
  · cases hr : (A' k).res
    · exact (S'.holds k).mono_slot hr (Le.refl _ _) (GRel.refl _)
    · exact (S'.holds k).reown hr (fun b _ _ h => by
        rcases h with h | h
        · exact .inl (Nat.le_trans S.size h)
        · exact hown b h)
structure Sw (C : Cx) (w1 : World) (I1 : Nat → Nat → Prop) (E1 : Nat → Prop) (G1 : Gh) (Ds : List Nat) : Prop where
  os : w1.os = C.w0.os
  tape : w1.tape = C.w0.tape
  output : w1.output = C.w0.output
  size : C.w0.heap.size ≤ w1.heap.size
  block : ∀ k, k < C.w0.heap.size → ¬ C.E k → w1.heap[k]? = C.w0.heap[k]?
  own : ∀ b, (w1.heap.size ≤ b ∨ E1 b) → C.w0.heap.size ≤ b ∨ C.E b
  sub : Le C.w0 C.I0 w1 I1
  rel : ∀ g, C.K ≤ g → Turns C.G0 G1 g
  new : ∀ b o, I1 b o → C.I0 b o ∨ C.w0.heap.size ≤ b ∨ C.E b
  marks : ∀ d ∈ Ds, d < w1.heap.size ∧ ¬ E1 d ∧ C.w0.heap.size ≤ d ∧ w1.heap[d]? = some (.deferred (some []))
  nodup : Ds.Nodup
def upC (C : Cx) (w1 : World) (I1 : Nat → Nat → Prop) (E1 : Nat → Prop) (G1 : Gh) (D1 : List Deferred) : Cx := ⟨C.P, w1, I1, E1, C.N, C.K, G1, C.Γ, D1, C.R⟩
theorem Sw.start (C : Cx) : Sw C C.w0 C.I0 C.E C.G0 [] :=
  ⟨rfl, rfl, rfl, Nat.le_refl _, fun _ _ _ => rfl, fun _ h => h, Le.refl _ _, fun _ _ => ⟨rfl, .inl ⟨rfl, rfl⟩⟩, fun _ _ h => .inl h, fun d h => (by cases h), List.nodup_nil⟩
theorem Sw.back {C : Cx} {w1 : World} {I1 : Nat → Nat → Prop} {E1 : Nat → Prop} {G1 : Gh} {Ds : List Nat} (h : Sw C w1 I1 E1 G1 Ds) {D1 : List Deferred} {A : Nat → SV} {G : Gh} {a : Act} {w : World} (S : SimG (upC C w1 I1 E1 G1 D1) A G a w) :
    SimG ⟨C.P, C.w0, C.I0, C.E, C.N, C.K, C.G0, C.Γ, D1, C.R⟩ A G a w := by
  refine ⟨S.os.trans h.os, S.tape.trans h.tape, S.output.trans h.output, Nat.le_trans h.size S.size, fun k h1 h2 => ?_, h.sub.trans S.sub, fun g hg => (h.rel g hg).trans (S.rel g hg), S.glob, fun b o hi => ?_, S.val, S.nts, S.dfs, fun k => ?_, S.apart⟩
  · have hno : ¬ E1 k := by
      intro ho
      rcases h.own k (.inr ho) with h3 | h3
      · exact absurd h1 (by show ¬ k < C.w0.heap.size; omega)
      · exact h2 h3
    exact (S.block k (Nat.lt_of_lt_of_le h1 h.size) hno).trans (h.block k h1 h2)
  · rcases S.new b o hi with h3 | h3 | h3
    · exact h.new b o h3
    · exact .inr (h.own b (.inl h3))
    · exact .inr (h.own b (.inr h3))
  · cases hr : (A k).res
    · exact (S.holds k).mono_slot hr (Le.refl _ _) (GRel.refl _)
    · exact (S.holds k).reown hr (fun b _ _ h3 => h.own b h3)
end Go.Al
namespace Go.Al
open Go.RowKit
end Go.Al
