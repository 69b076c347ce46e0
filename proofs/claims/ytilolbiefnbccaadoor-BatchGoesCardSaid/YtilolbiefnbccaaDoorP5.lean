/- Texts that the proofs of this claim share, part 5: the abstract logic, plain Lean on values and batches, and walks. No condition but those typed in each lemma. -/
import Derived.Maps.RangeRun
import Derived.Sort.OwnSorted
import Derived.Test.YtilolbiefnbccaaDoorP4
set_option linter.unusedSimpArgs false
set_option linter.unusedVariables false
namespace Go.Proofs
open Go Go.Al
set_option maxRecDepth 10000
set_option maxHeartbeats 4000000 in
theorem leftS_c (s : GSpan) (n : Int) (hn : -1000000000000 ≤ n ∧ n ≤ 1000000000) : PCall Tryd.prog Γ0 22 [s.av, iv n] [iv (leftS s n)] := by
  refine pcall_of Tryd.func22 rfl Tryd.ntmps22 (by kernel_rfl) rfl fun w0 I0 G0 => ?_
  refine aw_seq ?_
  refine aw_region ?_
  refine g_uG (s_box_imm 1002 rfl rfl rfl rfl) rfl ?_
  refine g_u (s_as_imm rfl rfl) ?_
  refine g_nil ?_
  refine normal_thn ?_
  refine aw_seq ?_
  refine aw_seq ?_
  refine aw_region ?_
  refine g_u (s_mv_imm rfl rfl) ?_
  refine g_u (s_ltI rfl rfl rfl) ?_
  refine g_u (s_mv_imm rfl rfl) ?_
  refine g_case (t := 9) rfl ?_
  rintro (hb1 | hb1)
  · rw [hb1]
    have z1 : n < 0 := of_decide_eq_true hb1
    refine g_skip rfl rfl rfl ?_
    refine g_skip rfl rfl rfl ?_
    refine g_skip rfl rfl rfl ?_
    refine g_skip rfl rfl rfl ?_
    refine g_skip rfl rfl rfl ?_
    refine g_u (s_pick_t rfl rfl rfl) ?_
    refine g_u (s_mv_imm rfl rfl) ?_
    refine g_skip rfl rfl rfl ?_
    refine g_skip rfl rfl rfl ?_
    refine g_skip rfl rfl rfl ?_
    refine g_skip rfl rfl rfl ?_
    refine g_skip rfl rfl rfl ?_
    refine g_u (s_pick_t rfl rfl rfl) ?_
    refine g_u (s_mv_imm rfl rfl) ?_
    refine g_skip rfl rfl rfl ?_
    refine g_skip rfl rfl rfl ?_
    refine g_skip rfl rfl rfl ?_
    refine g_skip rfl rfl rfl ?_
    refine g_skip rfl rfl rfl ?_
    refine g_skip rfl rfl rfl ?_
    refine g_u (s_pick_t rfl rfl rfl) ?_
    refine g_nil ?_
    refine normal_thn ?_
    refine aw_cond_true rfl ?_
    refine aw_seq ?_
    refine aw_region ?_
    refine g_u (s_as_imm rfl rfl) ?_
    refine g_nil ?_
    refine normal_thn ?_
    refine aw_ret ?_
    refine ret_thn ?_
    exact ⟨⟨(rfl : toAV (Al.look _ _) = some _).trans (congrArg some (by (exact congrArg iv (by unfold leftS; first | (rw [if_pos (by omega)]; done) | (rw [if_neg (by omega), g4, gfin]; done) | (rw [if_neg (by omega), g4, leftL_out hi2 (by omega) hk2]; done) | (rw [if_neg (by omega), h4, leftE_out hi (by omega) hk]; exact (leftL_neg _ (by omega)).symm))))), rfl⟩, trivial⟩
  · rw [hb1]
    have z1 : ¬ n < 0 := of_decide_eq_false hb1
    refine g_run rfl rfl (s_fieldAddr rfl rfl fa52_3 rfl) ?_
    refine g_run rfl rfl (s_load_imm rfl rfl rfl tA9 tS9 rfl rfl) ?_
    refine g_run rfl rfl (s_lenS rfl rfl Tryd.underlying9) ?_
    refine g_run rfl rfl (s_mv_imm rfl rfl) ?_
    refine g_run rfl rfl (s_gtI rfl rfl rfl) ?_
    refine g_u (s_pick_f rfl rfl rfl) ?_
    refine g_u (s_mv_imm rfl rfl) ?_
    refine g_case (t := 16) rfl ?_
    rintro (hb2 | hb2)
    · rw [hb2]
      have z2 : (s.state.size : Int) > n := of_decide_eq_true hb2
      refine g_skip rfl rfl rfl ?_
      refine g_skip rfl rfl rfl ?_
      refine g_skip rfl rfl rfl ?_
      refine g_skip rfl rfl rfl ?_
      refine g_skip rfl rfl rfl ?_
      refine g_u (s_pick_t rfl rfl rfl) ?_
      refine g_u (s_mv_imm rfl rfl) ?_
      refine g_skip rfl rfl rfl ?_
      refine g_skip rfl rfl rfl ?_
      refine g_skip rfl rfl rfl ?_
      refine g_skip rfl rfl rfl ?_
      refine g_skip rfl rfl rfl ?_
      refine g_skip rfl rfl rfl ?_
      refine g_u (s_pick_t rfl rfl rfl) ?_
      refine g_nil ?_
      refine normal_thn ?_
      refine aw_cond_true rfl ?_
      refine aw_seq ?_
      refine aw_region ?_
      refine g_u (s_as_imm rfl rfl) ?_
      refine g_nil ?_
      refine normal_thn ?_
      refine aw_ret ?_
      refine ret_thn ?_
      exact ⟨⟨(rfl : toAV (Al.look _ _) = some _).trans (congrArg some (by (exact congrArg iv (by unfold leftS; first | (rw [if_pos (by omega)]; done) | (rw [if_neg (by omega), g4, gfin]; done) | (rw [if_neg (by omega), g4, leftL_out hi2 (by omega) hk2]; done) | (rw [if_neg (by omega), h4, leftE_out hi (by omega) hk]; exact (leftL_neg _ (by omega)).symm))))), rfl⟩, trivial⟩
    · rw [hb2]
      have z2 : ¬ (s.state.size : Int) > n := of_decide_eq_false hb2
      refine g_run rfl rfl (s_fieldAddr rfl rfl fa52_4 rfl) ?_
      refine g_run rfl rfl (s_load_imm rfl rfl rfl tA9 tS9 rfl rfl) ?_
      refine g_run rfl rfl (s_lenS rfl rfl Tryd.underlying9) ?_
      refine g_run rfl rfl (s_mv_imm rfl rfl) ?_
      refine g_run rfl rfl (s_gtI rfl rfl rfl) ?_
      refine g_u (s_pick_f rfl rfl rfl) ?_
      refine g_u (s_mv_imm rfl rfl) ?_
      refine g_case (t := 23) rfl ?_
      rintro (hb3 | hb3)
      · rw [hb3]
        have z3 : (s.name.size : Int) > n := of_decide_eq_true hb3
        refine g_skip rfl rfl rfl ?_
        refine g_skip rfl rfl rfl ?_
        refine g_skip rfl rfl rfl ?_
        refine g_skip rfl rfl rfl ?_
        refine g_skip rfl rfl rfl ?_
        refine g_skip rfl rfl rfl ?_
        refine g_u (s_pick_t rfl rfl rfl) ?_
        refine g_nil ?_
        refine normal_thn ?_
        refine aw_cond_true rfl ?_
        refine aw_seq ?_
        refine aw_region ?_
        refine g_u (s_as_imm rfl rfl) ?_
        refine g_nil ?_
        refine normal_thn ?_
        refine aw_ret ?_
        refine ret_thn ?_
        exact ⟨⟨(rfl : toAV (Al.look _ _) = some _).trans (congrArg some (by (exact congrArg iv (by unfold leftS; first | (rw [if_pos (by omega)]; done) | (rw [if_neg (by omega), g4, gfin]; done) | (rw [if_neg (by omega), g4, leftL_out hi2 (by omega) hk2]; done) | (rw [if_neg (by omega), h4, leftE_out hi (by omega) hk]; exact (leftL_neg _ (by omega)).symm))))), rfl⟩, trivial⟩
      · rw [hb3]
        have z3 : ¬ (s.name.size : Int) > n := of_decide_eq_false hb3
        refine g_run rfl rfl (s_fieldAddr rfl rfl fa52_11 rfl) ?_
        refine g_run rfl rfl (s_fieldAddr rfl rfl fa50_1 rfl) ?_
        refine g_run rfl rfl (s_load_imm rfl rfl rfl tA9 tS9 rfl rfl) ?_
        refine g_run rfl rfl (s_lenS rfl rfl Tryd.underlying9) ?_
        refine g_run rfl rfl (s_mv_imm rfl rfl) ?_
        refine g_run rfl rfl (s_gtI rfl rfl rfl) ?_
        refine g_u (s_pick_f rfl rfl rfl) ?_
        refine g_nil ?_
        refine normal_thn ?_
        refine aw_cond rfl (fun hb4 => ?_) (fun hb4 => ?_)
        · skip
          have z4 : (s.note.size : Int) > n := of_decide_eq_true hb4
          refine aw_seq ?_
          refine aw_region ?_
          refine g_u (s_as_imm rfl rfl) ?_
          refine g_nil ?_
          refine normal_thn ?_
          refine aw_ret ?_
          refine ret_thn ?_
          exact ⟨⟨(rfl : toAV (Al.look _ _) = some _).trans (congrArg some (by (exact congrArg iv (by unfold leftS; first | (rw [if_pos (by omega)]; done) | (rw [if_neg (by omega), g4, gfin]; done) | (rw [if_neg (by omega), g4, leftL_out hi2 (by omega) hk2]; done) | (rw [if_neg (by omega), h4, leftE_out hi (by omega) hk]; exact (leftL_neg _ (by omega)).symm))))), rfl⟩, trivial⟩
        · skip
          have z4 : ¬ (s.note.size : Int) > n := of_decide_eq_false hb4
          have bm := leftAs_bd' s.attrs (n - 1 - s.state.size - s.name.size - s.note.size)
          have ew : leftAs s.attrs (IntKind.i64.wrap (IntKind.i64.wrap (IntKind.i64.wrap (IntKind.i64.wrap (n - 1) - s.state.size) - s.name.size) - s.note.size)) = leftAs s.attrs (n - 1 - s.state.size - s.name.size - s.note.size) := by rw [wrap64 (n := n - 1) (by omega) (by omega), wrap64 (n := n - 1 - s.state.size) (by omega) (by omega), wrap64 (n := n - 1 - s.state.size - s.name.size) (by omega) (by omega), wrap64 (by omega) (by omega)]
          refine aw_skip ?_
          refine normal_thn ?_
          refine aw_seq ?_
          refine aw_region ?_
          refine g_u (s_fieldAddr rfl rfl fa52_8 rfl) ?_
          refine g_u (s_load_imm rfl rfl rfl tA30 tS30 rfl rfl) ?_
          refine g_u (s_mv_imm rfl rfl) ?_
          refine g_u (s_sub rfl rfl rfl) ?_
          refine g_u (s_fieldAddr rfl rfl fa52_3 rfl) ?_
          refine g_u (s_load_imm rfl rfl rfl tA9 tS9 rfl rfl) ?_
          refine g_u (s_lenS rfl rfl Tryd.underlying9) ?_
          refine g_u (s_sub rfl rfl rfl) ?_
          refine g_u (s_fieldAddr rfl rfl fa52_4 rfl) ?_
          refine g_u (s_load_imm rfl rfl rfl tA9 tS9 rfl rfl) ?_
          refine g_u (s_lenS rfl rfl Tryd.underlying9) ?_
          refine g_u (s_sub rfl rfl rfl) ?_
          refine g_u (s_fieldAddr rfl rfl fa52_11 rfl) ?_
          refine g_u (s_fieldAddr rfl rfl fa50_1 rfl) ?_
          refine g_u (s_load_imm rfl rfl rfl tA9 tS9 rfl rfl) ?_
          refine g_u (s_lenS rfl rfl Tryd.underlying9) ?_
          refine g_u (s_sub rfl rfl rfl) ?_
          refine g_u (s_call1 (leftAs_c _ _ ⟨by ((try simp only [decide_eq_true_eq, decide_eq_false_iff_not, bne_iff_ne, ne_eq, beq_iff_eq, bne_eq_false_iff_eq, beq_eq_false_iff_ne, Bool.not_eq_true', Bool.not_eq_false', gt_iff_lt, ge_iff_le] at *); (repeat simp (disch := omega) only [wrap64, wrap32] at *)); omega, by ((try simp only [decide_eq_true_eq, decide_eq_false_iff_not, bne_iff_ne, ne_eq, beq_iff_eq, bne_eq_false_iff_eq, beq_eq_false_iff_ne, Bool.not_eq_true', Bool.not_eq_false', gt_iff_lt, ge_iff_le] at *); (repeat simp (disch := omega) only [wrap64, wrap32] at *)); omega⟩) rfl rfl) ?_
          refine g_u (s_as_imm rfl rfl) ?_
          refine g_nil ?_
          refine normal_thn ?_
          refine aw_seq ?_
          refine aw_seq ?_
          refine aw_region ?_
          refine g_u (s_as_imm rfl rfl) ?_
          refine g_nil ?_
          refine normal_thn ?_
          refine aw_block ?_
          refine aw_loop' (fun j : Nat × Int => [(2, .ptr 1002 0), (1002, .box 52 (.imm s.av)), (1, .imm (iv j.2)), (5, .imm (iv (j.1 : Int)))]) (fun j => j.1 ≤ s.events.length ∧ (-1000000000000 ≤ j.2 ∧ j.2 ≤ 1000000000) ∧ ((j.1 : Int) ≤ leftAs s.attrs (n - 1 - s.state.size - s.name.size - s.note.size) - j.2) ∧ leftE s.events (leftAs s.attrs (n - 1 - s.state.size - s.name.size - s.note.size)) = leftE (s.events.drop j.1) j.2) (fun j => s.events.length - j.1) (⟨0, leftAs s.attrs (n - 1 - s.state.size - s.name.size - s.note.size)⟩) ?_ ⟨rfl, rfl, look_int rfl (by rw [ew]), rfl, trivial⟩ ?_
          · exact ⟨Nat.zero_le _, ⟨by have := bm.2.1; omega, by omega⟩, by simp, rfl⟩
          · rintro ⟨i, m⟩ ⟨h1, h2, h3, h4⟩; dsimp only at h1 h2 h3 h4
            refine aw_seq ?_
            refine aw_seq ?_
            refine aw_region ?_
            refine g_u (s_mv_imm rfl rfl) ?_
            refine g_u (s_fieldAddr rfl rfl fa52_9 rfl) ?_
            refine g_u (s_load_imm rfl rfl rfl tA47 tS47 rfl rfl) ?_
            refine g_u (s_lenL rfl rfl Tryd.underlying47) ?_
            refine g_u (s_ltI rfl rfl rfl) ?_
            refine g_u (s_mv_imm rfl rfl) ?_
            refine g_case (t := 54) rfl ?_
            rintro (hb5 | hb5)
            · rw [hb5]
              have hi : i < s.events.length := by have := of_decide_eq_true hb5; (try simp only [List.length_map] at this); omega
              refine g_run rfl rfl (s_mv_imm rfl rfl) ?_
              refine g_run rfl rfl (s_geI rfl rfl rfl) ?_
              refine g_u (s_pick_t rfl rfl rfl) ?_
              refine g_nil ?_
              refine normal_thn ?_
              refine aw_cond rfl (fun hb6 => ?_) (fun hb6 => ?_)
              · skip
                have hs : ¬ m < 0 := by have := of_decide_eq_true hb6; omega
                refine aw_skip ?_
                refine normal_thn ?_
                refine aw_seq ?_
                refine aw_block ?_
                refine aw_seq ?_
                refine aw_seq ?_
                refine aw_region ?_
                refine g_u (s_fieldAddr rfl rfl fa52_9 rfl) ?_
                refine g_u (s_load_imm rfl rfl rfl tA47 tS47 rfl rfl) ?_
                refine g_u (s_mv_imm rfl rfl) ?_
                refine g_u (s_indexAddr rfl rfl rfl Tryd.underlying47 tS85 (by omega) (ixE hi)) ?_
                refine g_u (s_fieldAddr_cp rfl rfl fa85_1 rfl rfl) ?_
                refine g_u (s_load_cp rfl rfl tA9 tS9 rfl rfl) ?_
                refine g_u (s_lenS rfl rfl Tryd.underlying9) ?_
                refine g_u (s_mv_imm rfl rfl) ?_
                refine g_u (s_gtI rfl rfl rfl) ?_
                refine g_nil ?_
                refine normal_thn ?_
                refine aw_cond rfl (fun hb7 => ?_) (fun hb7 => ?_)
                · skip
                  have hk : ((nthE s.events i).name.size : Int) > m := of_decide_eq_true hb7
                  refine aw_seq ?_
                  refine aw_region ?_
                  refine g_u (s_as_imm rfl rfl) ?_
                  refine g_nil ?_
                  refine normal_thn ?_
                  refine aw_ret ?_
                  refine ret_thn ?_
                  refine ret_blk ?_
                  refine ret_thn ?_
                  refine ret_thn ?_
                  refine ret_blk ?_
                  refine ret_thn ?_
                  exact ⟨⟨(rfl : toAV (Al.look _ _) = some _).trans (congrArg some (by (exact congrArg iv (by unfold leftS; first | (rw [if_pos (by omega)]; done) | (rw [if_neg (by omega), g4, gfin]; done) | (rw [if_neg (by omega), g4, leftL_out hi2 (by omega) hk2]; done) | (rw [if_neg (by omega), h4, leftE_out hi (by omega) hk]; exact (leftL_neg _ (by omega)).symm))))), rfl⟩, trivial⟩
                · skip
                  have hk : ¬ ((nthE s.events i).name.size : Int) > m := of_decide_eq_false hb7
                  refine aw_skip ?_
                  refine normal_thn ?_
                  refine aw_draw mixed ?_
                  refine g_u (s_fieldAddr rfl rfl fa52_9 rfl) ?_
                  refine g_u (s_load_imm rfl rfl rfl tA47 tS47 rfl rfl) ?_
                  refine g_u (s_mv_imm rfl rfl) ?_
                  refine g_u (s_indexAddr rfl rfl rfl Tryd.underlying47 tS85 (by omega) (ixE hi)) ?_
                  refine g_u (s_fieldAddr_cp rfl rfl fa85_2 rfl rfl) ?_
                  refine g_u (s_load_cp rfl rfl tA30 tS30 rfl rfl) ?_
                  refine g_u (s_mv_imm rfl rfl) ?_
                  refine g_u (s_sub rfl rfl rfl) ?_
                  refine g_u (s_fieldAddr rfl rfl fa52_9 rfl) ?_
                  refine g_u (s_load_imm rfl rfl rfl tA47 tS47 rfl rfl) ?_
                  refine g_u (s_mv_imm rfl rfl) ?_
                  refine g_u (s_indexAddr rfl rfl rfl Tryd.underlying47 tS85 (by omega) (ixE hi)) ?_
                  refine g_u (s_fieldAddr_cp rfl rfl fa85_1 rfl rfl) ?_
                  refine g_u (s_load_cp rfl rfl tA9 tS9 rfl rfl) ?_
                  refine g_u (s_lenS rfl rfl Tryd.underlying9) ?_
                  refine g_u (s_sub rfl rfl rfl) ?_
                  refine g_u (s_call1 (leftAs_c _ _ ⟨by ((try simp only [decide_eq_true_eq, decide_eq_false_iff_not, bne_iff_ne, ne_eq, beq_iff_eq, bne_eq_false_iff_eq, beq_eq_false_iff_ne, Bool.not_eq_true', Bool.not_eq_false', gt_iff_lt, ge_iff_le] at *); (repeat simp (disch := omega) only [wrap64, wrap32] at *)); omega, by ((try simp only [decide_eq_true_eq, decide_eq_false_iff_not, bne_iff_ne, ne_eq, beq_iff_eq, bne_eq_false_iff_eq, beq_eq_false_iff_ne, Bool.not_eq_true', Bool.not_eq_false', gt_iff_lt, ge_iff_le] at *); (repeat simp (disch := omega) only [wrap64, wrap32] at *)); omega⟩) rfl rfl) ?_
                  refine g_u (s_as_imm rfl rfl) ?_
                  refine g_nil ⟨by kernel_rfl, ?_⟩
                  refine normal_blk ?_
                  refine normal_thn ?_
                  refine aw_region ?_
                  refine g_u (s_mv_imm rfl rfl) ?_
                  refine g_u (s_add rfl rfl rfl) ?_
                  refine g_u (s_as_imm rfl rfl) ?_
                  refine g_nil ?_
                  refine normal_thn ?_
                  have ed := leftE_drop (m := m) hi (by omega) hk
                  have bl := leftAs_bd' (nthE s.events i).attrs (m - 1 - (nthE s.events i).name.size)
                  refine ⟨⟨i + 1, leftAs (nthE s.events i).attrs (m - 1 - (nthE s.events i).name.size)⟩, ⟨hi, ⟨by dsimp only; omega, by dsimp only; omega⟩, by dsimp only; omega, by dsimp only; rw [h4, ed]⟩, ⟨rfl, rfl, look_int rfl (by dsimp only; rw [wrap64 (n := m - 1) (by omega) (by omega), wrap64 (by omega) (by omega)]), look_int rfl (by rw [wrap64 (by omega) (by omega)]; rfl), trivial⟩, by dsimp only; omega⟩
              · skip
                have hs : m < 0 := by have := of_decide_eq_false hb6; omega
                have hm : leftE s.events (leftAs s.attrs (n - 1 - s.state.size - s.name.size - s.note.size)) = m := by rw [h4]; exact leftE_neg _ hs
                refine aw_exit ?_
                refine exit_thn ?_
                refine exit_thn ?_
                refine exit_blk ?_
                refine normal_thn ?_
                refine aw_seq ?_
                refine aw_seq ?_
                refine aw_region ?_
                refine g_u (s_as_imm rfl rfl) ?_
                refine g_nil ?_
                refine normal_thn ?_
                refine aw_block ?_
                refine aw_loop' (fun j : Nat × Int => [(2, .ptr 1002 0), (1002, .box 52 (.imm s.av)), (1, .imm (iv j.2)), (6, .imm (iv (j.1 : Int)))]) (fun j => j.1 ≤ s.links.length ∧ (-1000000000000 ≤ j.2 ∧ j.2 ≤ 1000000000) ∧ ((j.1 : Int) ≤ leftE s.events (leftAs s.attrs (n - 1 - s.state.size - s.name.size - s.note.size)) - j.2) ∧ leftL s.links (leftE s.events (leftAs s.attrs (n - 1 - s.state.size - s.name.size - s.note.size))) = leftL (s.links.drop j.1) j.2) (fun j => s.links.length - j.1) (⟨0, m⟩) ?_ ⟨rfl, rfl, rfl, rfl, trivial⟩ ?_
                · exact ⟨Nat.zero_le _, h2, by rw [hm]; simp, by rw [hm]; rfl⟩
                · rintro ⟨i2, m2⟩ ⟨g1, g2, g3, g4⟩; dsimp only at g1 g2 g3 g4
                  refine aw_seq ?_
                  refine aw_seq ?_
                  refine aw_region ?_
                  refine g_u (s_mv_imm rfl rfl) ?_
                  refine g_u (s_fieldAddr rfl rfl fa52_10 rfl) ?_
                  refine g_u (s_load_imm rfl rfl rfl tA48 tS48 rfl rfl) ?_
                  refine g_u (s_lenL rfl rfl Tryd.underlying48) ?_
                  refine g_u (s_ltI rfl rfl rfl) ?_
                  refine g_u (s_mv_imm rfl rfl) ?_
                  refine g_case (t := 91) rfl ?_
                  rintro (hb8 | hb8)
                  · rw [hb8]
                    have hi2 : i2 < s.links.length := by have := of_decide_eq_true hb8; (try simp only [List.length_map] at this); omega
                    refine g_run rfl rfl (s_mv_imm rfl rfl) ?_
                    refine g_run rfl rfl (s_geI rfl rfl rfl) ?_
                    refine g_u (s_pick_t rfl rfl rfl) ?_
                    refine g_nil ?_
                    refine normal_thn ?_
                    refine aw_cond rfl (fun hb9 => ?_) (fun hb9 => ?_)
                    · skip
                      have hs2 : ¬ m2 < 0 := by have := of_decide_eq_true hb9; omega
                      refine aw_skip ?_
                      refine normal_thn ?_
                      refine aw_seq ?_
                      refine aw_block ?_
                      refine aw_seq ?_
                      refine aw_seq ?_
                      refine aw_region ?_
                      refine g_u (s_fieldAddr rfl rfl fa52_10 rfl) ?_
                      refine g_u (s_load_imm rfl rfl rfl tA48 tS48 rfl rfl) ?_
                      refine g_u (s_mv_imm rfl rfl) ?_
                      refine g_u (s_indexAddr rfl rfl rfl Tryd.underlying48 tS87 (by omega) (ixL hi2)) ?_
                      refine g_u (s_fieldAddr_cp rfl rfl fa87_2 rfl rfl) ?_
                      refine g_u (s_load_cp rfl rfl tA9 tS9 rfl rfl) ?_
                      refine g_u (s_lenS rfl rfl Tryd.underlying9) ?_
                      refine g_u (s_mv_imm rfl rfl) ?_
                      refine g_u (s_gtI rfl rfl rfl) ?_
                      refine g_nil ?_
                      refine normal_thn ?_
                      refine aw_cond rfl (fun hb10 => ?_) (fun hb10 => ?_)
                      · skip
                        have hk2 : ((nthL s.links i2).state.size : Int) > m2 := of_decide_eq_true hb10
                        refine aw_seq ?_
                        refine aw_region ?_
                        refine g_u (s_as_imm rfl rfl) ?_
                        refine g_nil ?_
                        refine normal_thn ?_
                        refine aw_ret ?_
                        refine ret_thn ?_
                        refine ret_blk ?_
                        refine ret_thn ?_
                        refine ret_thn ?_
                        refine ret_blk ?_
                        refine ret_thn ?_
                        exact ⟨⟨(rfl : toAV (Al.look _ _) = some _).trans (congrArg some (by (exact congrArg iv (by unfold leftS; first | (rw [if_pos (by omega)]; done) | (rw [if_neg (by omega), g4, gfin]; done) | (rw [if_neg (by omega), g4, leftL_out hi2 (by omega) hk2]; done) | (rw [if_neg (by omega), h4, leftE_out hi (by omega) hk]; exact (leftL_neg _ (by omega)).symm))))), rfl⟩, trivial⟩
                      · skip
                        have hk2 : ¬ ((nthL s.links i2).state.size : Int) > m2 := of_decide_eq_false hb10
                        refine aw_skip ?_
                        refine normal_thn ?_
                        refine aw_draw mixed ?_
                        refine g_u (s_fieldAddr rfl rfl fa52_10 rfl) ?_
                        refine g_u (s_load_imm rfl rfl rfl tA48 tS48 rfl rfl) ?_
                        refine g_u (s_mv_imm rfl rfl) ?_
                        refine g_u (s_indexAddr rfl rfl rfl Tryd.underlying48 tS87 (by omega) (ixL hi2)) ?_
                        refine g_u (s_fieldAddr_cp rfl rfl fa87_3 rfl rfl) ?_
                        refine g_u (s_load_cp rfl rfl tA30 tS30 rfl rfl) ?_
                        refine g_u (s_mv_imm rfl rfl) ?_
                        refine g_u (s_sub rfl rfl rfl) ?_
                        refine g_u (s_fieldAddr rfl rfl fa52_10 rfl) ?_
                        refine g_u (s_load_imm rfl rfl rfl tA48 tS48 rfl rfl) ?_
                        refine g_u (s_mv_imm rfl rfl) ?_
                        refine g_u (s_indexAddr rfl rfl rfl Tryd.underlying48 tS87 (by omega) (ixL hi2)) ?_
                        refine g_u (s_fieldAddr_cp rfl rfl fa87_2 rfl rfl) ?_
                        refine g_u (s_load_cp rfl rfl tA9 tS9 rfl rfl) ?_
                        refine g_u (s_lenS rfl rfl Tryd.underlying9) ?_
                        refine g_u (s_sub rfl rfl rfl) ?_
                        refine g_u (s_call1 (leftAs_c _ _ ⟨by ((try simp only [decide_eq_true_eq, decide_eq_false_iff_not, bne_iff_ne, ne_eq, beq_iff_eq, bne_eq_false_iff_eq, beq_eq_false_iff_ne, Bool.not_eq_true', Bool.not_eq_false', gt_iff_lt, ge_iff_le] at *); (repeat simp (disch := omega) only [wrap64, wrap32] at *)); omega, by ((try simp only [decide_eq_true_eq, decide_eq_false_iff_not, bne_iff_ne, ne_eq, beq_iff_eq, bne_eq_false_iff_eq, beq_eq_false_iff_ne, Bool.not_eq_true', Bool.not_eq_false', gt_iff_lt, ge_iff_le] at *); (repeat simp (disch := omega) only [wrap64, wrap32] at *)); omega⟩) rfl rfl) ?_
                        refine g_u (s_as_imm rfl rfl) ?_
                        refine g_nil ⟨by kernel_rfl, ?_⟩
                        refine normal_blk ?_
                        refine normal_thn ?_
                        refine aw_region ?_
                        refine g_u (s_mv_imm rfl rfl) ?_
                        refine g_u (s_add rfl rfl rfl) ?_
                        refine g_u (s_as_imm rfl rfl) ?_
                        refine g_nil ?_
                        refine normal_thn ?_
                        have ed := leftL_drop (m := m2) hi2 (by omega) hk2
                        have bl := leftAs_bd' (nthL s.links i2).attrs (m2 - 1 - (nthL s.links i2).state.size)
                        refine ⟨⟨i2 + 1, leftAs (nthL s.links i2).attrs (m2 - 1 - (nthL s.links i2).state.size)⟩, ⟨hi2, ⟨by dsimp only; omega, by dsimp only; omega⟩, by dsimp only; omega, by dsimp only; rw [g4, ed]⟩, ⟨rfl, rfl, look_int rfl (by dsimp only; rw [wrap64 (n := m2 - 1) (by omega) (by omega), wrap64 (by omega) (by omega)]), look_int rfl (by rw [wrap64 (by omega) (by omega)]; rfl), trivial⟩, by dsimp only; omega⟩
                    · skip
                      have hs2 : m2 < 0 := by have := of_decide_eq_false hb9; omega
                      have gfin : leftL (s.links.drop i2) m2 = m2 := leftL_neg _ hs2
                      refine aw_exit ?_
                      refine exit_thn ?_
                      refine exit_thn ?_
                      refine exit_blk ?_
                      refine normal_thn ?_
                      refine aw_seq ?_
                      refine aw_region ?_
                      refine g_u (s_mv_imm rfl rfl) ?_
                      refine g_u (s_as_imm rfl rfl) ?_
                      refine g_nil ?_
                      refine normal_thn ?_
                      refine aw_ret ?_
                      exact ⟨⟨(rfl : toAV (Al.look _ _) = some _).trans (congrArg some (by (exact congrArg iv (by unfold leftS; first | (rw [if_pos (by omega)]; done) | (rw [if_neg (by omega), g4, gfin]; done) | (rw [if_neg (by omega), g4, leftL_out hi2 (by omega) hk2]; done) | (rw [if_neg (by omega), h4, leftE_out hi (by omega) hk]; exact (leftL_neg _ (by omega)).symm))))), rfl⟩, trivial⟩
                  · rw [hb8]
                    have hin2 : i2 = s.links.length := by have := of_decide_eq_false hb8; (try simp only [List.length_map] at this); omega
                    have gfin : leftL (s.links.drop i2) m2 = m2 := by rw [hin2, List.drop_length]; rfl
                    refine g_skip rfl rfl rfl ?_
                    refine g_skip rfl rfl rfl ?_
                    refine g_u (s_pick_f rfl rfl rfl) ?_
                    refine g_nil ?_
                    refine normal_thn ?_
                    refine aw_cond_false rfl ?_
                    refine aw_exit ?_
                    refine exit_thn ?_
                    refine exit_thn ?_
                    refine exit_blk ?_
                    refine normal_thn ?_
                    refine aw_seq ?_
                    refine aw_region ?_
                    refine g_u (s_mv_imm rfl rfl) ?_
                    refine g_u (s_as_imm rfl rfl) ?_
                    refine g_nil ?_
                    refine normal_thn ?_
                    refine aw_ret ?_
                    exact ⟨⟨(rfl : toAV (Al.look _ _) = some _).trans (congrArg some (by (exact congrArg iv (by unfold leftS; first | (rw [if_pos (by omega)]; done) | (rw [if_neg (by omega), g4, gfin]; done) | (rw [if_neg (by omega), g4, leftL_out hi2 (by omega) hk2]; done) | (rw [if_neg (by omega), h4, leftE_out hi (by omega) hk]; exact (leftL_neg _ (by omega)).symm))))), rfl⟩, trivial⟩
            · rw [hb5]
              have hin : i = s.events.length := by have := of_decide_eq_false hb5; (try simp only [List.length_map] at this); omega
              have hm : leftE s.events (leftAs s.attrs (n - 1 - s.state.size - s.name.size - s.note.size)) = m := by rw [h4, hin, List.drop_length]; rfl
              refine g_skip rfl rfl rfl ?_
              refine g_skip rfl rfl rfl ?_
              refine g_u (s_pick_f rfl rfl rfl) ?_
              refine g_nil ?_
              refine normal_thn ?_
              refine aw_cond_false rfl ?_
              refine aw_exit ?_
              refine exit_thn ?_
              refine exit_thn ?_
              refine exit_blk ?_
              refine normal_thn ?_
              refine aw_seq ?_
              refine aw_seq ?_
              refine aw_region ?_
              refine g_u (s_as_imm rfl rfl) ?_
              refine g_nil ?_
              refine normal_thn ?_
              refine aw_block ?_
              refine aw_loop' (fun j : Nat × Int => [(2, .ptr 1002 0), (1002, .box 52 (.imm s.av)), (1, .imm (iv j.2)), (6, .imm (iv (j.1 : Int)))]) (fun j => j.1 ≤ s.links.length ∧ (-1000000000000 ≤ j.2 ∧ j.2 ≤ 1000000000) ∧ ((j.1 : Int) ≤ leftE s.events (leftAs s.attrs (n - 1 - s.state.size - s.name.size - s.note.size)) - j.2) ∧ leftL s.links (leftE s.events (leftAs s.attrs (n - 1 - s.state.size - s.name.size - s.note.size))) = leftL (s.links.drop j.1) j.2) (fun j => s.links.length - j.1) (⟨0, m⟩) ?_ ⟨rfl, rfl, rfl, rfl, trivial⟩ ?_
              · exact ⟨Nat.zero_le _, h2, by rw [hm]; simp, by rw [hm]; rfl⟩
              · rintro ⟨i2, m2⟩ ⟨g1, g2, g3, g4⟩; dsimp only at g1 g2 g3 g4
                refine aw_seq ?_
                refine aw_seq ?_
                refine aw_region ?_
                refine g_u (s_mv_imm rfl rfl) ?_
                refine g_u (s_fieldAddr rfl rfl fa52_10 rfl) ?_
                refine g_u (s_load_imm rfl rfl rfl tA48 tS48 rfl rfl) ?_
                refine g_u (s_lenL rfl rfl Tryd.underlying48) ?_
                refine g_u (s_ltI rfl rfl rfl) ?_
                refine g_u (s_mv_imm rfl rfl) ?_
                refine g_case (t := 91) rfl ?_
                rintro (hb11 | hb11)
                · rw [hb11]
                  have hi2 : i2 < s.links.length := by have := of_decide_eq_true hb11; (try simp only [List.length_map] at this); omega
                  refine g_run rfl rfl (s_mv_imm rfl rfl) ?_
                  refine g_run rfl rfl (s_geI rfl rfl rfl) ?_
                  refine g_u (s_pick_t rfl rfl rfl) ?_
                  refine g_nil ?_
                  refine normal_thn ?_
                  refine aw_cond rfl (fun hb12 => ?_) (fun hb12 => ?_)
                  · skip
                    have hs2 : ¬ m2 < 0 := by have := of_decide_eq_true hb12; omega
                    refine aw_skip ?_
                    refine normal_thn ?_
                    refine aw_seq ?_
                    refine aw_block ?_
                    refine aw_seq ?_
                    refine aw_seq ?_
                    refine aw_region ?_
                    refine g_u (s_fieldAddr rfl rfl fa52_10 rfl) ?_
                    refine g_u (s_load_imm rfl rfl rfl tA48 tS48 rfl rfl) ?_
                    refine g_u (s_mv_imm rfl rfl) ?_
                    refine g_u (s_indexAddr rfl rfl rfl Tryd.underlying48 tS87 (by omega) (ixL hi2)) ?_
                    refine g_u (s_fieldAddr_cp rfl rfl fa87_2 rfl rfl) ?_
                    refine g_u (s_load_cp rfl rfl tA9 tS9 rfl rfl) ?_
                    refine g_u (s_lenS rfl rfl Tryd.underlying9) ?_
                    refine g_u (s_mv_imm rfl rfl) ?_
                    refine g_u (s_gtI rfl rfl rfl) ?_
                    refine g_nil ?_
                    refine normal_thn ?_
                    refine aw_cond rfl (fun hb13 => ?_) (fun hb13 => ?_)
                    · skip
                      have hk2 : ((nthL s.links i2).state.size : Int) > m2 := of_decide_eq_true hb13
                      refine aw_seq ?_
                      refine aw_region ?_
                      refine g_u (s_as_imm rfl rfl) ?_
                      refine g_nil ?_
                      refine normal_thn ?_
                      refine aw_ret ?_
                      refine ret_thn ?_
                      refine ret_blk ?_
                      refine ret_thn ?_
                      refine ret_thn ?_
                      refine ret_blk ?_
                      refine ret_thn ?_
                      exact ⟨⟨(rfl : toAV (Al.look _ _) = some _).trans (congrArg some (by (exact congrArg iv (by unfold leftS; first | (rw [if_pos (by omega)]; done) | (rw [if_neg (by omega), g4, gfin]; done) | (rw [if_neg (by omega), g4, leftL_out hi2 (by omega) hk2]; done) | (rw [if_neg (by omega), h4, leftE_out hi (by omega) hk]; exact (leftL_neg _ (by omega)).symm))))), rfl⟩, trivial⟩
                    · skip
                      have hk2 : ¬ ((nthL s.links i2).state.size : Int) > m2 := of_decide_eq_false hb13
                      refine aw_skip ?_
                      refine normal_thn ?_
                      refine aw_draw mixed ?_
                      refine g_u (s_fieldAddr rfl rfl fa52_10 rfl) ?_
                      refine g_u (s_load_imm rfl rfl rfl tA48 tS48 rfl rfl) ?_
                      refine g_u (s_mv_imm rfl rfl) ?_
                      refine g_u (s_indexAddr rfl rfl rfl Tryd.underlying48 tS87 (by omega) (ixL hi2)) ?_
                      refine g_u (s_fieldAddr_cp rfl rfl fa87_3 rfl rfl) ?_
                      refine g_u (s_load_cp rfl rfl tA30 tS30 rfl rfl) ?_
                      refine g_u (s_mv_imm rfl rfl) ?_
                      refine g_u (s_sub rfl rfl rfl) ?_
                      refine g_u (s_fieldAddr rfl rfl fa52_10 rfl) ?_
                      refine g_u (s_load_imm rfl rfl rfl tA48 tS48 rfl rfl) ?_
                      refine g_u (s_mv_imm rfl rfl) ?_
                      refine g_u (s_indexAddr rfl rfl rfl Tryd.underlying48 tS87 (by omega) (ixL hi2)) ?_
                      refine g_u (s_fieldAddr_cp rfl rfl fa87_2 rfl rfl) ?_
                      refine g_u (s_load_cp rfl rfl tA9 tS9 rfl rfl) ?_
                      refine g_u (s_lenS rfl rfl Tryd.underlying9) ?_
                      refine g_u (s_sub rfl rfl rfl) ?_
                      refine g_u (s_call1 (leftAs_c _ _ ⟨by ((try simp only [decide_eq_true_eq, decide_eq_false_iff_not, bne_iff_ne, ne_eq, beq_iff_eq, bne_eq_false_iff_eq, beq_eq_false_iff_ne, Bool.not_eq_true', Bool.not_eq_false', gt_iff_lt, ge_iff_le] at *); (repeat simp (disch := omega) only [wrap64, wrap32] at *)); omega, by ((try simp only [decide_eq_true_eq, decide_eq_false_iff_not, bne_iff_ne, ne_eq, beq_iff_eq, bne_eq_false_iff_eq, beq_eq_false_iff_ne, Bool.not_eq_true', Bool.not_eq_false', gt_iff_lt, ge_iff_le] at *); (repeat simp (disch := omega) only [wrap64, wrap32] at *)); omega⟩) rfl rfl) ?_
                      refine g_u (s_as_imm rfl rfl) ?_
                      refine g_nil ⟨by kernel_rfl, ?_⟩
                      refine normal_blk ?_
                      refine normal_thn ?_
                      refine aw_region ?_
                      refine g_u (s_mv_imm rfl rfl) ?_
                      refine g_u (s_add rfl rfl rfl) ?_
                      refine g_u (s_as_imm rfl rfl) ?_
                      refine g_nil ?_
                      refine normal_thn ?_
                      have ed := leftL_drop (m := m2) hi2 (by omega) hk2
                      have bl := leftAs_bd' (nthL s.links i2).attrs (m2 - 1 - (nthL s.links i2).state.size)
                      refine ⟨⟨i2 + 1, leftAs (nthL s.links i2).attrs (m2 - 1 - (nthL s.links i2).state.size)⟩, ⟨hi2, ⟨by dsimp only; omega, by dsimp only; omega⟩, by dsimp only; omega, by dsimp only; rw [g4, ed]⟩, ⟨rfl, rfl, look_int rfl (by dsimp only; rw [wrap64 (n := m2 - 1) (by omega) (by omega), wrap64 (by omega) (by omega)]), look_int rfl (by rw [wrap64 (by omega) (by omega)]; rfl), trivial⟩, by dsimp only; omega⟩
                  · skip
                    have hs2 : m2 < 0 := by have := of_decide_eq_false hb12; omega
                    have gfin : leftL (s.links.drop i2) m2 = m2 := leftL_neg _ hs2
                    refine aw_exit ?_
                    refine exit_thn ?_
                    refine exit_thn ?_
                    refine exit_blk ?_
                    refine normal_thn ?_
                    refine aw_seq ?_
                    refine aw_region ?_
                    refine g_u (s_mv_imm rfl rfl) ?_
                    refine g_u (s_as_imm rfl rfl) ?_
                    refine g_nil ?_
                    refine normal_thn ?_
                    refine aw_ret ?_
                    exact ⟨⟨(rfl : toAV (Al.look _ _) = some _).trans (congrArg some (by (exact congrArg iv (by unfold leftS; first | (rw [if_pos (by omega)]; done) | (rw [if_neg (by omega), g4, gfin]; done) | (rw [if_neg (by omega), g4, leftL_out hi2 (by omega) hk2]; done) | (rw [if_neg (by omega), h4, leftE_out hi (by omega) hk]; exact (leftL_neg _ (by omega)).symm))))), rfl⟩, trivial⟩
                · rw [hb11]
                  have hin2 : i2 = s.links.length := by have := of_decide_eq_false hb11; (try simp only [List.length_map] at this); omega
                  have gfin : leftL (s.links.drop i2) m2 = m2 := by rw [hin2, List.drop_length]; rfl
                  refine g_skip rfl rfl rfl ?_
                  refine g_skip rfl rfl rfl ?_
                  refine g_u (s_pick_f rfl rfl rfl) ?_
                  refine g_nil ?_
                  refine normal_thn ?_
                  refine aw_cond_false rfl ?_
                  refine aw_exit ?_
                  refine exit_thn ?_
                  refine exit_thn ?_
                  refine exit_blk ?_
                  refine normal_thn ?_
                  refine aw_seq ?_
                  refine aw_region ?_
                  refine g_u (s_mv_imm rfl rfl) ?_
                  refine g_u (s_as_imm rfl rfl) ?_
                  refine g_nil ?_
                  refine normal_thn ?_
                  refine aw_ret ?_
                  exact ⟨⟨(rfl : toAV (Al.look _ _) = some _).trans (congrArg some (by (exact congrArg iv (by unfold leftS; first | (rw [if_pos (by omega)]; done) | (rw [if_neg (by omega), g4, gfin]; done) | (rw [if_neg (by omega), g4, leftL_out hi2 (by omega) hk2]; done) | (rw [if_neg (by omega), h4, leftE_out hi (by omega) hk]; exact (leftL_neg _ (by omega)).symm))))), rfl⟩, trivial⟩

end Go.Proofs

namespace Go.Proofs
open Go Go.Al

theorem leftE_bd : ∀ (es : List GE) (m : Int), leftE es m ≤ m ∧ (0 ≤ m → -1 ≤ leftE es m)
  | [], m => ⟨Int.le_refl _, fun h => by simp only [leftE]; omega⟩
  | e :: es, m => by
    rw [leftE]
    split
    · exact ⟨Int.le_refl _, fun h => by omega⟩
    split
    · exact ⟨by omega, fun h => by omega⟩
    rename_i h1 h2
    have b := leftAs_bd' e.attrs (m - 1 - e.name.size)
    have c := leftE_bd es (leftAs e.attrs (m - 1 - e.name.size))
    refine ⟨by omega, fun h => ?_⟩
    rcases Int.lt_or_le (leftAs e.attrs (m - 1 - e.name.size)) 0 with h3 | h3
    · rw [leftE_neg _ h3]; omega
    · exact c.2 h3
theorem leftL_bd : ∀ (es : List GL) (m : Int), leftL es m ≤ m ∧ (0 ≤ m → -1 ≤ leftL es m)
  | [], m => ⟨Int.le_refl _, fun h => by simp only [leftL]; omega⟩
  | e :: es, m => by
    rw [leftL]
    split
    · exact ⟨Int.le_refl _, fun h => by omega⟩
    split
    · exact ⟨by omega, fun h => by omega⟩
    rename_i h1 h2
    have b := leftAs_bd' e.attrs (m - 1 - e.state.size)
    have c := leftL_bd es (leftAs e.attrs (m - 1 - e.state.size))
    refine ⟨by omega, fun h => ?_⟩
    rcases Int.lt_or_le (leftAs e.attrs (m - 1 - e.state.size)) 0 with h3 | h3
    · rw [leftL_neg _ h3]; omega
    · exact c.2 h3
theorem leftS_bd (s : GSpan) {n : Int} (h : 0 ≤ n) : leftS s n ≤ n - 1 ∧ -(2 * n) - 1 ≤ leftS s n := by
  unfold leftS
  split
  · omega
  rename_i h1
  have a := leftAs_bd' s.attrs (n - 1 - s.state.size - s.name.size - s.note.size)
  generalize leftAs s.attrs (n - 1 - s.state.size - s.name.size - s.note.size) = m at a ⊢
  have b := leftE_bd s.events m
  have b2 := fun h => leftE_neg s.events (m := m) h
  generalize leftE s.events m = p at b b2 ⊢
  have c := leftL_bd s.links p
  have c2 := fun h => leftL_neg s.links (m := p) h
  generalize leftL s.links p = q at c c2 ⊢
  omega
theorem leftSp_bd : ∀ (es : List GSpan) (m : Int), leftSp es m ≤ m ∧ (0 ≤ m → -(2 * m) - 1 ≤ leftSp es m)
  | [], m => ⟨Int.le_refl _, fun h => by simp only [leftSp]; omega⟩
  | e :: es, m => by
    rw [leftSp]
    split
    · exact ⟨Int.le_refl _, fun h => by omega⟩
    rename_i h1
    have b := leftS_bd e (n := m) (by omega)
    have c := leftSp_bd es (leftS e m)
    have d := fun h => leftSp_neg es (m := leftS e m) h
    generalize leftSp es (leftS e m) = q at *
    omega
theorem leftC_bd : ∀ (es : List GScope) (m : Int), leftC es m ≤ m ∧ (0 ≤ m → -(2 * m) - 1 ≤ leftC es m)
  | [], m => ⟨Int.le_refl _, fun h => by simp only [leftC]; omega⟩
  | e :: es, m => by
    rw [leftC]
    split
    · exact ⟨Int.le_refl _, fun h => by omega⟩
    split
    · exact ⟨by omega, fun h => by omega⟩
    rename_i h1 h2
    have b := leftSp_bd e.spans (m - 1 - e.name.size - e.version.size)
    have b2 := fun h => leftSp_neg e.spans (m := m - 1 - e.name.size - e.version.size) h
    generalize leftSp e.spans (m - 1 - e.name.size - e.version.size) = p at *
    have c := leftC_bd es p
    have d := fun h => leftC_neg es (m := p) h
    generalize leftC es p = q at *
    omega
theorem leftR_le {b : List GRes} {n : Int} (h : ¬ leftR b n < 0) : (wtB b : Int) ≤ n := by have := leftR_wt b (m := n) (by omega); omega
end Go.Proofs

namespace Go.Proofs
open Go Go.Al
set_option maxRecDepth 10000
set_option maxHeartbeats 4000000 in
theorem leftR_c (b : List GRes) (n : Int) (hn : -1000000000000 ≤ n ∧ n ≤ 1000000000) : PCall Tryd.prog Γ0 8 [batchAv b, iv n] [iv (leftR b n)] := by
  refine pcall_of Tryd.func8 rfl Tryd.ntmps8 (by kernel_rfl) rfl fun w0 I0 G0 => ?_
  refine aw_seq ?_
  refine aw_region ?_
  refine g_uG (s_box_imm 1002 rfl rfl rfl rfl) rfl ?_
  refine g_u (s_as_imm rfl rfl) ?_
  refine g_nil ?_
  refine normal_thn ?_
  refine aw_seq ?_
  refine aw_seq ?_
  refine aw_region ?_
  refine g_u (s_as_imm rfl rfl) ?_
  refine g_nil ?_
  refine normal_thn ?_
  refine aw_block ?_
  refine aw_loop' (fun j : Nat × Int => [(2, .ptr 1002 0), (1002, .box 24 (.imm (batchAv b))), (1, .imm (iv j.2)), (5, .imm (iv (j.1 : Int)))]) (fun j => j.1 ≤ b.length ∧ (-1000000000000 ≤ j.2 ∧ j.2 ≤ 1000000000) ∧ ((j.1 : Int) ≤ n - j.2) ∧ leftR b n = leftR (b.drop j.1) j.2) (fun j => b.length - j.1) (⟨0, n⟩) ?_ ⟨rfl, rfl, rfl, rfl, trivial⟩ ?_
  · exact ⟨Nat.zero_le _, hn, by dsimp only; omega, rfl⟩
  · rintro ⟨i, m⟩ ⟨h1, h2, h3, h4⟩; dsimp only at h1 h2 h3 h4
    refine aw_seq ?_
    refine aw_seq ?_
    refine aw_region ?_
    refine g_u (s_mv_imm rfl rfl) ?_
    refine g_u (s_fieldAddr rfl rfl fa24_0 rfl) ?_
    refine g_u (s_load_imm rfl rfl rfl tA22 tS22 rfl rfl) ?_
    refine g_u (s_lenL rfl rfl Tryd.underlying22) ?_
    refine g_u (s_ltI rfl rfl rfl) ?_
    refine g_u (s_mv_imm rfl rfl) ?_
    refine g_case (t := 14) rfl ?_
    rintro (hb1 | hb1)
    · rw [hb1]
      have hi : i < b.length := by have := of_decide_eq_true hb1; (try simp only [List.length_map] at this); omega
      refine g_run rfl rfl (s_mv_imm rfl rfl) ?_
      refine g_run rfl rfl (s_geI rfl rfl rfl) ?_
      refine g_u (s_pick_t rfl rfl rfl) ?_
      refine g_nil ?_
      refine normal_thn ?_
      refine aw_cond rfl (fun hb2 => ?_) (fun hb2 => ?_)
      · skip
        have hs : m ≥ 0 := of_decide_eq_true hb2
        have b1 := leftAs_bd' (nthR b i).attrs (m - 1)
        refine aw_skip ?_
        refine normal_thn ?_
        refine aw_seq ?_
        refine aw_block ?_
        refine aw_seq ?_
        refine aw_region ?_
        refine g_u (s_fieldAddr rfl rfl fa24_0 rfl) ?_
        refine g_u (s_load_imm rfl rfl rfl tA22 tS22 rfl rfl) ?_
        refine g_u (s_mv_imm rfl rfl) ?_
        refine g_u (s_indexAddr rfl rfl rfl Tryd.underlying22 tS33 (by omega) (ixR hi)) ?_
        refine g_u (s_load_cp rfl rfl tA33 tS33 rfl rfl) ?_
        refine g_uG (s_alloc' 1006 rfl rfl rfl tZ33) rfl ?_
        refine g_u (s_store_imm rfl rfl rfl tS33 rfl rfl) ?_
        refine g_nil ?_
        refine normal_thn ?_
        refine aw_seq ?_
        refine aw_region ?_
        refine g_u (s_fieldAddr rfl rfl fa33_0 rfl) ?_
        refine g_u (s_load_imm rfl rfl rfl tA30 tS30 rfl rfl) ?_
        refine g_u (s_mv_imm rfl rfl) ?_
        refine g_u (s_sub rfl rfl rfl) ?_
        refine g_u (s_call1 (leftAs_c _ _ ⟨by ((try simp only [decide_eq_true_eq, decide_eq_false_iff_not, bne_iff_ne, ne_eq, beq_iff_eq, bne_eq_false_iff_eq, beq_eq_false_iff_ne, Bool.not_eq_true', Bool.not_eq_false', gt_iff_lt, ge_iff_le] at *); (repeat simp (disch := omega) only [wrap64, wrap32] at *)); omega, by ((try simp only [decide_eq_true_eq, decide_eq_false_iff_not, bne_iff_ne, ne_eq, beq_iff_eq, bne_eq_false_iff_eq, beq_eq_false_iff_ne, Bool.not_eq_true', Bool.not_eq_false', gt_iff_lt, ge_iff_le] at *); (repeat simp (disch := omega) only [wrap64, wrap32] at *)); omega⟩) rfl rfl) ?_
        refine g_u (s_as_imm rfl rfl) ?_
        refine g_nil ?_
        refine normal_thn ?_
        refine aw_seq ?_
        refine aw_region ?_
        refine g_u (s_as_imm rfl rfl) ?_
        refine g_nil ?_
        refine normal_thn ?_
        refine aw_block ?_
        refine aw_loop' (fun j : Nat × Int => [(2, .ptr 1002 0), (1002, .box 24 (.imm (batchAv b))), (1, .imm (iv j.2)), (5, .imm (iv (i : Int))), (6, .ptr 1006 0), (1006, .box 33 (.imm (nthR b i).av)), (7, .imm (iv (j.1 : Int)))]) (fun j => j.1 ≤ (nthR b i).scopes.length ∧ (-1000000000000 ≤ j.2 ∧ j.2 ≤ 1000000000) ∧ ((j.1 : Int) ≤ (leftAs (nthR b i).attrs (m - 1)) - j.2) ∧ leftC (nthR b i).scopes (leftAs (nthR b i).attrs (m - 1)) = leftC ((nthR b i).scopes.drop j.1) j.2) (fun j => (nthR b i).scopes.length - j.1) (⟨0, (leftAs (nthR b i).attrs (m - 1))⟩) ?_ ⟨rfl, rfl, look_int rfl (by rw [wrap64 (by omega) (by omega)]), rfl, rfl, rfl, rfl, trivial⟩ ?_
        · exact ⟨Nat.zero_le _, ⟨by dsimp only; omega, by dsimp only; omega⟩, by simp, rfl⟩
        · rintro ⟨k, m1⟩ ⟨g1, g2, g3, g4⟩; dsimp only at g1 g2 g3 g4
          refine aw_seq ?_
          refine aw_seq ?_
          refine aw_region ?_
          refine g_u (s_mv_imm rfl rfl) ?_
          refine g_u (s_fieldAddr rfl rfl fa33_1 rfl) ?_
          refine g_u (s_load_imm rfl rfl rfl tA31 tS31 rfl rfl) ?_
          refine g_u (s_lenL rfl rfl Tryd.underlying31) ?_
          refine g_u (s_ltI rfl rfl rfl) ?_
          refine g_u (s_mv_imm rfl rfl) ?_
          refine g_case (t := 35) rfl ?_
          rintro (hb3 | hb3)
          · rw [hb3]
            have hk : k < (nthR b i).scopes.length := by have := of_decide_eq_true hb3; (try simp only [List.length_map] at this); omega
            refine g_run rfl rfl (s_mv_imm rfl rfl) ?_
            refine g_run rfl rfl (s_geI rfl rfl rfl) ?_
            refine g_u (s_pick_t rfl rfl rfl) ?_
            refine g_nil ?_
            refine normal_thn ?_
            refine aw_cond rfl (fun hb4 => ?_) (fun hb4 => ?_)
            · skip
              have hs1 : m1 ≥ 0 := of_decide_eq_true hb4
              refine aw_skip ?_
              refine normal_thn ?_
              refine aw_seq ?_
              refine aw_block ?_
              refine aw_seq ?_
              refine aw_seq ?_
              refine aw_region ?_
              refine g_u (s_fieldAddr rfl rfl fa33_1 rfl) ?_
              refine g_u (s_load_imm rfl rfl rfl tA31 tS31 rfl rfl) ?_
              refine g_u (s_mv_imm rfl rfl) ?_
              refine g_u (s_indexAddr rfl rfl rfl Tryd.underlying31 tS67 (by omega) (ixC hk)) ?_
              refine g_u (s_fieldAddr_cp rfl rfl fa67_0 rfl rfl) ?_
              refine g_u (s_load_cp rfl rfl tA9 tS9 rfl rfl) ?_
              refine g_u (s_lenS rfl rfl Tryd.underlying9) ?_
              refine g_u (s_mv_imm rfl rfl) ?_
              refine g_u (s_gtI rfl rfl rfl) ?_
              refine g_u (s_mv_imm rfl rfl) ?_
              refine g_case (t := 50) rfl ?_
              rintro (hb5 | hb5)
              · rw [hb5]
                have hA : (((nthC (nthR b i).scopes k).name.size : Int) > m1) := of_decide_eq_true hb5
                refine g_skip rfl rfl rfl ?_
                refine g_skip rfl rfl rfl ?_
                refine g_skip rfl rfl rfl ?_
                refine g_skip rfl rfl rfl ?_
                refine g_skip rfl rfl rfl ?_
                refine g_skip rfl rfl rfl ?_
                refine g_skip rfl rfl rfl ?_
                refine g_skip rfl rfl rfl ?_
                refine g_skip rfl rfl rfl ?_
                refine g_u (s_pick_t rfl rfl rfl) ?_
                refine g_nil ?_
                refine normal_thn ?_
                refine aw_cond_true rfl ?_
                refine aw_seq ?_
                refine aw_region ?_
                refine g_u (s_as_imm rfl rfl) ?_
                refine g_nil ?_
                refine normal_thn ?_
                refine aw_ret ?_
                refine ret_thn ?_
                refine ret_blk ?_
                refine ret_thn ?_
                refine ret_thn ?_
                refine ret_blk ?_
                refine ret_blk ?_
                refine ret_thn ?_
                refine ret_thn ?_
                refine ret_blk ?_
                refine ret_thn ?_
                exact ⟨⟨(rfl : toAV (Al.look _ _) = some _).trans (congrArg some (by (exact congrArg iv (by first | (rw [h4, hfin]; done) | (rw [h4, leftR_drop hi (by omega), g4, leftC_out hk (by omega) (.inl hA), leftR_neg _ (by decide)]; done) | (rw [h4, leftR_drop hi (by omega), g4, leftC_out hk (by omega) (.inr hB), leftR_neg _ (by decide)]; done))))), rfl⟩, trivial⟩
              · rw [hb5]
                have hA : ¬ (((nthC (nthR b i).scopes k).name.size : Int) > m1) := of_decide_eq_false hb5
                refine g_run rfl rfl (s_fieldAddr rfl rfl fa33_1 rfl) ?_
                refine g_run rfl rfl (s_load_imm rfl rfl rfl tA31 tS31 rfl rfl) ?_
                refine g_run rfl rfl (s_mv_imm rfl rfl) ?_
                refine g_run rfl rfl (s_indexAddr rfl rfl rfl Tryd.underlying31 tS67 (by omega) (ixC hk)) ?_
                refine g_run rfl rfl (s_fieldAddr_cp rfl rfl fa67_1 rfl rfl) ?_
                refine g_run rfl rfl (s_load_cp rfl rfl tA9 tS9 rfl rfl) ?_
                refine g_run rfl rfl (s_lenS rfl rfl Tryd.underlying9) ?_
                refine g_run rfl rfl (s_mv_imm rfl rfl) ?_
                refine g_run rfl rfl (s_gtI rfl rfl rfl) ?_
                refine g_u (s_pick_f rfl rfl rfl) ?_
                refine g_nil ?_
                refine normal_thn ?_
                refine aw_cond rfl (fun hb6 => ?_) (fun hb6 => ?_)
                · skip
                  have hB : (((nthC (nthR b i).scopes k).version.size : Int) > m1) := of_decide_eq_true hb6
                  refine aw_seq ?_
                  refine aw_region ?_
                  refine g_u (s_as_imm rfl rfl) ?_
                  refine g_nil ?_
                  refine normal_thn ?_
                  refine aw_ret ?_
                  refine ret_thn ?_
                  refine ret_blk ?_
                  refine ret_thn ?_
                  refine ret_thn ?_
                  refine ret_blk ?_
                  refine ret_blk ?_
                  refine ret_thn ?_
                  refine ret_thn ?_
                  refine ret_blk ?_
                  refine ret_thn ?_
                  exact ⟨⟨(rfl : toAV (Al.look _ _) = some _).trans (congrArg some (by (exact congrArg iv (by first | (rw [h4, hfin]; done) | (rw [h4, leftR_drop hi (by omega), g4, leftC_out hk (by omega) (.inl hA), leftR_neg _ (by decide)]; done) | (rw [h4, leftR_drop hi (by omega), g4, leftC_out hk (by omega) (.inr hB), leftR_neg _ (by decide)]; done))))), rfl⟩, trivial⟩
                · skip
                  have hB : ¬ (((nthC (nthR b i).scopes k).version.size : Int) > m1) := of_decide_eq_false hb6
                  refine aw_skip ?_
                  refine normal_thn ?_
                  refine aw_seq ?_
                  refine aw_draw mixed ?_
                  refine g_u (s_mv_imm rfl rfl) ?_
                  refine g_u (s_sub rfl rfl rfl) ?_
                  refine g_u (s_fieldAddr rfl rfl fa33_1 rfl) ?_
                  refine g_u (s_load_imm rfl rfl rfl tA31 tS31 rfl rfl) ?_
                  refine g_u (s_mv_imm rfl rfl) ?_
                  refine g_u (s_indexAddr rfl rfl rfl Tryd.underlying31 tS67 (by omega) (ixC hk)) ?_
                  refine g_u (s_fieldAddr_cp rfl rfl fa67_0 rfl rfl) ?_
                  refine g_u (s_load_cp rfl rfl tA9 tS9 rfl rfl) ?_
                  refine g_u (s_lenS rfl rfl Tryd.underlying9) ?_
                  refine g_u (s_sub rfl rfl rfl) ?_
                  refine g_u (s_fieldAddr rfl rfl fa33_1 rfl) ?_
                  refine g_u (s_load_imm rfl rfl rfl tA31 tS31 rfl rfl) ?_
                  refine g_u (s_mv_imm rfl rfl) ?_
                  refine g_u (s_indexAddr rfl rfl rfl Tryd.underlying31 tS67 (by omega) (ixC hk)) ?_
                  refine g_u (s_fieldAddr_cp rfl rfl fa67_1 rfl rfl) ?_
                  refine g_u (s_load_cp rfl rfl tA9 tS9 rfl rfl) ?_
                  refine g_u (s_lenS rfl rfl Tryd.underlying9) ?_
                  refine g_u (s_sub rfl rfl rfl) ?_
                  refine g_u (s_as_imm rfl rfl) ?_
                  refine g_nil ⟨by kernel_rfl, ?_⟩
                  refine normal_thn ?_
                  refine aw_seq ?_
                  refine aw_region ?_
                  refine g_u (s_as_imm rfl rfl) ?_
                  refine g_nil ?_
                  refine normal_thn ?_
                  refine aw_block ?_
                  refine aw_loop' (fun j : Nat × Int => [(2, .ptr 1002 0), (1002, .box 24 (.imm (batchAv b))), (1, .imm (iv j.2)), (5, .imm (iv (i : Int))), (6, .ptr 1006 0), (1006, .box 33 (.imm (nthR b i).av)), (7, .imm (iv (k : Int))), (8, .imm (iv (j.1 : Int)))]) (fun j => j.1 ≤ (nthC (nthR b i).scopes k).spans.length ∧ (-1000000000000 ≤ j.2 ∧ j.2 ≤ 1000000000) ∧ ((j.1 : Int) ≤ (m1 - 1 - (nthC (nthR b i).scopes k).name.size - (nthC (nthR b i).scopes k).version.size) - j.2) ∧ leftSp (nthC (nthR b i).scopes k).spans (m1 - 1 - (nthC (nthR b i).scopes k).name.size - (nthC (nthR b i).scopes k).version.size) = leftSp ((nthC (nthR b i).scopes k).spans.drop j.1) j.2) (fun j => (nthC (nthR b i).scopes k).spans.length - j.1) (⟨0, (m1 - 1 - (nthC (nthR b i).scopes k).name.size - (nthC (nthR b i).scopes k).version.size)⟩) ?_ ⟨rfl, rfl, look_int rfl (by (try dsimp only); rw [wrap64 (n := m1 - 1) (by omega) (by omega), wrap64 (n := m1 - 1 - (nthC (nthR b i).scopes k).name.size) (by omega) (by omega), wrap64 (by omega) (by omega)]), rfl, rfl, rfl, rfl, rfl, trivial⟩ ?_
                  · exact ⟨Nat.zero_le _, ⟨by dsimp only; omega, by dsimp only; omega⟩, by simp, rfl⟩
                  · rintro ⟨q, m2⟩ ⟨f1, f2, f3, f4⟩; dsimp only at f1 f2 f3 f4
                    refine aw_seq ?_
                    refine aw_seq ?_
                    refine aw_region ?_
                    refine g_u (s_mv_imm rfl rfl) ?_
                    refine g_u (s_fieldAddr rfl rfl fa33_1 rfl) ?_
                    refine g_u (s_load_imm rfl rfl rfl tA31 tS31 rfl rfl) ?_
                    refine g_u (s_mv_imm rfl rfl) ?_
                    refine g_u (s_indexAddr rfl rfl rfl Tryd.underlying31 tS67 (by omega) (ixC hk)) ?_
                    refine g_u (s_fieldAddr_cp rfl rfl fa67_2 rfl rfl) ?_
                    refine g_u (s_load_cp rfl rfl tA61 tS61 rfl rfl) ?_
                    refine g_u (s_lenL rfl rfl Tryd.underlying61) ?_
                    refine g_u (s_ltI rfl rfl rfl) ?_
                    refine g_u (s_mv_imm rfl rfl) ?_
                    refine g_case (t := 88) rfl ?_
                    rintro (hb7 | hb7)
                    · rw [hb7]
                      have hq : q < (nthC (nthR b i).scopes k).spans.length := by have := of_decide_eq_true hb7; (try simp only [List.length_map] at this); omega
                      refine g_run rfl rfl (s_mv_imm rfl rfl) ?_
                      refine g_run rfl rfl (s_geI rfl rfl rfl) ?_
                      refine g_u (s_pick_t rfl rfl rfl) ?_
                      refine g_nil ?_
                      refine normal_thn ?_
                      refine aw_cond rfl (fun hb8 => ?_) (fun hb8 => ?_)
                      · skip
                        have hs2 : m2 ≥ 0 := of_decide_eq_true hb8
                        refine aw_skip ?_
                        refine normal_thn ?_
                        refine aw_seq ?_
                        refine aw_block ?_
                        refine aw_region ?_
                        refine g_u (s_fieldAddr rfl rfl fa33_1 rfl) ?_
                        refine g_u (s_load_imm rfl rfl rfl tA31 tS31 rfl rfl) ?_
                        refine g_u (s_mv_imm rfl rfl) ?_
                        refine g_u (s_indexAddr rfl rfl rfl Tryd.underlying31 tS67 (by omega) (ixC hk)) ?_
                        refine g_u (s_fieldAddr_cp rfl rfl fa67_2 rfl rfl) ?_
                        refine g_u (s_load_cp rfl rfl tA61 tS61 rfl rfl) ?_
                        refine g_u (s_mv_imm rfl rfl) ?_
                        refine g_u (s_indexAddr rfl rfl rfl Tryd.underlying61 tS52 (by omega) (ixS hq)) ?_
                        refine g_u (s_load_cp rfl rfl tA52 tS52 rfl (by first | exact getS_w (GSpan.width _) rfl | rfl)) ?_
                        refine g_u (s_mv_imm rfl rfl) ?_
                        refine g_u (s_call1 (leftS_c _ _ ⟨by omega, by omega⟩) rfl rfl) ?_
                        refine g_u (s_as_imm rfl rfl) ?_
                        refine g_nil ?_
                        refine normal_blk ?_
                        refine normal_thn ?_
                        refine aw_region ?_
                        refine g_u (s_mv_imm rfl rfl) ?_
                        refine g_u (s_add rfl rfl rfl) ?_
                        refine g_u (s_as_imm rfl rfl) ?_
                        refine g_nil ?_
                        refine normal_thn ?_
                        have bs := leftS_bd (nthS (nthC (nthR b i).scopes k).spans q) (n := m2) (by omega)
                        have ed := leftSp_drop hq (m := m2) (by omega)
                        refine ⟨⟨q + 1, leftS (nthS (nthC (nthR b i).scopes k).spans q) m2⟩, ⟨hq, by dsimp only; omega, by dsimp only; omega, by dsimp only; rw [f4, ed]⟩, ⟨rfl, rfl, rfl, rfl, rfl, rfl, rfl, look_int rfl (by rw [wrap64 (by omega) (by omega)]; rfl), trivial⟩, by dsimp only; omega⟩
                      · skip
                        have hs2 : ¬ m2 ≥ 0 := of_decide_eq_false hb8
                        have hfin2 : leftSp (nthC (nthR b i).scopes k).spans (m1 - 1 - (nthC (nthR b i).scopes k).name.size - (nthC (nthR b i).scopes k).version.size) = m2 := by rw [f4]; exact leftSp_neg _ (by omega)
                        refine aw_exit ?_
                        refine exit_thn ?_
                        refine exit_thn ?_
                        refine exit_blk ?_
                        refine normal_blk ?_
                        refine normal_thn ?_
                        refine aw_region ?_
                        refine g_u (s_mv_imm rfl rfl) ?_
                        refine g_u (s_add rfl rfl rfl) ?_
                        refine g_u (s_as_imm rfl rfl) ?_
                        refine g_nil ?_
                        refine normal_thn ?_
                        have bp := leftSp_bd (nthC (nthR b i).scopes k).spans (m1 - 1 - (nthC (nthR b i).scopes k).name.size - (nthC (nthR b i).scopes k).version.size)
                        have ed := leftC_drop hk (m := m1) (by omega) hA hB
                        refine ⟨⟨k + 1, m2⟩, ⟨hk, by dsimp only; omega, by dsimp only; omega, by dsimp only; rw [g4, ed, hfin2]⟩, ⟨rfl, rfl, rfl, rfl, rfl, rfl, look_int rfl (by rw [wrap64 (by omega) (by omega)]; rfl), trivial⟩, by dsimp only; omega⟩
                    · rw [hb7]
                      have hqn : q = (nthC (nthR b i).scopes k).spans.length := by have := of_decide_eq_false hb7; (try simp only [List.length_map] at this); omega
                      have hfin2 : leftSp (nthC (nthR b i).scopes k).spans (m1 - 1 - (nthC (nthR b i).scopes k).name.size - (nthC (nthR b i).scopes k).version.size) = m2 := by rw [f4, hqn, List.drop_length]; rfl
                      refine g_skip rfl rfl rfl ?_
                      refine g_skip rfl rfl rfl ?_
                      refine g_u (s_pick_f rfl rfl rfl) ?_
                      refine g_nil ?_
                      refine normal_thn ?_
                      refine aw_cond_false rfl ?_
                      refine aw_exit ?_
                      refine exit_thn ?_
                      refine exit_thn ?_
                      refine exit_blk ?_
                      refine normal_blk ?_
                      refine normal_thn ?_
                      refine aw_region ?_
                      refine g_u (s_mv_imm rfl rfl) ?_
                      refine g_u (s_add rfl rfl rfl) ?_
                      refine g_u (s_as_imm rfl rfl) ?_
                      refine g_nil ?_
                      refine normal_thn ?_
                      have bp := leftSp_bd (nthC (nthR b i).scopes k).spans (m1 - 1 - (nthC (nthR b i).scopes k).name.size - (nthC (nthR b i).scopes k).version.size)
                      have ed := leftC_drop hk (m := m1) (by omega) hA hB
                      refine ⟨⟨k + 1, m2⟩, ⟨hk, by dsimp only; omega, by dsimp only; omega, by dsimp only; rw [g4, ed, hfin2]⟩, ⟨rfl, rfl, rfl, rfl, rfl, rfl, look_int rfl (by rw [wrap64 (by omega) (by omega)]; rfl), trivial⟩, by dsimp only; omega⟩
            · skip
              have hs1 : ¬ m1 ≥ 0 := of_decide_eq_false hb4
              have hfin1 : leftC (nthR b i).scopes (leftAs (nthR b i).attrs (m - 1)) = m1 := by rw [g4]; exact leftC_neg _ (by omega)
              refine aw_exit ?_
              refine exit_thn ?_
              refine exit_thn ?_
              refine exit_blk ?_
              refine normal_blk ?_
              refine normal_thn ?_
              refine aw_region ?_
              refine g_u (s_mv_imm rfl rfl) ?_
              refine g_u (s_add rfl rfl rfl) ?_
              refine g_u (s_as_imm rfl rfl) ?_
              refine g_nil ?_
              refine normal_thn ?_
              have bc := leftC_bd (nthR b i).scopes (leftAs (nthR b i).attrs (m - 1))
              have ed := leftR_drop hi (m := m) (by omega)
              refine ⟨⟨i + 1, m1⟩, ⟨hi, by dsimp only; omega, by dsimp only; omega, by dsimp only; rw [h4, ed, hfin1]⟩, ⟨rfl, rfl, rfl, look_int rfl (by rw [wrap64 (by omega) (by omega)]; rfl), trivial⟩, by dsimp only; omega⟩
          · rw [hb3]
            have hkn : k = (nthR b i).scopes.length := by have := of_decide_eq_false hb3; (try simp only [List.length_map] at this); omega
            have hfin1 : leftC (nthR b i).scopes (leftAs (nthR b i).attrs (m - 1)) = m1 := by rw [g4, hkn, List.drop_length]; rfl
            refine g_skip rfl rfl rfl ?_
            refine g_skip rfl rfl rfl ?_
            refine g_u (s_pick_f rfl rfl rfl) ?_
            refine g_nil ?_
            refine normal_thn ?_
            refine aw_cond_false rfl ?_
            refine aw_exit ?_
            refine exit_thn ?_
            refine exit_thn ?_
            refine exit_blk ?_
            refine normal_blk ?_
            refine normal_thn ?_
            refine aw_region ?_
            refine g_u (s_mv_imm rfl rfl) ?_
            refine g_u (s_add rfl rfl rfl) ?_
            refine g_u (s_as_imm rfl rfl) ?_
            refine g_nil ?_
            refine normal_thn ?_
            have bc := leftC_bd (nthR b i).scopes (leftAs (nthR b i).attrs (m - 1))
            have ed := leftR_drop hi (m := m) (by omega)
            refine ⟨⟨i + 1, m1⟩, ⟨hi, by dsimp only; omega, by dsimp only; omega, by dsimp only; rw [h4, ed, hfin1]⟩, ⟨rfl, rfl, rfl, look_int rfl (by rw [wrap64 (by omega) (by omega)]; rfl), trivial⟩, by dsimp only; omega⟩
      · skip
        have hs : ¬ m ≥ 0 := of_decide_eq_false hb2
        have hfin : leftR (b.drop i) m = m := leftR_neg _ (by omega)
        refine aw_exit ?_
        refine exit_thn ?_
        refine exit_thn ?_
        refine exit_blk ?_
        refine normal_thn ?_
        refine aw_seq ?_
        refine aw_region ?_
        refine g_u (s_mv_imm rfl rfl) ?_
        refine g_u (s_as_imm rfl rfl) ?_
        refine g_nil ?_
        refine normal_thn ?_
        refine aw_ret ?_
        exact ⟨⟨(rfl : toAV (Al.look _ _) = some _).trans (congrArg some (by (exact congrArg iv (by first | (rw [h4, hfin]; done) | (rw [h4, leftR_drop hi (by omega), g4, leftC_out hk (by omega) (.inl hA), leftR_neg _ (by decide)]; done) | (rw [h4, leftR_drop hi (by omega), g4, leftC_out hk (by omega) (.inr hB), leftR_neg _ (by decide)]; done))))), rfl⟩, trivial⟩
    · rw [hb1]
      have hin : i = b.length := by have := of_decide_eq_false hb1; (try simp only [List.length_map] at this); omega
      have hfin : leftR (b.drop i) m = m := by rw [hin, List.drop_length]; rfl
      refine g_skip rfl rfl rfl ?_
      refine g_skip rfl rfl rfl ?_
      refine g_u (s_pick_f rfl rfl rfl) ?_
      refine g_nil ?_
      refine normal_thn ?_
      refine aw_cond_false rfl ?_
      refine aw_exit ?_
      refine exit_thn ?_
      refine exit_thn ?_
      refine exit_blk ?_
      refine normal_thn ?_
      refine aw_seq ?_
      refine aw_region ?_
      refine g_u (s_mv_imm rfl rfl) ?_
      refine g_u (s_as_imm rfl rfl) ?_
      refine g_nil ?_
      refine normal_thn ?_
      refine aw_ret ?_
      exact ⟨⟨(rfl : toAV (Al.look _ _) = some _).trans (congrArg some (by (exact congrArg iv (by first | (rw [h4, hfin]; done) | (rw [h4, leftR_drop hi (by omega), g4, leftC_out hk (by omega) (.inl hA), leftR_neg _ (by decide)]; done) | (rw [h4, leftR_drop hi (by omega), g4, leftC_out hk (by omega) (.inr hB), leftR_neg _ (by decide)]; done))))), rfl⟩, trivial⟩

end Go.Proofs

namespace Go.Proofs
open Go Go.Al
set_option maxRecDepth 10000
attribute [local irreducible] runeM rRuneM

attribute [local irreducible] checkM countM cutM rCheckM rCountM rCutM

attribute [local irreducible] bytesM bytesP

end Go.Proofs

namespace Go.Proofs
open Go Go.Al

/-! ### Whether values may be: the laws that the walks need -/
/-! ### Attributes -/
end Go.Proofs

namespace Go.Al
open Go.RowKit

/-- A box of parts, as one whole. -/
theorem aw_pack {C : Cx} {c : Code} {st : St} {Q : Exit → St → Prop} (g : Nat) {T : TypeId} {X : SV} {y : AV} (hg : look st g = .box T X) (hy : toAV X = some y) (h : AW C c ((g, .box T (.imm y)) :: st) Q) : AW C c st Q := by
  intro a w ⟨G, S⟩
  refine h a w ⟨G, S.os, S.tape, S.output, S.size, S.block, S.sub, S.rel, S.glob, S.new, S.val, S.nts, S.dfs, fun j => ?_, fun j j' b hj h1 h2 => ?_⟩
  · have e := upd_one (look st) g (.box T (.imm y)) j
    rw [upd_look] at e
    rw [show ((g, SV.box T (.imm y)) :: st) = [(g, SV.box T (.imm y))] ++ st from rfl, e]
    split
    · rename_i hjk; subst hjk
      have := S.holds j
      rw [hg] at this
      simp only [Holds, BoxS] at this ⊢
      obtain ⟨h1, ⟨cs, fr, hb, hr, hu⟩, h2⟩ := this
      exact ⟨h1, ⟨cs, fr, hb, by simp only [RepS]; exact toAV_spec X y _ hy hr, hu⟩, h2⟩
    · exact S.holds j
  · have conv : ∀ j b, ownsB G j b (look ((g, SV.box T (.imm y)) :: st) j) → ownsB G j b (look st j) := by
      intro j b hb
      have e := upd_one (look st) g (.box T (.imm y)) j
      rw [upd_look] at e
      rw [show ((g, SV.box T (.imm y)) :: st) = [(g, SV.box T (.imm y))] ++ st from rfl, e] at hb
      split at hb
      · rename_i hjk; subst hjk; rw [hg]; simp only [ownsB] at hb ⊢; exact hb
      · exact hb
    exact S.apart j j' b hj (conv j b h1) (conv j' b h2)
end Go.Al

namespace Go.Proofs
open Go Go.Al
set_option maxRecDepth 10000


end Go.Proofs

namespace Go.Al
open Go.RowKit

/-! ### Rows of one's own: an element put in, a part, a copy into a part -/
section
variable {C : Cx} {A : Nat → SV} {d : Nat} {ty : TypeId} {pos : String} {af : Array Edge} {gd : Option (Nat × Bool)} {x y : Operand} {T T' : TypeId}

end
end Go.Al

namespace Go.Proofs
open Go Go.Al

/-! ### Rows, gone through -/
theorem str_nth {l : List ByteArray} {i : Nat} (h : i < l.length) : (l.map fun x => sv x)[((i : Nat) : Int).toNat]? = some (sv (nth l i ⟨#[]⟩)) := nth_map (d := ⟨#[]⟩) h
/-! ### Held against each other -/
theorem sameV_ne {a b : GV} (h : a ≠ b) : sameV a b = false := by cases hs : sameV a b; rfl; exact absurd ((sameV_iff _ _).1 hs) h
theorem sameAs_ne {a b : List GA} (h : a ≠ b) : sameAs a b = false := by cases hs : sameAs a b; rfl; exact absurd ((sameAs_iff _ _).1 hs) h
theorem ext_nth {α : Type} {l m : List α} (d : α) (hl : l.length = m.length) (h : ∀ i, i < l.length → nth l i d = nth m i d) : l = m := by
  refine List.ext_getElem hl fun i h1 h2 => ?_
  have := h i h1
  unfold nth at this
  rwa [List.getD_eq_getElem?_getD, List.getD_eq_getElem?_getD, List.getElem?_eq_getElem h1, List.getElem?_eq_getElem h2] at this
theorem GA.ext' {a b : GA} (h1 : a.key = b.key) (h2 : a.val = b.val) : a = b := by cases a; cases b; simp only [GA.key_mk, GA.val_mk] at h1 h2; rw [h1, h2]
theorem GV.ext' {a b : GV} (h1 : a.kind = b.kind) (h2 : a.text = b.text) (h3 : a.num = b.num) (h4 : a.bits = b.bits) (h5 : a.list = b.list) (h6 : a.map = b.map) : a = b := by
  cases a; cases b
  simp only [GV.kind_mk, GV.text_mk, GV.num_mk, GV.bits_mk, GV.list_mk, GV.map_mk] at h1 h2 h3 h4 h5 h6
  rw [h1, h2, h3, h4, h5, h6]
/-- All but the entries are the same: then just the entries count. -/
theorem sameV_map {a b : GV} (h1 : a.kind = b.kind) (h2 : a.text = b.text) (h3 : a.num = b.num) (h4 : a.bits = b.bits) (h5 : a.list = b.list) : sameAs a.map b.map = sameV a b := by
  rw [Bool.eq_iff_iff, sameAs_iff, sameV_iff]
  exact ⟨fun h => GV.ext' h1 h2 h3 h4 h5 h, fun h => by rw [h]⟩

/-! ### What goes into a row -/
end Go.Proofs

namespace Go.Al
open Go.RowKit

section
variable {C : Cx} {A : Nat → SV} {d : Nat} {ty : TypeId} {pos : String} {af : Array Edge} {gd : Option (Nat × Bool)} {x y : Operand} {T T' : TypeId}
end
end Go.Al

namespace Go.Proofs
open Go Go.Al
set_option maxRecDepth 10000
end Go.Proofs

namespace Go.Proofs
open Go Go.Al
set_option maxRecDepth 10000
set_option maxHeartbeats 1000000 in
theorem rsameAs_st (a b : List GA) (hl : a.length ≤ 1000000000) (ih : ∀ x ∈ a, ∀ y : GV, PCall Tryd.prog Γ0 59 [x.val.av, y.av] [bv (sameV x.val y)]) : PCall Tryd.prog Γ0 34 [.sl 7 (a.map avA), .sl 7 (b.map avA)] [bv (sameAs a b)] := by
  refine pcall_of Tryd.func34 rfl Tryd.ntmps34 (by kernel_rfl) rfl fun w0 I0 G0 => ?_
  refine aw_seq ?_
  refine aw_region ?_
  refine g_u (s_as_imm rfl rfl) ?_
  refine g_nil ?_
  refine normal_thn ?_
  refine aw_seq ?_
  refine aw_seq ?_
  refine aw_region ?_
  refine g_u (s_mv_imm rfl rfl) ?_
  refine g_u (s_lenL rfl rfl Tryd.underlying30) ?_
  refine g_u (s_mv_imm rfl rfl) ?_
  refine g_u (s_lenL rfl rfl Tryd.underlying30) ?_
  refine g_u (s_neI rfl rfl rfl) ?_
  refine g_nil ?_
  refine normal_thn ?_
  refine aw_cond rfl (fun hb1 => ?_) (fun hb1 => ?_)
  · skip
    have q : ¬ a.length = b.length := by have e := bne_iff_ne.1 hb1; simp only [List.length_map] at e; omega
    refine aw_seq ?_
    refine aw_region ?_
    refine g_u (s_as_imm rfl rfl) ?_
    refine g_nil ?_
    refine normal_thn ?_
    refine aw_ret ?_
    refine ret_thn ?_
    exact ⟨⟨(rfl : toAV (Al.look _ _) = some _).trans (congrArg some (by (exact congrArg bv (by first | exact (sameAs_ne (fun e => q (by rw [e]))).symm | exact ((sameAs_iff _ _).2 (ext_nth a0 el (fun j hj => h2 j (by omega)))).symm)))), rfl⟩, trivial⟩
  · skip
    have el : a.length = b.length := by have e := bne_eq_false_iff_eq.1 hb1; simp only [List.length_map] at e; omega
    refine aw_skip ?_
    refine normal_thn ?_
    refine aw_seq ?_
    refine aw_seq ?_
    refine aw_region ?_
    refine g_u (s_as_imm rfl rfl) ?_
    refine g_nil ?_
    refine normal_thn ?_
    refine aw_block ?_
    refine aw_loop' (fun i : Nat => [(0, .imm (.sl 7 (a.map avA))), (1, .imm (.sl 7 (b.map avA))), (5, .imm (iv (i : Int)))]) (fun i => i ≤ a.length ∧ ∀ j, j < i → nth a j a0 = nth b j a0) (fun i => a.length - i) (0) ?_ ⟨rfl, rfl, rfl, trivial⟩ ?_
    · exact ⟨Nat.zero_le _, fun j h => absurd h (Nat.not_lt_zero _)⟩
    · rintro i ⟨h1, h2⟩; (try dsimp only at h1 h2)
      refine aw_seq ?_
      refine aw_seq ?_
      refine aw_region ?_
      refine g_u (s_mv_imm rfl rfl) ?_
      refine g_u (s_mv_imm rfl rfl) ?_
      refine g_u (s_lenL rfl rfl Tryd.underlying30) ?_
      refine g_u (s_ltI rfl rfl rfl) ?_
      refine g_nil ?_
      refine normal_thn ?_
      refine aw_cond rfl (fun hb2 => ?_) (fun hb2 => ?_)
      · skip
        have hi : i < a.length := by have := of_decide_eq_true hb2; (try simp only [List.length_map] at this); omega
        have hib : i < b.length := by omega
        refine aw_skip ?_
        refine normal_thn ?_
        refine aw_seq ?_
        refine aw_block ?_
        refine aw_seq ?_
        refine aw_draw mixed ?_
        refine g_u (s_mv_imm rfl rfl) ?_
        refine g_u (s_mv_imm rfl rfl) ?_
        refine g_u (s_indexAddr rfl rfl rfl Tryd.underlying30 tS72 (by omega) (ixA hi)) ?_
        refine g_u (s_fieldAddr_cp rfl rfl fa72_0 rfl rfl) ?_
        refine g_u (s_load_cp rfl rfl tA9 tS9 rfl rfl) ?_
        refine g_u (s_mv_imm rfl rfl) ?_
        refine g_u (s_mv_imm rfl rfl) ?_
        refine g_u (s_indexAddr rfl rfl rfl Tryd.underlying30 tS72 (by omega) (ixA hib)) ?_
        refine g_u (s_fieldAddr_cp rfl rfl fa72_0 rfl rfl) ?_
        refine g_u (s_load_cp rfl rfl tA9 tS9 rfl rfl) ?_
        refine g_u (s_neS rfl rfl rfl) ?_
        refine g_u (s_mv_imm rfl rfl) ?_
        refine g_case (t := 28) rfl ?_
        rintro (hb3 | hb3)
        · rw [hb3]
          have q : ¬ (nthA a i).key = (nthA b i).key := by have e := hb3; rw [str_beq] at e; simpa using e
          refine g_skip rfl rfl rfl ?_
          refine g_skip rfl rfl rfl ?_
          refine g_skip rfl rfl rfl ?_
          refine g_skip rfl rfl rfl ?_
          refine g_skip rfl rfl rfl ?_
          refine g_skip rfl rfl rfl ?_
          refine g_skip rfl rfl rfl ?_
          refine g_skip rfl rfl rfl ?_
          refine g_skip rfl rfl rfl ?_
          refine g_skip rfl rfl rfl ?_
          refine g_skip rfl rfl rfl ?_
          refine g_skip rfl rfl rfl ?_
          refine g_u (s_pick_t rfl rfl rfl) ?_
          refine g_nil ⟨by kernel_rfl, ?_⟩
          refine normal_thn ?_
          refine aw_cond_true rfl ?_
          refine aw_seq ?_
          refine aw_region ?_
          refine g_u (s_as_imm rfl rfl) ?_
          refine g_nil ?_
          refine normal_thn ?_
          refine aw_ret ?_
          refine ret_blk ?_
          refine ret_thn ?_
          refine ret_thn ?_
          refine ret_blk ?_
          refine ret_thn ?_
          exact ⟨⟨(rfl : toAV (Al.look _ _) = some _).trans (congrArg some (by (exact congrArg bv (by first | exact (sameAs_ne (fun e => q (by rw [e]))).symm | exact ((sameAs_iff _ _).2 (ext_nth a0 el (fun j hj => h2 j (by omega)))).symm)))), rfl⟩, trivial⟩
        · rw [hb3]
          have ek : (nthA a i).key = (nthA b i).key := by have e := hb3; rw [str_beq] at e; simpa using e
          refine g_run rfl rfl (s_mv_imm rfl rfl) ?_
          refine g_run rfl rfl (s_mv_imm rfl rfl) ?_
          refine g_run rfl rfl (s_indexAddr rfl rfl rfl Tryd.underlying30 tS72 (by omega) (ixA hi)) ?_
          refine g_run rfl rfl (s_fieldAddr_cp rfl rfl fa72_1 rfl rfl) ?_
          refine g_run rfl rfl (s_load_cp rfl rfl tA70 tS70 rfl rfl) ?_
          refine g_run rfl rfl (s_mv_imm rfl rfl) ?_
          refine g_run rfl rfl (s_mv_imm rfl rfl) ?_
          refine g_run rfl rfl (s_indexAddr rfl rfl rfl Tryd.underlying30 tS72 (by omega) (ixA hib)) ?_
          refine g_run rfl rfl (s_fieldAddr_cp rfl rfl fa72_1 rfl rfl) ?_
          refine g_run rfl rfl (s_load_cp rfl rfl tA70 tS70 rfl rfl) ?_
          refine g_run rfl rfl (s_call1 (ih _ (nthA_mem hi) _) rfl rfl) ?_
          refine g_run rfl rfl (s_not rfl rfl) ?_
          refine g_u (s_pick_f rfl rfl rfl) ?_
          refine g_nil ⟨by kernel_rfl, ?_⟩
          refine normal_thn ?_
          refine aw_cond rfl (fun hb4 => ?_) (fun hb4 => ?_)
          · skip
            have q : ¬ (nthA a i).val = (nthA b i).val := fun h => by have e := hb4; rw [h, sameV_refl] at e; cases e
            refine aw_seq ?_
            refine aw_region ?_
            refine g_u (s_as_imm rfl rfl) ?_
            refine g_nil ?_
            refine normal_thn ?_
            refine aw_ret ?_
            refine ret_blk ?_
            refine ret_thn ?_
            refine ret_thn ?_
            refine ret_blk ?_
            refine ret_thn ?_
            exact ⟨⟨(rfl : toAV (Al.look _ _) = some _).trans (congrArg some (by (exact congrArg bv (by first | exact (sameAs_ne (fun e => q (by rw [e]))).symm | exact ((sameAs_iff _ _).2 (ext_nth a0 el (fun j hj => h2 j (by omega)))).symm)))), rfl⟩, trivial⟩
          · skip
            have ev : (nthA a i).val = (nthA b i).val := (sameV_iff _ _).1 (by have e := hb4; simpa using e)
            refine aw_skip ?_
            refine normal_blk ?_
            refine normal_thn ?_
            refine aw_region ?_
            refine g_u (s_mv_imm rfl rfl) ?_
            refine g_u (s_add rfl rfl rfl) ?_
            refine g_u (s_as_imm rfl rfl) ?_
            refine g_nil ?_
            refine normal_thn ?_
            refine ⟨i + 1, ⟨hi, fun j hj => by rcases Nat.lt_or_ge j i with h | h; exact h2 j h; rw [show j = i by omega]; exact GA.ext' ek ev⟩, ⟨rfl, rfl, look_int rfl (by rw [wrap64 (by omega) (by omega)]; rfl), trivial⟩, by (try dsimp only); omega⟩
      · skip
        have hin : i = a.length := by have := of_decide_eq_false hb2; (try simp only [List.length_map] at this); omega
        refine aw_exit ?_
        refine exit_thn ?_
        refine exit_thn ?_
        refine exit_blk ?_
        refine normal_thn ?_
        refine aw_seq ?_
        refine aw_region ?_
        refine g_u (s_as_imm rfl rfl) ?_
        refine g_nil ?_
        refine normal_thn ?_
        refine aw_ret ?_
        exact ⟨⟨(rfl : toAV (Al.look _ _) = some _).trans (congrArg some (by (exact congrArg bv (by first | exact (sameAs_ne (fun e => q (by rw [e]))).symm | exact ((sameAs_iff _ _).2 (ext_nth a0 el (fun j hj => h2 j (by omega)))).symm)))), rfl⟩, trivial⟩

set_option maxHeartbeats 2000000 in
theorem rsameV_st (a b : GV) (hl : a.list.length ≤ 1000000000) (ih : ∀ x ∈ a.list, ∀ y : GV, PCall Tryd.prog Γ0 59 [x.av, y.av] [bv (sameV x y)]) (ihm : PCall Tryd.prog Γ0 34 [.sl 7 (a.map.map avA), .sl 7 (b.map.map avA)] [bv (sameAs a.map b.map)]) : PCall Tryd.prog Γ0 59 [a.av, b.av] [bv (sameV a b)] := by
  refine pcall_of Tryd.func59 rfl Tryd.ntmps59 (by kernel_rfl) rfl fun w0 I0 G0 => ?_
  refine aw_seq ?_
  refine aw_region ?_
  refine g_uG (s_box_imm 1002 rfl rfl rfl rfl) rfl ?_
  refine g_uG (s_box_imm 1003 rfl rfl rfl rfl) rfl ?_
  refine g_u (s_as_imm rfl rfl) ?_
  refine g_nil ?_
  refine normal_thn ?_
  refine aw_seq ?_
  refine aw_seq ?_
  refine aw_region ?_
  refine g_u (s_fieldAddr rfl rfl fa70_0 rfl) ?_
  refine g_u (s_load_imm rfl rfl rfl tA5 tS5 rfl rfl) ?_
  refine g_u (s_fieldAddr rfl rfl fa70_0 rfl) ?_
  refine g_u (s_load_imm rfl rfl rfl tA5 tS5 rfl rfl) ?_
  refine g_u (s_neI rfl rfl rfl) ?_
  refine g_u (s_mv_imm rfl rfl) ?_
  refine g_case (t := 11) rfl ?_
  rintro (hb1 | hb1)
  · rw [hb1]
    have q : ¬ a.kind = b.kind := bne_iff_ne.1 hb1
    refine g_skip rfl rfl rfl ?_
    refine g_skip rfl rfl rfl ?_
    refine g_skip rfl rfl rfl ?_
    refine g_skip rfl rfl rfl ?_
    refine g_skip rfl rfl rfl ?_
    refine g_u (s_pick_t rfl rfl rfl) ?_
    refine g_u (s_mv_imm rfl rfl) ?_
    refine g_skip rfl rfl rfl ?_
    refine g_skip rfl rfl rfl ?_
    refine g_skip rfl rfl rfl ?_
    refine g_skip rfl rfl rfl ?_
    refine g_skip rfl rfl rfl ?_
    refine g_u (s_pick_t rfl rfl rfl) ?_
    refine g_u (s_mv_imm rfl rfl) ?_
    refine g_skip rfl rfl rfl ?_
    refine g_skip rfl rfl rfl ?_
    refine g_skip rfl rfl rfl ?_
    refine g_skip rfl rfl rfl ?_
    refine g_skip rfl rfl rfl ?_
    refine g_u (s_pick_t rfl rfl rfl) ?_
    refine g_u (s_mv_imm rfl rfl) ?_
    refine g_skip rfl rfl rfl ?_
    refine g_skip rfl rfl rfl ?_
    refine g_skip rfl rfl rfl ?_
    refine g_skip rfl rfl rfl ?_
    refine g_skip rfl rfl rfl ?_
    refine g_skip rfl rfl rfl ?_
    refine g_skip rfl rfl rfl ?_
    refine g_u (s_pick_t rfl rfl rfl) ?_
    refine g_nil ?_
    refine normal_thn ?_
    refine aw_cond_true rfl ?_
    refine aw_seq ?_
    refine aw_region ?_
    refine g_u (s_as_imm rfl rfl) ?_
    refine g_nil ?_
    refine normal_thn ?_
    refine aw_ret ?_
    refine ret_thn ?_
    exact ⟨⟨(rfl : toAV (Al.look _ _) = some _).trans (congrArg some (by (exact congrArg bv (by first | exact (sameV_ne (fun e => q (by rw [e]))).symm | exact sameV_map e1 e2 e3 e4 (ext_nth v0 e5 (fun j hj => h2 j (by omega))))))), rfl⟩, trivial⟩
  · rw [hb1]
    have e1 : a.kind = b.kind := bne_eq_false_iff_eq.1 hb1
    refine g_run rfl rfl (s_fieldAddr rfl rfl fa70_1 rfl) ?_
    refine g_run rfl rfl (s_load_imm rfl rfl rfl tA9 tS9 rfl rfl) ?_
    refine g_run rfl rfl (s_fieldAddr rfl rfl fa70_1 rfl) ?_
    refine g_run rfl rfl (s_load_imm rfl rfl rfl tA9 tS9 rfl rfl) ?_
    refine g_run rfl rfl (s_neS rfl rfl rfl) ?_
    refine g_u (s_pick_f rfl rfl rfl) ?_
    refine g_u (s_mv_imm rfl rfl) ?_
    refine g_case (t := 18) rfl ?_
    rintro (hb2 | hb2)
    · rw [hb2]
      have q : ¬ a.text = b.text := by have e := hb2; rw [str_beq] at e; simpa using e
      refine g_skip rfl rfl rfl ?_
      refine g_skip rfl rfl rfl ?_
      refine g_skip rfl rfl rfl ?_
      refine g_skip rfl rfl rfl ?_
      refine g_skip rfl rfl rfl ?_
      refine g_u (s_pick_t rfl rfl rfl) ?_
      refine g_u (s_mv_imm rfl rfl) ?_
      refine g_skip rfl rfl rfl ?_
      refine g_skip rfl rfl rfl ?_
      refine g_skip rfl rfl rfl ?_
      refine g_skip rfl rfl rfl ?_
      refine g_skip rfl rfl rfl ?_
      refine g_u (s_pick_t rfl rfl rfl) ?_
      refine g_u (s_mv_imm rfl rfl) ?_
      refine g_skip rfl rfl rfl ?_
      refine g_skip rfl rfl rfl ?_
      refine g_skip rfl rfl rfl ?_
      refine g_skip rfl rfl rfl ?_
      refine g_skip rfl rfl rfl ?_
      refine g_skip rfl rfl rfl ?_
      refine g_skip rfl rfl rfl ?_
      refine g_u (s_pick_t rfl rfl rfl) ?_
      refine g_nil ?_
      refine normal_thn ?_
      refine aw_cond_true rfl ?_
      refine aw_seq ?_
      refine aw_region ?_
      refine g_u (s_as_imm rfl rfl) ?_
      refine g_nil ?_
      refine normal_thn ?_
      refine aw_ret ?_
      refine ret_thn ?_
      exact ⟨⟨(rfl : toAV (Al.look _ _) = some _).trans (congrArg some (by (exact congrArg bv (by first | exact (sameV_ne (fun e => q (by rw [e]))).symm | exact sameV_map e1 e2 e3 e4 (ext_nth v0 e5 (fun j hj => h2 j (by omega))))))), rfl⟩, trivial⟩
    · rw [hb2]
      have e2 : a.text = b.text := by have e := hb2; rw [str_beq] at e; simpa using e
      refine g_run rfl rfl (s_fieldAddr rfl rfl fa70_2 rfl) ?_
      refine g_run rfl rfl (s_load_imm rfl rfl rfl tA3 tS3 rfl rfl) ?_
      refine g_run rfl rfl (s_fieldAddr rfl rfl fa70_2 rfl) ?_
      refine g_run rfl rfl (s_load_imm rfl rfl rfl tA3 tS3 rfl rfl) ?_
      refine g_run rfl rfl (s_neI rfl rfl rfl) ?_
      refine g_u (s_pick_f rfl rfl rfl) ?_
      refine g_u (s_mv_imm rfl rfl) ?_
      refine g_case (t := 25) rfl ?_
      rintro (hb3 | hb3)
      · rw [hb3]
        have q : ¬ a.num = b.num := bne_iff_ne.1 hb3
        refine g_skip rfl rfl rfl ?_
        refine g_skip rfl rfl rfl ?_
        refine g_skip rfl rfl rfl ?_
        refine g_skip rfl rfl rfl ?_
        refine g_skip rfl rfl rfl ?_
        refine g_u (s_pick_t rfl rfl rfl) ?_
        refine g_u (s_mv_imm rfl rfl) ?_
        refine g_skip rfl rfl rfl ?_
        refine g_skip rfl rfl rfl ?_
        refine g_skip rfl rfl rfl ?_
        refine g_skip rfl rfl rfl ?_
        refine g_skip rfl rfl rfl ?_
        refine g_skip rfl rfl rfl ?_
        refine g_skip rfl rfl rfl ?_
        refine g_u (s_pick_t rfl rfl rfl) ?_
        refine g_nil ?_
        refine normal_thn ?_
        refine aw_cond_true rfl ?_
        refine aw_seq ?_
        refine aw_region ?_
        refine g_u (s_as_imm rfl rfl) ?_
        refine g_nil ?_
        refine normal_thn ?_
        refine aw_ret ?_
        refine ret_thn ?_
        exact ⟨⟨(rfl : toAV (Al.look _ _) = some _).trans (congrArg some (by (exact congrArg bv (by first | exact (sameV_ne (fun e => q (by rw [e]))).symm | exact sameV_map e1 e2 e3 e4 (ext_nth v0 e5 (fun j hj => h2 j (by omega))))))), rfl⟩, trivial⟩
      · rw [hb3]
        have e3 : a.num = b.num := bne_eq_false_iff_eq.1 hb3
        refine g_run rfl rfl (s_fieldAddr rfl rfl fa70_3 rfl) ?_
        refine g_run rfl rfl (s_load_imm rfl rfl rfl tA46 tS46 rfl rfl) ?_
        refine g_run rfl rfl (s_fieldAddr rfl rfl fa70_3 rfl) ?_
        refine g_run rfl rfl (s_load_imm rfl rfl rfl tA46 tS46 rfl rfl) ?_
        refine g_run rfl rfl (s_neI rfl rfl rfl) ?_
        refine g_u (s_pick_f rfl rfl rfl) ?_
        refine g_u (s_mv_imm rfl rfl) ?_
        refine g_case (t := 32) rfl ?_
        rintro (hb4 | hb4)
        · rw [hb4]
          have q : ¬ a.bits = b.bits := bne_iff_ne.1 hb4
          refine g_skip rfl rfl rfl ?_
          refine g_skip rfl rfl rfl ?_
          refine g_skip rfl rfl rfl ?_
          refine g_skip rfl rfl rfl ?_
          refine g_skip rfl rfl rfl ?_
          refine g_skip rfl rfl rfl ?_
          refine g_skip rfl rfl rfl ?_
          refine g_u (s_pick_t rfl rfl rfl) ?_
          refine g_nil ?_
          refine normal_thn ?_
          refine aw_cond_true rfl ?_
          refine aw_seq ?_
          refine aw_region ?_
          refine g_u (s_as_imm rfl rfl) ?_
          refine g_nil ?_
          refine normal_thn ?_
          refine aw_ret ?_
          refine ret_thn ?_
          exact ⟨⟨(rfl : toAV (Al.look _ _) = some _).trans (congrArg some (by (exact congrArg bv (by first | exact (sameV_ne (fun e => q (by rw [e]))).symm | exact sameV_map e1 e2 e3 e4 (ext_nth v0 e5 (fun j hj => h2 j (by omega))))))), rfl⟩, trivial⟩
        · rw [hb4]
          have e4 : a.bits = b.bits := bne_eq_false_iff_eq.1 hb4
          refine g_run rfl rfl (s_fieldAddr rfl rfl fa70_4 rfl) ?_
          refine g_run rfl rfl (s_load_imm rfl rfl rfl tA68 tS68 rfl rfl) ?_
          refine g_run rfl rfl (s_lenL rfl rfl Tryd.underlying68) ?_
          refine g_run rfl rfl (s_fieldAddr rfl rfl fa70_4 rfl) ?_
          refine g_run rfl rfl (s_load_imm rfl rfl rfl tA68 tS68 rfl rfl) ?_
          refine g_run rfl rfl (s_lenL rfl rfl Tryd.underlying68) ?_
          refine g_run rfl rfl (s_neI rfl rfl rfl) ?_
          refine g_u (s_pick_f rfl rfl rfl) ?_
          refine g_nil ?_
          refine normal_thn ?_
          refine aw_cond rfl (fun hb5 => ?_) (fun hb5 => ?_)
          · skip
            have q : ¬ a.list.length = b.list.length := by have e := bne_iff_ne.1 hb5; simp only [List.length_map] at e; omega
            refine aw_seq ?_
            refine aw_region ?_
            refine g_u (s_as_imm rfl rfl) ?_
            refine g_nil ?_
            refine normal_thn ?_
            refine aw_ret ?_
            refine ret_thn ?_
            exact ⟨⟨(rfl : toAV (Al.look _ _) = some _).trans (congrArg some (by (exact congrArg bv (by first | exact (sameV_ne (fun e => q (by rw [e]))).symm | exact sameV_map e1 e2 e3 e4 (ext_nth v0 e5 (fun j hj => h2 j (by omega))))))), rfl⟩, trivial⟩
          · skip
            have e5 : a.list.length = b.list.length := by have e := bne_eq_false_iff_eq.1 hb5; simp only [List.length_map] at e; omega
            refine aw_skip ?_
            refine normal_thn ?_
            refine aw_seq ?_
            refine aw_seq ?_
            refine aw_region ?_
            refine g_u (s_as_imm rfl rfl) ?_
            refine g_nil ?_
            refine normal_thn ?_
            refine aw_block ?_
            refine aw_loop' (fun i : Nat => [(2, .ptr 1002 0), (1002, .box 70 (.imm a.av)), (3, .ptr 1003 0), (1003, .box 70 (.imm b.av)), (5, .imm (iv (i : Int)))]) (fun i => i ≤ a.list.length ∧ ∀ j, j < i → nth a.list j v0 = nth b.list j v0) (fun i => a.list.length - i) (0) ?_ ⟨rfl, rfl, rfl, rfl, rfl, trivial⟩ ?_
            · exact ⟨Nat.zero_le _, fun j h => absurd h (Nat.not_lt_zero _)⟩
            · rintro i ⟨h1, h2⟩; (try dsimp only at h1 h2)
              refine aw_seq ?_
              refine aw_seq ?_
              refine aw_region ?_
              refine g_u (s_mv_imm rfl rfl) ?_
              refine g_u (s_fieldAddr rfl rfl fa70_4 rfl) ?_
              refine g_u (s_load_imm rfl rfl rfl tA68 tS68 rfl rfl) ?_
              refine g_u (s_lenL rfl rfl Tryd.underlying68) ?_
              refine g_u (s_ltI rfl rfl rfl) ?_
              refine g_nil ?_
              refine normal_thn ?_
              refine aw_cond rfl (fun hb6 => ?_) (fun hb6 => ?_)
              · skip
                have hi : i < a.list.length := by have := of_decide_eq_true hb6; (try simp only [List.length_map] at this); omega
                have hib : i < b.list.length := by omega
                refine aw_skip ?_
                refine normal_thn ?_
                refine aw_seq ?_
                refine aw_block ?_
                refine aw_seq ?_
                refine aw_draw mixed ?_
                refine g_u (s_fieldAddr rfl rfl fa70_4 rfl) ?_
                refine g_u (s_load_imm rfl rfl rfl tA68 tS68 rfl rfl) ?_
                refine g_u (s_mv_imm rfl rfl) ?_
                refine g_u (s_indexAddr rfl rfl rfl Tryd.underlying68 tS70 (by omega) (ixV hi)) ?_
                refine g_u (s_load_cp rfl rfl tA70 tS70 rfl rfl) ?_
                refine g_u (s_fieldAddr rfl rfl fa70_4 rfl) ?_
                refine g_u (s_load_imm rfl rfl rfl tA68 tS68 rfl rfl) ?_
                refine g_u (s_mv_imm rfl rfl) ?_
                refine g_u (s_indexAddr rfl rfl rfl Tryd.underlying68 tS70 (by omega) (ixV hib)) ?_
                refine g_u (s_load_cp rfl rfl tA70 tS70 rfl rfl) ?_
                refine g_u (s_call1 (ih _ (nthV_mem hi) _) rfl rfl) ?_
                refine g_u (s_not rfl rfl) ?_
                refine g_nil ⟨by kernel_rfl, ?_⟩
                refine normal_thn ?_
                refine aw_cond rfl (fun hb7 => ?_) (fun hb7 => ?_)
                · skip
                  have q : ¬ nthV a.list i = nthV b.list i := fun h => by have e := hb7; rw [h, sameV_refl] at e; cases e
                  refine aw_seq ?_
                  refine aw_region ?_
                  refine g_u (s_as_imm rfl rfl) ?_
                  refine g_nil ?_
                  refine normal_thn ?_
                  refine aw_ret ?_
                  refine ret_blk ?_
                  refine ret_thn ?_
                  refine ret_thn ?_
                  refine ret_blk ?_
                  refine ret_thn ?_
                  exact ⟨⟨(rfl : toAV (Al.look _ _) = some _).trans (congrArg some (by (exact congrArg bv (by first | exact (sameV_ne (fun e => q (by rw [e]))).symm | exact sameV_map e1 e2 e3 e4 (ext_nth v0 e5 (fun j hj => h2 j (by omega))))))), rfl⟩, trivial⟩
                · skip
                  have ev : nthV a.list i = nthV b.list i := (sameV_iff _ _).1 (by have e := hb7; simpa using e)
                  refine aw_skip ?_
                  refine normal_blk ?_
                  refine normal_thn ?_
                  refine aw_region ?_
                  refine g_u (s_mv_imm rfl rfl) ?_
                  refine g_u (s_add rfl rfl rfl) ?_
                  refine g_u (s_as_imm rfl rfl) ?_
                  refine g_nil ?_
                  refine normal_thn ?_
                  refine ⟨i + 1, ⟨hi, fun j hj => by rcases Nat.lt_or_ge j i with h | h; exact h2 j h; rw [show j = i by omega]; exact ev⟩, ⟨rfl, rfl, rfl, rfl, look_int rfl (by rw [wrap64 (by omega) (by omega)]; rfl), trivial⟩, by (try dsimp only); omega⟩
              · skip
                have hin : i = a.list.length := by have := of_decide_eq_false hb6; (try simp only [List.length_map] at this); omega
                refine aw_exit ?_
                refine exit_thn ?_
                refine exit_thn ?_
                refine exit_blk ?_
                refine normal_thn ?_
                refine aw_seq ?_
                refine aw_region ?_
                refine g_u (s_fieldAddr rfl rfl fa70_5 rfl) ?_
                refine g_u (s_load_imm rfl rfl rfl tA30 tS30 rfl rfl) ?_
                refine g_u (s_fieldAddr rfl rfl fa70_5 rfl) ?_
                refine g_u (s_load_imm rfl rfl rfl tA30 tS30 rfl rfl) ?_
                refine g_u (s_call1 (ihm) rfl rfl) ?_
                refine g_u (s_as_imm rfl rfl) ?_
                refine g_nil ?_
                refine normal_thn ?_
                refine aw_ret ?_
                exact ⟨⟨(rfl : toAV (Al.look _ _) = some _).trans (congrArg some (by (exact congrArg bv (by first | exact (sameV_ne (fun e => q (by rw [e]))).symm | exact sameV_map e1 e2 e3 e4 (ext_nth v0 e5 (fun j hj => h2 j (by omega))))))), rfl⟩, trivial⟩

theorem rsameV_c (a : GV) : a.wt ≤ 1000000000 → ∀ b : GV, PCall Tryd.prog Γ0 59 [a.av, b.av] [bv (sameV a b)] := by
  refine GV.ind (P := fun a => a.wt ≤ 1000000000 → ∀ b : GV, PCall Tryd.prog Γ0 59 [a.av, b.av] [bv (sameV a b)]) ?_ a
  intro a h1 h2 hw b
  have ek := a.wt_eq
  have la := len_wtAs a.map
  have lv := len_wtVs a.list
  exact rsameV_st a b (by omega) (fun x hx => h1 x hx (by have := wtVs_mem hx; omega)) (rsameAs_st a.map b.map (by omega) fun x hx => h2 x hx (by have := wtAs_mem hx; have := x.wt_eq; omega))
theorem rsameAs_c (a b : List GA) (hw : wtAs a ≤ 1000000000) : PCall Tryd.prog Γ0 34 [.sl 7 (a.map avA), .sl 7 (b.map avA)] [bv (sameAs a b)] := by
  have la := len_wtAs a
  exact rsameAs_st a b (by omega) fun x hx => rsameV_c x.val (by have := wtAs_mem hx; have := x.wt_eq; omega)

end Go.Proofs

namespace Go.Proofs
open Go Go.Al
set_option maxRecDepth 10000
end Go.Proofs

namespace Go.Proofs
open Go Go.Al

structure Rg where
  lo : Int
  hi : Int
def Rg.av (r : Rg) : AV := .agg [.v (.int .u64 r.lo), .v (.int .u64 r.hi)]

def rgCheckM (r : Rg) : Int := if r.hi > 9223372036854775807 ∨ r.lo > r.hi then 11 else 0
def begunM (r : Rg) : Int := IntKind.u64.wrap (r.lo.tdiv 1000)
def lastsM (r : Rg) : Int := IntKind.u64.wrap ((IntKind.u64.wrap (r.hi - r.lo)).tdiv 1000)
def microsM (m : Int) (r : Rg) : Int := if rgCheckM r = 0 then IntKind.i64.wrap m else 0
def nanoV (us : Int) : Int := if us < 0 ∨ us > 9223372036854775 then 0 else IntKind.u64.wrap (IntKind.u64.wrap us * 1000)
def nanoC (us : Int) : Int := if us < 0 ∨ us > 9223372036854775 then 11 else 0
def ofBad (b l : Int) : Prop := nanoC b ≠ 0 ∨ nanoC l ≠ 0 ∨ nanoV l > IntKind.u64.wrap (9223372036854775807 - nanoV b)
instance (b l : Int) : Decidable (ofBad b l) := by unfold ofBad; infer_instance
def ofR (b l : Int) : Rg := if ofBad b l then ⟨0, 0⟩ else ⟨nanoV b, IntKind.u64.wrap (nanoV b + nanoV l)⟩
def BegunM (r : Rg) : Int := microsM (begunM r) r
def LastsM (r : Rg) : Int := microsM (lastsM r) r
def wholeM (r : Rg) : Rg := ofR (BegunM r) (LastsM r)

-- the reference
def rNanoV (us : Int) : Int := if us < 0 ∨ us > 9223372036854775 then 0 else IntKind.u64.wrap (1000 * IntKind.u64.wrap us)
def rBad (b l : Int) : Prop := nanoC b ≠ 0 ∨ nanoC l ≠ 0 ∨ rNanoV b > IntKind.u64.wrap (9223372036854775807 - rNanoV l)
instance (b l : Int) : Decidable (rBad b l) := by unfold rBad; infer_instance
end Go.Proofs

namespace Go.Proofs
open Go Go.Al

end Go.Proofs

namespace Go.Proofs
open Go Go.Al

/-! ### Whether two things are one -/
instance : DecidableEq GV := fun a b => decidable_of_iff (sameV a b = true) (sameV_iff a b)
instance : DecidableEq GA := fun a b => decidable_of_iff (sameA a b = true) (sameA_iff a b)
theorem GE.ext' {a b : GE} (h1 : a.time = b.time) (h2 : a.name = b.name) (h3 : a.attrs = b.attrs) : a = b := by cases a; cases b; simp_all
theorem GL.ext' {a b : GL} (h1 : a.trace = b.trace) (h2 : a.span = b.span) (h3 : a.state = b.state) (h4 : a.attrs = b.attrs) : a = b := by cases a; cases b; simp_all
theorem GSpan.ext' {a b : GSpan} (h1 : a.trace = b.trace) (h2 : a.id = b.id) (h3 : a.parent = b.parent) (h4 : a.state = b.state) (h5 : a.name = b.name) (h6 : a.kind = b.kind) (h7 : a.start = b.start) (h8 : a.fin = b.fin) (h9 : a.attrs = b.attrs) (h10 : a.events = b.events) (h11 : a.links = b.links) (h12 : a.code = b.code) (h13 : a.note = b.note) : a = b := by
  cases a; cases b; simp_all
theorem GScope.ext' {a b : GScope} (h1 : a.name = b.name) (h2 : a.version = b.version) (h3 : a.spans = b.spans) : a = b := by cases a; cases b; simp_all
theorem GRes.ext' {a b : GRes} (h1 : a.attrs = b.attrs) (h2 : a.scopes = b.scopes) : a = b := by cases a; cases b; simp_all
instance : DecidableEq GE := fun a b => decidable_of_iff (a.time = b.time ∧ a.name = b.name ∧ a.attrs = b.attrs) ⟨fun h => GE.ext' h.1 h.2.1 h.2.2, fun h => by rw [h]; exact ⟨rfl, rfl, rfl⟩⟩
instance : DecidableEq GL := fun a b => decidable_of_iff (a.trace = b.trace ∧ a.span = b.span ∧ a.state = b.state ∧ a.attrs = b.attrs) ⟨fun h => GL.ext' h.1 h.2.1 h.2.2.1 h.2.2.2, fun h => by rw [h]; exact ⟨rfl, rfl, rfl, rfl⟩⟩
instance : DecidableEq GSpan := fun a b => decidable_of_iff ((a.trace = b.trace ∧ a.id = b.id ∧ a.parent = b.parent ∧ a.state = b.state) ∧ (a.name = b.name ∧ a.kind = b.kind ∧ a.start = b.start ∧ a.fin = b.fin) ∧ (a.attrs = b.attrs ∧ a.events = b.events ∧ a.links = b.links) ∧ a.code = b.code ∧ a.note = b.note)
  ⟨fun h => GSpan.ext' h.1.1 h.1.2.1 h.1.2.2.1 h.1.2.2.2 h.2.1.1 h.2.1.2.1 h.2.1.2.2.1 h.2.1.2.2.2 h.2.2.1.1 h.2.2.1.2.1 h.2.2.1.2.2 h.2.2.2.1 h.2.2.2.2, fun h => by rw [h]; exact ⟨⟨rfl, rfl, rfl, rfl⟩, ⟨rfl, rfl, rfl, rfl⟩, ⟨rfl, rfl, rfl⟩, rfl, rfl⟩⟩
instance : DecidableEq GScope := fun a b => decidable_of_iff (a.name = b.name ∧ a.version = b.version ∧ a.spans = b.spans) ⟨fun h => GScope.ext' h.1 h.2.1 h.2.2, fun h => by rw [h]; exact ⟨rfl, rfl, rfl⟩⟩
instance : DecidableEq GRes := fun a b => decidable_of_iff (a.attrs = b.attrs ∧ a.scopes = b.scopes) ⟨fun h => GRes.ext' h.1 h.2, fun h => by rw [h]; exact ⟨rfl, rfl⟩⟩

/-! ### What Jaeger's format keeps -/
def k_kind : ByteArray := ⟨#[115, 112, 97, 110, 46, 107, 105, 110, 100]⟩
def k_error : ByteArray := ⟨#[101, 114, 114, 111, 114]⟩
def k_code : ByteArray := ⟨#[111, 116, 101, 108, 46, 115, 116, 97, 116, 117, 115, 95, 99, 111, 100, 101]⟩
def k_note : ByteArray := ⟨#[111, 116, 101, 108, 46, 115, 116, 97, 116, 117, 115, 95, 100, 101, 115, 99, 114, 105, 112, 116, 105, 111, 110]⟩
def k4 : List ByteArray := [k_kind, k_error, k_code, k_note]
def tv (t : ByteArray) : GV := .mk 1 t 0 0 [] []
def spansOf : List GScope → List GSpan
  | [] => []
  | c :: cs => c.spans ++ spansOf cs
theorem spansOf_len : ∀ l : List GScope, (spansOf l).length ≤ sumBy GScope.wt l
  | [] => Nat.zero_le _
  | c :: l => by
    rw [spansOf, List.length_append, sumBy]
    have h1 := spansOf_len l
    have h2 := sumBy_len GSpan.wt (fun e => by unfold GSpan.wt; omega) c.spans
    have h3 : c.wt = 1 + c.name.size + c.version.size + sumBy GSpan.wt c.spans := rfl
    omega

/-! ### Sizes -/
/-! ### Places -/
def plC (i : Nat) : Nat → List GScope → List (Nat × Nat × Nat)
  | _, [] => []
  | k, c :: cs => ((List.range c.spans.length).map fun m => (i, k, m)) ++ plC i (k + 1) cs
def plR : Nat → List GRes → List (Nat × Nat × Nat)
  | _, [] => []
  | i, r :: rs => plC i 0 r.scopes ++ plR (i + 1) rs
def plav (p : Nat × Nat × Nat) : AV := .agg [iv (p.1 : Int), iv (p.2.1 : Int), iv (p.2.2 : Int)]
theorem plC_snoc (i : Nat) (c : GScope) : ∀ (k : Nat) (l : List GScope), plC i k (l ++ [c]) = plC i k l ++ (List.range c.spans.length).map fun m => (i, k + l.length, m)
  | k, [] => by simp [plC]
  | k, x :: l => by
    simp only [List.cons_append, plC, plC_snoc i c (k + 1) l, List.append_assoc, List.length_cons]
    rw [show k + 1 + l.length = k + (l.length + 1) by omega]
theorem plR_snoc (r : GRes) : ∀ (i : Nat) (l : List GRes), plR i (l ++ [r]) = plR i l ++ plC (i + l.length) 0 r.scopes
  | i, [] => by simp [plR]
  | i, x :: l => by
    simp only [List.cons_append, plR, plR_snoc r (i + 1) l, List.append_assoc, List.length_cons]
    rw [show i + 1 + l.length = i + (l.length + 1) by omega]
theorem plC_take {i : Nat} {l : List GScope} {k : Nat} (h : k < l.length) : plC i 0 (l.take (k + 1)) = plC i 0 (l.take k) ++ (List.range (nthC l k).spans.length).map fun m => (i, k, m) := by
  rw [take_snoc (nth_get (d := gc0) h), plC_snoc, List.length_take, Nat.min_eq_left (by omega), Nat.zero_add]; rfl
theorem plR_take {l : List GRes} {i : Nat} (h : i < l.length) : plR 0 (l.take (i + 1)) = plR 0 (l.take i) ++ plC i 0 (nthR l i).scopes := by
  rw [take_snoc (nth_get (d := gr0) h), plR_snoc, List.length_take, Nat.min_eq_left (by omega), Nat.zero_add]; rfl
theorem range_snoc (f : Nat → Nat × Nat × Nat) (m : Nat) : (List.range (m + 1)).map f = (List.range m).map f ++ [f m] := by rw [List.range_succ, List.map_append]; rfl
theorem plC_len (i : Nat) : ∀ (k : Nat) (l : List GScope), (plC i k l).length = (spansOf l).length
  | _, [] => rfl
  | k, c :: l => by rw [plC, spansOf, List.length_append, List.length_append, plC_len i (k + 1) l]; simp
theorem plC_mem {i : Nat} : ∀ {l m : List GScope} {p : Nat × Nat × Nat}, p ∈ plC i m.length l → p.2.1 < (m ++ l).length ∧ p.2.2 < (nthC (m ++ l) p.2.1).spans.length
  | c :: l, m, p, h => by
    rw [plC] at h
    rcases List.mem_append.1 h with h | h
    · obtain ⟨j, hj, rfl⟩ := List.mem_map.1 h
      have : nthC (m ++ c :: l) m.length = c := by simp [nthC, nth]
      exact ⟨by simp, by show j < (nthC (m ++ c :: l) m.length).spans.length; rw [this]; exact List.mem_range.1 hj⟩
    · have := plC_mem (l := l) (m := m ++ [c]) (p := p) (by simpa using h)
      simpa using this
end Go.Proofs

namespace Go.Proofs
open Go Go.Al
set_option maxRecDepth 10000
attribute [local irreducible] wholeM ofR

end Go.Proofs

namespace Go.Proofs
open Go Go.Al
set_option maxRecDepth 10000
end Go.Proofs

namespace Go.Proofs
open Go Go.Al

/-! ### What Jaeger's format keeps: sizes, ranges, and that it stays -/
theorem tv_ok {t : ByteArray} (ht : t.size ≤ maxLen) : (tv t).ok := by
  rw [GV.ok_iff]
  exact ⟨by show (0 : Int) ≤ 1 ∧ (1 : Int) < 256; decide, ht, by show (-9223372036854775808 : Int) ≤ 0 ∧ (0 : Int) < 9223372036854775808; decide, by show (0 : Int) ≤ 0 ∧ (0 : Int) < 18446744073709551616; decide, (fun x h => by cases h), (fun x h => by cases h)⟩
end Go.Proofs

namespace Go.Proofs
open Go Go.Al
set_option maxRecDepth 10000
theorem plR_len : ∀ (i : Nat) (l : List GRes), (plR i l).length ≤ sumBy GRes.wt l
  | _, [] => Nat.le_refl _
  | i, r :: l => by
    rw [plR, List.length_append, plC_len, sumBy]
    have h1 := plR_len (i + 1) l
    have h2 := spansOf_len r.scopes
    have h3 : r.wt = 1 + wtAs r.attrs + sumBy GScope.wt r.scopes := rfl
    omega
def p00 : Nat × Nat × Nat := (0, 0, 0)
def nthP (l : List (Nat × Nat × Nat)) (i : Nat) : Nat × Nat × Nat := nth l i p00
theorem ixP {l : List (Nat × Nat × Nat)} {i : Nat} (h : i < l.length) : (l.map plav)[((i : Nat) : Int).toNat]? = some (plav (nthP l i)) := nth_map (d := p00) h
set_option maxHeartbeats 2000000 in
theorem places_c (b : List GRes) (hw : wtB b ≤ 9000000) : PCall Tryd.prog Γ0 16 [batchAv b] [.sl 3 ((plR 0 b).map plav)] := by
  have ql := sumBy_len GRes.wt (fun e => by unfold GRes.wt; omega) b
  have qw : wtB b = sumBy GRes.wt b := rfl
  refine pcall_of Tryd.func16 rfl Tryd.ntmps16 (by kernel_rfl) rfl fun w0 I0 G0 => ?_
  refine aw_seq ?_
  refine aw_region ?_
  refine g_uG (s_box_imm 1001 rfl rfl rfl rfl) rfl ?_
  refine g_u (s_as_imm rfl rfl) ?_
  refine g_nil ?_
  refine normal_thn ?_
  refine aw_seq ?_
  refine aw_region ?_
  refine g_u (s_as_imm rfl rfl) ?_
  refine g_nil ?_
  refine normal_thn ?_
  refine aw_seq ?_
  refine aw_seq ?_
  refine aw_newtok 3003 3 3 rfl rfl rfl rfl ?_
  refine aw_region ?_
  refine g_u (s_as_imm rfl rfl) ?_
  refine g_nil ?_
  refine normal_thn ?_
  refine aw_block ?_
  refine aw_loop' (fun i : Nat => [(1, .ptr 1001 0), (1001, .box 24 (.imm (batchAv b))), (3, .slg 3003 3 (((plR 0 (b.take i))).map plav)), (3003, .tok 3 (((plR 0 (b.take i))).map plav)), (4, .imm (iv (i : Int)))]) (fun i => i ≤ b.length) (fun i => b.length - i) (0) ?_ ⟨rfl, rfl, rfl, rfl, rfl, trivial⟩ ?_
  · exact Nat.zero_le _
  · rintro i h1; have h1 : i ≤ b.length := h1
    refine aw_seq ?_
    refine aw_seq ?_
    refine aw_region ?_
    refine g_u (s_mv_imm rfl rfl) ?_
    refine g_u (s_fieldAddr rfl rfl fa24_0 rfl) ?_
    refine g_u (s_load_imm rfl rfl rfl tA22 tS22 rfl rfl) ?_
    refine g_u (s_lenL rfl rfl Tryd.underlying22) ?_
    refine g_u (s_ltI rfl rfl rfl) ?_
    refine g_nil ?_
    refine normal_thn ?_
    refine aw_cond rfl (fun hb1 => ?_) (fun hb1 => ?_)
    · skip
      have hi : i < b.length := by have := of_decide_eq_true hb1; (try simp only [List.length_map] at this); omega
      have hrx := sumBy_mem GRes.wt (nthR_mem hi)
      have hrq : (nthR b i).wt = 1 + wtAs (nthR b i).attrs + sumBy GScope.wt (nthR b i).scopes := rfl
      have hcl := sumBy_len GScope.wt (fun e => by unfold GScope.wt; omega) (nthR b i).scopes
      have hl1 : (plR 0 (b.take i)).length ≤ 9000000 := by have h1 := plR_len 0 (b.take i); have h2 := sumBy_take GRes.wt b i; omega
      refine aw_skip ?_
      refine normal_thn ?_
      refine aw_seq ?_
      refine aw_block ?_
      refine aw_seq ?_
      refine aw_region ?_
      refine g_u (s_as_imm rfl rfl) ?_
      refine g_nil ?_
      refine normal_thn ?_
      refine aw_block ?_
      refine aw_loop' (fun k : Nat => [(1, .ptr 1001 0), (1001, .box 24 (.imm (batchAv b))), (3, .slg 3003 3 (((plR 0 (b.take i)) ++ (plC i 0 ((nthR b i).scopes.take k))).map plav)), (3003, .tok 3 (((plR 0 (b.take i)) ++ (plC i 0 ((nthR b i).scopes.take k))).map plav)), (4, .imm (iv (i : Int))), (5, .imm (iv (k : Int)))]) (fun k => k ≤ (nthR b i).scopes.length) (fun k => (nthR b i).scopes.length - k) (0) ?_ ⟨rfl, rfl, look_slg rfl (by simp [plC]), look_tok rfl (by simp [plC]), rfl, rfl, trivial⟩ ?_
      · exact Nat.zero_le _
      · rintro k g1; have g1 : k ≤ (nthR b i).scopes.length := g1
        refine aw_seq ?_
        refine aw_seq ?_
        refine aw_region ?_
        refine g_u (s_mv_imm rfl rfl) ?_
        refine g_u (s_fieldAddr rfl rfl fa24_0 rfl) ?_
        refine g_u (s_load_imm rfl rfl rfl tA22 tS22 rfl rfl) ?_
        refine g_u (s_mv_imm rfl rfl) ?_
        refine g_u (s_indexAddr rfl rfl rfl Tryd.underlying22 tS33 (by omega) (ixR hi)) ?_
        refine g_u (s_fieldAddr_cp rfl rfl fa33_1 rfl rfl) ?_
        refine g_u (s_load_cp rfl rfl tA31 tS31 rfl rfl) ?_
        refine g_u (s_lenL rfl rfl Tryd.underlying31) ?_
        refine g_u (s_ltI rfl rfl rfl) ?_
        refine g_nil ?_
        refine normal_thn ?_
        refine aw_cond rfl (fun hb2 => ?_) (fun hb2 => ?_)
        · skip
          have hk : k < (nthR b i).scopes.length := by have := of_decide_eq_true hb2; (try simp only [List.length_map] at this); omega
          have hcx := sumBy_mem GScope.wt (nthC_mem hk)
          have hcq : (nthC (nthR b i).scopes k).wt = 1 + (nthC (nthR b i).scopes k).name.size + (nthC (nthR b i).scopes k).version.size + sumBy GSpan.wt (nthC (nthR b i).scopes k).spans := rfl
          have hsl := sumBy_len GSpan.wt (fun e => by unfold GSpan.wt; omega) (nthC (nthR b i).scopes k).spans
          have hl2 : (plC i 0 ((nthR b i).scopes.take k)).length ≤ 9000000 := by have h1 := plC_len i 0 ((nthR b i).scopes.take k); have h2 := spansOf_len ((nthR b i).scopes.take k); have h3 := sumBy_take GScope.wt (nthR b i).scopes k; omega
          refine aw_skip ?_
          refine normal_thn ?_
          refine aw_seq ?_
          refine aw_block ?_
          refine aw_seq ?_
          refine aw_region ?_
          refine g_u (s_as_imm rfl rfl) ?_
          refine g_nil ?_
          refine normal_thn ?_
          refine aw_block ?_
          refine aw_loop' (fun m : Nat => [(1, .ptr 1001 0), (1001, .box 24 (.imm (batchAv b))), (3, .slg 3003 3 (((plR 0 (b.take i)) ++ (plC i 0 ((nthR b i).scopes.take k)) ++ ((List.range m).map fun m => (i, k, m))).map plav)), (3003, .tok 3 (((plR 0 (b.take i)) ++ (plC i 0 ((nthR b i).scopes.take k)) ++ ((List.range m).map fun m => (i, k, m))).map plav)), (4, .imm (iv (i : Int))), (5, .imm (iv (k : Int))), (6, .imm (iv (m : Int)))]) (fun m => m ≤ (nthC (nthR b i).scopes k).spans.length) (fun m => (nthC (nthR b i).scopes k).spans.length - m) (0) ?_ ⟨rfl, rfl, look_slg rfl (by simp), look_tok rfl (by simp), rfl, rfl, rfl, trivial⟩ ?_
          · exact Nat.zero_le _
          · rintro m f1; have f1 : m ≤ (nthC (nthR b i).scopes k).spans.length := f1
            refine aw_seq ?_
            refine aw_seq ?_
            refine aw_region ?_
            refine g_u (s_mv_imm rfl rfl) ?_
            refine g_u (s_fieldAddr rfl rfl fa24_0 rfl) ?_
            refine g_u (s_load_imm rfl rfl rfl tA22 tS22 rfl rfl) ?_
            refine g_u (s_mv_imm rfl rfl) ?_
            refine g_u (s_indexAddr rfl rfl rfl Tryd.underlying22 tS33 (by omega) (ixR hi)) ?_
            refine g_u (s_fieldAddr_cp rfl rfl fa33_1 rfl rfl) ?_
            refine g_u (s_load_cp rfl rfl tA31 tS31 rfl rfl) ?_
            refine g_u (s_mv_imm rfl rfl) ?_
            refine g_u (s_indexAddr rfl rfl rfl Tryd.underlying31 tS67 (by omega) (ixC hk)) ?_
            refine g_u (s_fieldAddr_cp rfl rfl fa67_2 rfl rfl) ?_
            refine g_u (s_load_cp rfl rfl tA61 tS61 rfl rfl) ?_
            refine g_u (s_lenL rfl rfl Tryd.underlying61) ?_
            refine g_u (s_ltI rfl rfl rfl) ?_
            refine g_nil ?_
            refine normal_thn ?_
            refine aw_cond rfl (fun hb3 => ?_) (fun hb3 => ?_)
            · skip
              have hm : m < (nthC (nthR b i).scopes k).spans.length := by have := of_decide_eq_true hb3; (try simp only [List.length_map] at this); omega
              refine aw_skip ?_
              refine normal_thn ?_
              refine aw_seq ?_
              refine aw_block ?_
              refine aw_region ?_
              refine g_u (s_mv_slg rfl rfl) ?_
              refine g_u (s_mv_imm rfl rfl) ?_
              refine g_u (s_mv_imm rfl rfl) ?_
              refine g_u (s_mv_imm rfl rfl) ?_
              refine g_u (s_build rfl tU36 us36 pl36 rfl rfl rfl rfl) ?_
              refine g_u (s_buildSlice (X0 := z36) rfl Tryd.underlying37 tS36 tZ36 rfl rfl rfl rfl rfl rfl rfl rfl) ?_
              refine g_u (s_append rfl rfl rfl rfl rfl Tryd.underlying37 Tryd.underlying37 tS36 zv36 rfl (by decide) by36 (by (try dsimp only); simp only [List.length_append, List.length_cons, List.length_nil, List.length_map, List.length_range]; omega) (by (try dsimp only); simp only [List.length_append, List.length_cons, List.length_nil, List.length_map, List.length_range]; omega)) ?_
              refine g_u (s_as_slg rfl rfl) ?_
              refine g_nil ?_
              refine normal_blk ?_
              refine normal_thn ?_
              refine aw_region ?_
              refine g_u (s_mv_imm rfl rfl) ?_
              refine g_u (s_add rfl rfl rfl) ?_
              refine g_u (s_as_imm rfl rfl) ?_
              refine g_nil ?_
              refine normal_thn ?_
              have et : (((plR 0 (b.take i)) ++ (plC i 0 ((nthR b i).scopes.take k)) ++ ((List.range (m + 1)).map fun m => (i, k, m))).map plav) = (((plR 0 (b.take i)) ++ (plC i 0 ((nthR b i).scopes.take k)) ++ ((List.range m).map fun m => (i, k, m))).map plav) ++ [plav (i, k, m)] := by rw [range_snoc, ← List.append_assoc, List.map_append]; rfl
              refine ⟨m + 1, hm, ⟨rfl, rfl, look_slg rfl et.symm, look_tok rfl et.symm, rfl, rfl, look_int rfl (by rw [wrap64 (by omega) (by omega)]; rfl), trivial⟩, by (try dsimp only); omega⟩
            · skip
              have hmn : m = (nthC (nthR b i).scopes k).spans.length := by have := of_decide_eq_false hb3; (try simp only [List.length_map] at this); omega
              refine aw_exit ?_
              refine exit_thn ?_
              refine exit_thn ?_
              refine exit_blk ?_
              refine normal_blk ?_
              refine normal_thn ?_
              refine aw_region ?_
              refine g_u (s_mv_imm rfl rfl) ?_
              refine g_u (s_add rfl rfl rfl) ?_
              refine g_u (s_as_imm rfl rfl) ?_
              refine g_nil ?_
              refine normal_thn ?_
              have et : (((plR 0 (b.take i)) ++ (plC i 0 ((nthR b i).scopes.take (k + 1)))).map plav) = (((plR 0 (b.take i)) ++ (plC i 0 ((nthR b i).scopes.take k)) ++ ((List.range m).map fun m => (i, k, m))).map plav) := by rw [plC_take hk, hmn, List.append_assoc]
              refine ⟨k + 1, hk, ⟨rfl, rfl, look_slg rfl et.symm, look_tok rfl et.symm, rfl, look_int rfl (by rw [wrap64 (by omega) (by omega)]; rfl), trivial⟩, by (try dsimp only); omega⟩
        · skip
          have hkn : k = (nthR b i).scopes.length := by have := of_decide_eq_false hb2; (try simp only [List.length_map] at this); omega
          refine aw_exit ?_
          refine exit_thn ?_
          refine exit_thn ?_
          refine exit_blk ?_
          refine normal_blk ?_
          refine normal_thn ?_
          refine aw_region ?_
          refine g_u (s_mv_imm rfl rfl) ?_
          refine g_u (s_add rfl rfl rfl) ?_
          refine g_u (s_as_imm rfl rfl) ?_
          refine g_nil ?_
          refine normal_thn ?_
          have et : ((plR 0 (b.take (i + 1))).map plav) = (((plR 0 (b.take i)) ++ (plC i 0 ((nthR b i).scopes.take k))).map plav) := by rw [plR_take hi, hkn, List.take_length]
          refine ⟨i + 1, hi, ⟨rfl, rfl, look_slg rfl et.symm, look_tok rfl et.symm, look_int rfl (by rw [wrap64 (by omega) (by omega)]; rfl), trivial⟩, by (try dsimp only); omega⟩
    · skip
      have hin : i = b.length := by have := of_decide_eq_false hb1; (try simp only [List.length_map] at this); omega
      refine aw_exit ?_
      refine exit_thn ?_
      refine exit_thn ?_
      refine exit_blk ?_
      refine normal_thn ?_
      refine aw_seq ?_
      refine aw_region ?_
      refine g_u (s_mv_slg rfl rfl) ?_
      refine g_u (s_as_slg rfl rfl) ?_
      refine g_nil ?_
      refine normal_thn ?_
      refine aw_ret ?_
      exact ⟨⟨(rfl : toAV (Al.look _ _) = some _).trans (congrArg some (by (rw [hin, List.take_length]))), rfl⟩, trivial⟩

end Go.Proofs

namespace Go.Proofs
open Go Go.Al
set_option maxRecDepth 10000
theorem eq43 (a b : List UInt8) : eqV Tryd.prog 100 43 (.arr 16 a) (.arr 16 b) = some (a == b) := by kernel_rfl
theorem eq45 (a b : List UInt8) : eqV Tryd.prog 100 45 (.arr 8 a) (.arr 8 b) = some (a == b) := by kernel_rfl
theorem eq50 (c d : Int) (m n : ByteArray) : eqV Tryd.prog 100 50 (.agg [iv c, sv m]) (.agg [iv d, sv n]) = some ((c == d) && ((m.toList == n.toList) && true)) := by kernel_rfl

set_option maxHeartbeats 4000000 in
theorem rsameS_c (a b : GSpan) (hw : a.wt ≤ 1000000000) : PCall Tryd.prog Γ0 20 [a.av, b.av] [bv (decide (a = b))] := by
  have qw : a.wt = 1 + a.state.size + a.name.size + a.note.size + wtAs a.attrs + sumBy GE.wt a.events + sumBy GL.wt a.links := rfl
  have ql := sumBy_len GE.wt (fun e => by unfold GE.wt; omega) a.events
  have qm := sumBy_len GL.wt (fun e => by unfold GL.wt; omega) a.links
  refine pcall_of Tryd.func20 rfl Tryd.ntmps20 (by kernel_rfl) rfl fun w0 I0 G0 => ?_
  refine aw_seq ?_
  refine aw_region ?_
  refine g_uG (s_box_imm 1002 rfl rfl rfl rfl) rfl ?_
  refine g_uG (s_box_imm 1003 rfl rfl rfl rfl) rfl ?_
  refine g_u (s_as_imm rfl rfl) ?_
  refine g_nil ?_
  refine normal_thn ?_
  refine aw_seq ?_
  refine aw_seq ?_
  refine aw_region ?_
  refine g_u (s_fieldAddr rfl rfl fa52_0 rfl) ?_
  refine g_u (s_load_imm rfl rfl rfl tA43 tS43 rfl rfl) ?_
  refine g_u (s_fieldAddr rfl rfl fa52_0 rfl) ?_
  refine g_u (s_load_imm rfl rfl rfl tA43 tS43 rfl rfl) ?_
  refine g_u (s_neA rfl rfl rfl eg43 rfl rfl (eq43 _ _)) ?_
  refine g_u (s_mv_imm rfl rfl) ?_
  refine g_case (t := 16) rfl ?_
  rintro (hb1 | hb1)
  · rw [hb1]
    have q : ¬ a.trace = b.trace := by have e := hb1; simpa using e
    refine g_skip rfl rfl rfl ?_
    refine g_skip rfl rfl rfl ?_
    refine g_skip rfl rfl rfl ?_
    refine g_skip rfl rfl rfl ?_
    refine g_skip rfl rfl rfl ?_
    refine g_u (s_pick_t rfl rfl rfl) ?_
    refine g_u (s_mv_imm rfl rfl) ?_
    refine g_skip rfl rfl rfl ?_
    refine g_skip rfl rfl rfl ?_
    refine g_skip rfl rfl rfl ?_
    refine g_skip rfl rfl rfl ?_
    refine g_skip rfl rfl rfl ?_
    refine g_u (s_pick_t rfl rfl rfl) ?_
    refine g_u (s_mv_imm rfl rfl) ?_
    refine g_skip rfl rfl rfl ?_
    refine g_skip rfl rfl rfl ?_
    refine g_skip rfl rfl rfl ?_
    refine g_skip rfl rfl rfl ?_
    refine g_skip rfl rfl rfl ?_
    refine g_u (s_pick_t rfl rfl rfl) ?_
    refine g_u (s_mv_imm rfl rfl) ?_
    refine g_skip rfl rfl rfl ?_
    refine g_skip rfl rfl rfl ?_
    refine g_skip rfl rfl rfl ?_
    refine g_skip rfl rfl rfl ?_
    refine g_skip rfl rfl rfl ?_
    refine g_u (s_pick_t rfl rfl rfl) ?_
    refine g_u (s_mv_imm rfl rfl) ?_
    refine g_skip rfl rfl rfl ?_
    refine g_skip rfl rfl rfl ?_
    refine g_skip rfl rfl rfl ?_
    refine g_skip rfl rfl rfl ?_
    refine g_skip rfl rfl rfl ?_
    refine g_u (s_pick_t rfl rfl rfl) ?_
    refine g_u (s_mv_imm rfl rfl) ?_
    refine g_skip rfl rfl rfl ?_
    refine g_skip rfl rfl rfl ?_
    refine g_skip rfl rfl rfl ?_
    refine g_skip rfl rfl rfl ?_
    refine g_skip rfl rfl rfl ?_
    refine g_u (s_pick_t rfl rfl rfl) ?_
    refine g_u (s_mv_imm rfl rfl) ?_
    refine g_skip rfl rfl rfl ?_
    refine g_skip rfl rfl rfl ?_
    refine g_skip rfl rfl rfl ?_
    refine g_skip rfl rfl rfl ?_
    refine g_skip rfl rfl rfl ?_
    refine g_u (s_pick_t rfl rfl rfl) ?_
    refine g_u (s_mv_imm rfl rfl) ?_
    refine g_skip rfl rfl rfl ?_
    refine g_skip rfl rfl rfl ?_
    refine g_skip rfl rfl rfl ?_
    refine g_skip rfl rfl rfl ?_
    refine g_skip rfl rfl rfl ?_
    refine g_u (s_pick_t rfl rfl rfl) ?_
    refine g_nil ?_
    refine normal_thn ?_
    refine aw_cond_true rfl ?_
    refine aw_seq ?_
    refine aw_region ?_
    refine g_u (s_as_imm rfl rfl) ?_
    refine g_nil ?_
    refine normal_thn ?_
    refine aw_ret ?_
    refine ret_thn ?_
    exact ⟨⟨(rfl : toAV (Al.look _ _) = some _).trans (congrArg some (by (exact congrArg bv (by first | exact (decide_eq_false (fun e => q ⟨congrArg GSpan.code e, congrArg GSpan.note e⟩)).symm | exact (decide_eq_false (fun e => q (by rw [e]))).symm | exact (decide_eq_true (GSpan.ext' e0 e1 e2 e3 e4 e5 e6 e7 e9 (ext_nth ge0 e10 (fun j hj => hev j (by omega))) (ext_nth gl0 e11 (fun j hj => h4 j (by omega))) e8.1 e8.2)).symm)))), rfl⟩, trivial⟩
  · rw [hb1]
    have e0 : a.trace = b.trace := by have e := hb1; simpa using e
    refine g_run rfl rfl (s_fieldAddr rfl rfl fa52_1 rfl) ?_
    refine g_run rfl rfl (s_load_imm rfl rfl rfl tA45 tS45 rfl rfl) ?_
    refine g_run rfl rfl (s_fieldAddr rfl rfl fa52_1 rfl) ?_
    refine g_run rfl rfl (s_load_imm rfl rfl rfl tA45 tS45 rfl rfl) ?_
    refine g_run rfl rfl (s_neA rfl rfl rfl eg45 rfl rfl (eq45 _ _)) ?_
    refine g_u (s_pick_f rfl rfl rfl) ?_
    refine g_u (s_mv_imm rfl rfl) ?_
    refine g_case (t := 23) rfl ?_
    rintro (hb2 | hb2)
    · rw [hb2]
      have q : ¬ a.id = b.id := by have e := hb2; simpa using e
      refine g_skip rfl rfl rfl ?_
      refine g_skip rfl rfl rfl ?_
      refine g_skip rfl rfl rfl ?_
      refine g_skip rfl rfl rfl ?_
      refine g_skip rfl rfl rfl ?_
      refine g_u (s_pick_t rfl rfl rfl) ?_
      refine g_u (s_mv_imm rfl rfl) ?_
      refine g_skip rfl rfl rfl ?_
      refine g_skip rfl rfl rfl ?_
      refine g_skip rfl rfl rfl ?_
      refine g_skip rfl rfl rfl ?_
      refine g_skip rfl rfl rfl ?_
      refine g_u (s_pick_t rfl rfl rfl) ?_
      refine g_u (s_mv_imm rfl rfl) ?_
      refine g_skip rfl rfl rfl ?_
      refine g_skip rfl rfl rfl ?_
      refine g_skip rfl rfl rfl ?_
      refine g_skip rfl rfl rfl ?_
      refine g_skip rfl rfl rfl ?_
      refine g_u (s_pick_t rfl rfl rfl) ?_
      refine g_u (s_mv_imm rfl rfl) ?_
      refine g_skip rfl rfl rfl ?_
      refine g_skip rfl rfl rfl ?_
      refine g_skip rfl rfl rfl ?_
      refine g_skip rfl rfl rfl ?_
      refine g_skip rfl rfl rfl ?_
      refine g_u (s_pick_t rfl rfl rfl) ?_
      refine g_u (s_mv_imm rfl rfl) ?_
      refine g_skip rfl rfl rfl ?_
      refine g_skip rfl rfl rfl ?_
      refine g_skip rfl rfl rfl ?_
      refine g_skip rfl rfl rfl ?_
      refine g_skip rfl rfl rfl ?_
      refine g_u (s_pick_t rfl rfl rfl) ?_
      refine g_u (s_mv_imm rfl rfl) ?_
      refine g_skip rfl rfl rfl ?_
      refine g_skip rfl rfl rfl ?_
      refine g_skip rfl rfl rfl ?_
      refine g_skip rfl rfl rfl ?_
      refine g_skip rfl rfl rfl ?_
      refine g_u (s_pick_t rfl rfl rfl) ?_
      refine g_u (s_mv_imm rfl rfl) ?_
      refine g_skip rfl rfl rfl ?_
      refine g_skip rfl rfl rfl ?_
      refine g_skip rfl rfl rfl ?_
      refine g_skip rfl rfl rfl ?_
      refine g_skip rfl rfl rfl ?_
      refine g_u (s_pick_t rfl rfl rfl) ?_
      refine g_nil ?_
      refine normal_thn ?_
      refine aw_cond_true rfl ?_
      refine aw_seq ?_
      refine aw_region ?_
      refine g_u (s_as_imm rfl rfl) ?_
      refine g_nil ?_
      refine normal_thn ?_
      refine aw_ret ?_
      refine ret_thn ?_
      exact ⟨⟨(rfl : toAV (Al.look _ _) = some _).trans (congrArg some (by (exact congrArg bv (by first | exact (decide_eq_false (fun e => q ⟨congrArg GSpan.code e, congrArg GSpan.note e⟩)).symm | exact (decide_eq_false (fun e => q (by rw [e]))).symm | exact (decide_eq_true (GSpan.ext' e0 e1 e2 e3 e4 e5 e6 e7 e9 (ext_nth ge0 e10 (fun j hj => hev j (by omega))) (ext_nth gl0 e11 (fun j hj => h4 j (by omega))) e8.1 e8.2)).symm)))), rfl⟩, trivial⟩
    · rw [hb2]
      have e1 : a.id = b.id := by have e := hb2; simpa using e
      refine g_run rfl rfl (s_fieldAddr rfl rfl fa52_2 rfl) ?_
      refine g_run rfl rfl (s_load_imm rfl rfl rfl tA45 tS45 rfl rfl) ?_
      refine g_run rfl rfl (s_fieldAddr rfl rfl fa52_2 rfl) ?_
      refine g_run rfl rfl (s_load_imm rfl rfl rfl tA45 tS45 rfl rfl) ?_
      refine g_run rfl rfl (s_neA rfl rfl rfl eg45 rfl rfl (eq45 _ _)) ?_
      refine g_u (s_pick_f rfl rfl rfl) ?_
      refine g_u (s_mv_imm rfl rfl) ?_
      refine g_case (t := 30) rfl ?_
      rintro (hb3 | hb3)
      · rw [hb3]
        have q : ¬ a.parent = b.parent := by have e := hb3; simpa using e
        refine g_skip rfl rfl rfl ?_
        refine g_skip rfl rfl rfl ?_
        refine g_skip rfl rfl rfl ?_
        refine g_skip rfl rfl rfl ?_
        refine g_skip rfl rfl rfl ?_
        refine g_u (s_pick_t rfl rfl rfl) ?_
        refine g_u (s_mv_imm rfl rfl) ?_
        refine g_skip rfl rfl rfl ?_
        refine g_skip rfl rfl rfl ?_
        refine g_skip rfl rfl rfl ?_
        refine g_skip rfl rfl rfl ?_
        refine g_skip rfl rfl rfl ?_
        refine g_u (s_pick_t rfl rfl rfl) ?_
        refine g_u (s_mv_imm rfl rfl) ?_
        refine g_skip rfl rfl rfl ?_
        refine g_skip rfl rfl rfl ?_
        refine g_skip rfl rfl rfl ?_
        refine g_skip rfl rfl rfl ?_
        refine g_skip rfl rfl rfl ?_
        refine g_u (s_pick_t rfl rfl rfl) ?_
        refine g_u (s_mv_imm rfl rfl) ?_
        refine g_skip rfl rfl rfl ?_
        refine g_skip rfl rfl rfl ?_
        refine g_skip rfl rfl rfl ?_
        refine g_skip rfl rfl rfl ?_
        refine g_skip rfl rfl rfl ?_
        refine g_u (s_pick_t rfl rfl rfl) ?_
        refine g_u (s_mv_imm rfl rfl) ?_
        refine g_skip rfl rfl rfl ?_
        refine g_skip rfl rfl rfl ?_
        refine g_skip rfl rfl rfl ?_
        refine g_skip rfl rfl rfl ?_
        refine g_skip rfl rfl rfl ?_
        refine g_u (s_pick_t rfl rfl rfl) ?_
        refine g_u (s_mv_imm rfl rfl) ?_
        refine g_skip rfl rfl rfl ?_
        refine g_skip rfl rfl rfl ?_
        refine g_skip rfl rfl rfl ?_
        refine g_skip rfl rfl rfl ?_
        refine g_skip rfl rfl rfl ?_
        refine g_u (s_pick_t rfl rfl rfl) ?_
        refine g_nil ?_
        refine normal_thn ?_
        refine aw_cond_true rfl ?_
        refine aw_seq ?_
        refine aw_region ?_
        refine g_u (s_as_imm rfl rfl) ?_
        refine g_nil ?_
        refine normal_thn ?_
        refine aw_ret ?_
        refine ret_thn ?_
        exact ⟨⟨(rfl : toAV (Al.look _ _) = some _).trans (congrArg some (by (exact congrArg bv (by first | exact (decide_eq_false (fun e => q ⟨congrArg GSpan.code e, congrArg GSpan.note e⟩)).symm | exact (decide_eq_false (fun e => q (by rw [e]))).symm | exact (decide_eq_true (GSpan.ext' e0 e1 e2 e3 e4 e5 e6 e7 e9 (ext_nth ge0 e10 (fun j hj => hev j (by omega))) (ext_nth gl0 e11 (fun j hj => h4 j (by omega))) e8.1 e8.2)).symm)))), rfl⟩, trivial⟩
      · rw [hb3]
        have e2 : a.parent = b.parent := by have e := hb3; simpa using e
        refine g_run rfl rfl (s_fieldAddr rfl rfl fa52_3 rfl) ?_
        refine g_run rfl rfl (s_load_imm rfl rfl rfl tA9 tS9 rfl rfl) ?_
        refine g_run rfl rfl (s_fieldAddr rfl rfl fa52_3 rfl) ?_
        refine g_run rfl rfl (s_load_imm rfl rfl rfl tA9 tS9 rfl rfl) ?_
        refine g_run rfl rfl (s_neS rfl rfl rfl) ?_
        refine g_u (s_pick_f rfl rfl rfl) ?_
        refine g_u (s_mv_imm rfl rfl) ?_
        refine g_case (t := 37) rfl ?_
        rintro (hb4 | hb4)
        · rw [hb4]
          have q : ¬ a.state = b.state := by have e := hb4; rw [str_beq] at e; simpa using e
          refine g_skip rfl rfl rfl ?_
          refine g_skip rfl rfl rfl ?_
          refine g_skip rfl rfl rfl ?_
          refine g_skip rfl rfl rfl ?_
          refine g_skip rfl rfl rfl ?_
          refine g_u (s_pick_t rfl rfl rfl) ?_
          refine g_u (s_mv_imm rfl rfl) ?_
          refine g_skip rfl rfl rfl ?_
          refine g_skip rfl rfl rfl ?_
          refine g_skip rfl rfl rfl ?_
          refine g_skip rfl rfl rfl ?_
          refine g_skip rfl rfl rfl ?_
          refine g_u (s_pick_t rfl rfl rfl) ?_
          refine g_u (s_mv_imm rfl rfl) ?_
          refine g_skip rfl rfl rfl ?_
          refine g_skip rfl rfl rfl ?_
          refine g_skip rfl rfl rfl ?_
          refine g_skip rfl rfl rfl ?_
          refine g_skip rfl rfl rfl ?_
          refine g_u (s_pick_t rfl rfl rfl) ?_
          refine g_u (s_mv_imm rfl rfl) ?_
          refine g_skip rfl rfl rfl ?_
          refine g_skip rfl rfl rfl ?_
          refine g_skip rfl rfl rfl ?_
          refine g_skip rfl rfl rfl ?_
          refine g_skip rfl rfl rfl ?_
          refine g_u (s_pick_t rfl rfl rfl) ?_
          refine g_u (s_mv_imm rfl rfl) ?_
          refine g_skip rfl rfl rfl ?_
          refine g_skip rfl rfl rfl ?_
          refine g_skip rfl rfl rfl ?_
          refine g_skip rfl rfl rfl ?_
          refine g_skip rfl rfl rfl ?_
          refine g_u (s_pick_t rfl rfl rfl) ?_
          refine g_nil ?_
          refine normal_thn ?_
          refine aw_cond_true rfl ?_
          refine aw_seq ?_
          refine aw_region ?_
          refine g_u (s_as_imm rfl rfl) ?_
          refine g_nil ?_
          refine normal_thn ?_
          refine aw_ret ?_
          refine ret_thn ?_
          exact ⟨⟨(rfl : toAV (Al.look _ _) = some _).trans (congrArg some (by (exact congrArg bv (by first | exact (decide_eq_false (fun e => q ⟨congrArg GSpan.code e, congrArg GSpan.note e⟩)).symm | exact (decide_eq_false (fun e => q (by rw [e]))).symm | exact (decide_eq_true (GSpan.ext' e0 e1 e2 e3 e4 e5 e6 e7 e9 (ext_nth ge0 e10 (fun j hj => hev j (by omega))) (ext_nth gl0 e11 (fun j hj => h4 j (by omega))) e8.1 e8.2)).symm)))), rfl⟩, trivial⟩
        · rw [hb4]
          have e3 : a.state = b.state := by have e := hb4; rw [str_beq] at e; simpa using e
          refine g_run rfl rfl (s_fieldAddr rfl rfl fa52_4 rfl) ?_
          refine g_run rfl rfl (s_load_imm rfl rfl rfl tA9 tS9 rfl rfl) ?_
          refine g_run rfl rfl (s_fieldAddr rfl rfl fa52_4 rfl) ?_
          refine g_run rfl rfl (s_load_imm rfl rfl rfl tA9 tS9 rfl rfl) ?_
          refine g_run rfl rfl (s_neS rfl rfl rfl) ?_
          refine g_u (s_pick_f rfl rfl rfl) ?_
          refine g_u (s_mv_imm rfl rfl) ?_
          refine g_case (t := 44) rfl ?_
          rintro (hb5 | hb5)
          · rw [hb5]
            have q : ¬ a.name = b.name := by have e := hb5; rw [str_beq] at e; simpa using e
            refine g_skip rfl rfl rfl ?_
            refine g_skip rfl rfl rfl ?_
            refine g_skip rfl rfl rfl ?_
            refine g_skip rfl rfl rfl ?_
            refine g_skip rfl rfl rfl ?_
            refine g_u (s_pick_t rfl rfl rfl) ?_
            refine g_u (s_mv_imm rfl rfl) ?_
            refine g_skip rfl rfl rfl ?_
            refine g_skip rfl rfl rfl ?_
            refine g_skip rfl rfl rfl ?_
            refine g_skip rfl rfl rfl ?_
            refine g_skip rfl rfl rfl ?_
            refine g_u (s_pick_t rfl rfl rfl) ?_
            refine g_u (s_mv_imm rfl rfl) ?_
            refine g_skip rfl rfl rfl ?_
            refine g_skip rfl rfl rfl ?_
            refine g_skip rfl rfl rfl ?_
            refine g_skip rfl rfl rfl ?_
            refine g_skip rfl rfl rfl ?_
            refine g_u (s_pick_t rfl rfl rfl) ?_
            refine g_u (s_mv_imm rfl rfl) ?_
            refine g_skip rfl rfl rfl ?_
            refine g_skip rfl rfl rfl ?_
            refine g_skip rfl rfl rfl ?_
            refine g_skip rfl rfl rfl ?_
            refine g_skip rfl rfl rfl ?_
            refine g_u (s_pick_t rfl rfl rfl) ?_
            refine g_nil ?_
            refine normal_thn ?_
            refine aw_cond_true rfl ?_
            refine aw_seq ?_
            refine aw_region ?_
            refine g_u (s_as_imm rfl rfl) ?_
            refine g_nil ?_
            refine normal_thn ?_
            refine aw_ret ?_
            refine ret_thn ?_
            exact ⟨⟨(rfl : toAV (Al.look _ _) = some _).trans (congrArg some (by (exact congrArg bv (by first | exact (decide_eq_false (fun e => q ⟨congrArg GSpan.code e, congrArg GSpan.note e⟩)).symm | exact (decide_eq_false (fun e => q (by rw [e]))).symm | exact (decide_eq_true (GSpan.ext' e0 e1 e2 e3 e4 e5 e6 e7 e9 (ext_nth ge0 e10 (fun j hj => hev j (by omega))) (ext_nth gl0 e11 (fun j hj => h4 j (by omega))) e8.1 e8.2)).symm)))), rfl⟩, trivial⟩
          · rw [hb5]
            have e4 : a.name = b.name := by have e := hb5; rw [str_beq] at e; simpa using e
            refine g_run rfl rfl (s_fieldAddr rfl rfl fa52_5 rfl) ?_
            refine g_run rfl rfl (s_load_imm rfl rfl rfl tA3 tS3 rfl rfl) ?_
            refine g_run rfl rfl (s_fieldAddr rfl rfl fa52_5 rfl) ?_
            refine g_run rfl rfl (s_load_imm rfl rfl rfl tA3 tS3 rfl rfl) ?_
            refine g_run rfl rfl (s_neI rfl rfl rfl) ?_
            refine g_u (s_pick_f rfl rfl rfl) ?_
            refine g_u (s_mv_imm rfl rfl) ?_
            refine g_case (t := 51) rfl ?_
            rintro (hb6 | hb6)
            · rw [hb6]
              have q : ¬ a.kind = b.kind := bne_iff_ne.1 hb6
              refine g_skip rfl rfl rfl ?_
              refine g_skip rfl rfl rfl ?_
              refine g_skip rfl rfl rfl ?_
              refine g_skip rfl rfl rfl ?_
              refine g_skip rfl rfl rfl ?_
              refine g_u (s_pick_t rfl rfl rfl) ?_
              refine g_u (s_mv_imm rfl rfl) ?_
              refine g_skip rfl rfl rfl ?_
              refine g_skip rfl rfl rfl ?_
              refine g_skip rfl rfl rfl ?_
              refine g_skip rfl rfl rfl ?_
              refine g_skip rfl rfl rfl ?_
              refine g_u (s_pick_t rfl rfl rfl) ?_
              refine g_u (s_mv_imm rfl rfl) ?_
              refine g_skip rfl rfl rfl ?_
              refine g_skip rfl rfl rfl ?_
              refine g_skip rfl rfl rfl ?_
              refine g_skip rfl rfl rfl ?_
              refine g_skip rfl rfl rfl ?_
              refine g_u (s_pick_t rfl rfl rfl) ?_
              refine g_nil ?_
              refine normal_thn ?_
              refine aw_cond_true rfl ?_
              refine aw_seq ?_
              refine aw_region ?_
              refine g_u (s_as_imm rfl rfl) ?_
              refine g_nil ?_
              refine normal_thn ?_
              refine aw_ret ?_
              refine ret_thn ?_
              exact ⟨⟨(rfl : toAV (Al.look _ _) = some _).trans (congrArg some (by (exact congrArg bv (by first | exact (decide_eq_false (fun e => q ⟨congrArg GSpan.code e, congrArg GSpan.note e⟩)).symm | exact (decide_eq_false (fun e => q (by rw [e]))).symm | exact (decide_eq_true (GSpan.ext' e0 e1 e2 e3 e4 e5 e6 e7 e9 (ext_nth ge0 e10 (fun j hj => hev j (by omega))) (ext_nth gl0 e11 (fun j hj => h4 j (by omega))) e8.1 e8.2)).symm)))), rfl⟩, trivial⟩
            · rw [hb6]
              have e5 : a.kind = b.kind := bne_eq_false_iff_eq.1 hb6
              refine g_run rfl rfl (s_fieldAddr rfl rfl fa52_6 rfl) ?_
              refine g_run rfl rfl (s_load_imm rfl rfl rfl tA46 tS46 rfl rfl) ?_
              refine g_run rfl rfl (s_fieldAddr rfl rfl fa52_6 rfl) ?_
              refine g_run rfl rfl (s_load_imm rfl rfl rfl tA46 tS46 rfl rfl) ?_
              refine g_run rfl rfl (s_neI rfl rfl rfl) ?_
              refine g_u (s_pick_f rfl rfl rfl) ?_
              refine g_u (s_mv_imm rfl rfl) ?_
              refine g_case (t := 58) rfl ?_
              rintro (hb7 | hb7)
              · rw [hb7]
                have q : ¬ a.start = b.start := bne_iff_ne.1 hb7
                refine g_skip rfl rfl rfl ?_
                refine g_skip rfl rfl rfl ?_
                refine g_skip rfl rfl rfl ?_
                refine g_skip rfl rfl rfl ?_
                refine g_skip rfl rfl rfl ?_
                refine g_u (s_pick_t rfl rfl rfl) ?_
                refine g_u (s_mv_imm rfl rfl) ?_
                refine g_skip rfl rfl rfl ?_
                refine g_skip rfl rfl rfl ?_
                refine g_skip rfl rfl rfl ?_
                refine g_skip rfl rfl rfl ?_
                refine g_skip rfl rfl rfl ?_
                refine g_u (s_pick_t rfl rfl rfl) ?_
                refine g_nil ?_
                refine normal_thn ?_
                refine aw_cond_true rfl ?_
                refine aw_seq ?_
                refine aw_region ?_
                refine g_u (s_as_imm rfl rfl) ?_
                refine g_nil ?_
                refine normal_thn ?_
                refine aw_ret ?_
                refine ret_thn ?_
                exact ⟨⟨(rfl : toAV (Al.look _ _) = some _).trans (congrArg some (by (exact congrArg bv (by first | exact (decide_eq_false (fun e => q ⟨congrArg GSpan.code e, congrArg GSpan.note e⟩)).symm | exact (decide_eq_false (fun e => q (by rw [e]))).symm | exact (decide_eq_true (GSpan.ext' e0 e1 e2 e3 e4 e5 e6 e7 e9 (ext_nth ge0 e10 (fun j hj => hev j (by omega))) (ext_nth gl0 e11 (fun j hj => h4 j (by omega))) e8.1 e8.2)).symm)))), rfl⟩, trivial⟩
              · rw [hb7]
                have e6 : a.start = b.start := bne_eq_false_iff_eq.1 hb7
                refine g_run rfl rfl (s_fieldAddr rfl rfl fa52_7 rfl) ?_
                refine g_run rfl rfl (s_load_imm rfl rfl rfl tA46 tS46 rfl rfl) ?_
                refine g_run rfl rfl (s_fieldAddr rfl rfl fa52_7 rfl) ?_
                refine g_run rfl rfl (s_load_imm rfl rfl rfl tA46 tS46 rfl rfl) ?_
                refine g_run rfl rfl (s_neI rfl rfl rfl) ?_
                refine g_u (s_pick_f rfl rfl rfl) ?_
                refine g_u (s_mv_imm rfl rfl) ?_
                refine g_case (t := 65) rfl ?_
                rintro (hb8 | hb8)
                · rw [hb8]
                  have q : ¬ a.fin = b.fin := bne_iff_ne.1 hb8
                  refine g_skip rfl rfl rfl ?_
                  refine g_skip rfl rfl rfl ?_
                  refine g_skip rfl rfl rfl ?_
                  refine g_skip rfl rfl rfl ?_
                  refine g_skip rfl rfl rfl ?_
                  refine g_u (s_pick_t rfl rfl rfl) ?_
                  refine g_nil ?_
                  refine normal_thn ?_
                  refine aw_cond_true rfl ?_
                  refine aw_seq ?_
                  refine aw_region ?_
                  refine g_u (s_as_imm rfl rfl) ?_
                  refine g_nil ?_
                  refine normal_thn ?_
                  refine aw_ret ?_
                  refine ret_thn ?_
                  exact ⟨⟨(rfl : toAV (Al.look _ _) = some _).trans (congrArg some (by (exact congrArg bv (by first | exact (decide_eq_false (fun e => q ⟨congrArg GSpan.code e, congrArg GSpan.note e⟩)).symm | exact (decide_eq_false (fun e => q (by rw [e]))).symm | exact (decide_eq_true (GSpan.ext' e0 e1 e2 e3 e4 e5 e6 e7 e9 (ext_nth ge0 e10 (fun j hj => hev j (by omega))) (ext_nth gl0 e11 (fun j hj => h4 j (by omega))) e8.1 e8.2)).symm)))), rfl⟩, trivial⟩
                · rw [hb8]
                  have e7 : a.fin = b.fin := bne_eq_false_iff_eq.1 hb8
                  refine g_run rfl rfl (s_fieldAddr rfl rfl fa52_11 rfl) ?_
                  refine g_run rfl rfl (s_load_imm rfl rfl rfl tA50 tS50 rfl rfl) ?_
                  refine g_run rfl rfl (s_fieldAddr rfl rfl fa52_11 rfl) ?_
                  refine g_run rfl rfl (s_load_imm rfl rfl rfl tA50 tS50 rfl rfl) ?_
                  refine g_run rfl rfl (s_neA rfl rfl rfl eg50 rfl rfl (eq50 _ _ _ _)) ?_
                  refine g_u (s_pick_f rfl rfl rfl) ?_
                  refine g_nil ?_
                  refine normal_thn ?_
                  refine aw_cond rfl (fun hb9 => ?_) (fun hb9 => ?_)
                  · skip
                    have q : ¬ (a.code = b.code ∧ a.note = b.note) := fun h => by have e := hb9; rw [str_beq, h.1, h.2] at e; simp at e
                    refine aw_seq ?_
                    refine aw_region ?_
                    refine g_u (s_as_imm rfl rfl) ?_
                    refine g_nil ?_
                    refine normal_thn ?_
                    refine aw_ret ?_
                    refine ret_thn ?_
                    exact ⟨⟨(rfl : toAV (Al.look _ _) = some _).trans (congrArg some (by (exact congrArg bv (by first | exact (decide_eq_false (fun e => q ⟨congrArg GSpan.code e, congrArg GSpan.note e⟩)).symm | exact (decide_eq_false (fun e => q (by rw [e]))).symm | exact (decide_eq_true (GSpan.ext' e0 e1 e2 e3 e4 e5 e6 e7 e9 (ext_nth ge0 e10 (fun j hj => hev j (by omega))) (ext_nth gl0 e11 (fun j hj => h4 j (by omega))) e8.1 e8.2)).symm)))), rfl⟩, trivial⟩
                  · skip
                    have e8 : a.code = b.code ∧ a.note = b.note := by have e := hb9; rw [str_beq] at e; simpa using e
                    refine aw_skip ?_
                    refine normal_thn ?_
                    refine aw_seq ?_
                    refine aw_seq ?_
                    refine aw_region ?_
                    refine g_u (s_fieldAddr rfl rfl fa52_8 rfl) ?_
                    refine g_u (s_load_imm rfl rfl rfl tA30 tS30 rfl rfl) ?_
                    refine g_u (s_fieldAddr rfl rfl fa52_8 rfl) ?_
                    refine g_u (s_load_imm rfl rfl rfl tA30 tS30 rfl rfl) ?_
                    refine g_u (s_call1 (rsameAs_c _ _ (by omega)) rfl rfl) ?_
                    refine g_u (s_not rfl rfl) ?_
                    refine g_u (s_mv_imm rfl rfl) ?_
                    refine g_case (t := 78) rfl ?_
                    rintro (hb10 | hb10)
                    · rw [hb10]
                      have q : ¬ a.attrs = b.attrs := fun h => by have e := hb10; rw [h, sameAs_refl] at e; cases e
                      refine g_skip rfl rfl rfl ?_
                      refine g_skip rfl rfl rfl ?_
                      refine g_skip rfl rfl rfl ?_
                      refine g_skip rfl rfl rfl ?_
                      refine g_skip rfl rfl rfl ?_
                      refine g_skip rfl rfl rfl ?_
                      refine g_skip rfl rfl rfl ?_
                      refine g_u (s_pick_t rfl rfl rfl) ?_
                      refine g_u (s_mv_imm rfl rfl) ?_
                      refine g_skip rfl rfl rfl ?_
                      refine g_skip rfl rfl rfl ?_
                      refine g_skip rfl rfl rfl ?_
                      refine g_skip rfl rfl rfl ?_
                      refine g_skip rfl rfl rfl ?_
                      refine g_skip rfl rfl rfl ?_
                      refine g_skip rfl rfl rfl ?_
                      refine g_u (s_pick_t rfl rfl rfl) ?_
                      refine g_nil ?_
                      refine normal_thn ?_
                      refine aw_cond_true rfl ?_
                      refine aw_seq ?_
                      refine aw_region ?_
                      refine g_u (s_as_imm rfl rfl) ?_
                      refine g_nil ?_
                      refine normal_thn ?_
                      refine aw_ret ?_
                      refine ret_thn ?_
                      exact ⟨⟨(rfl : toAV (Al.look _ _) = some _).trans (congrArg some (by (exact congrArg bv (by first | exact (decide_eq_false (fun e => q ⟨congrArg GSpan.code e, congrArg GSpan.note e⟩)).symm | exact (decide_eq_false (fun e => q (by rw [e]))).symm | exact (decide_eq_true (GSpan.ext' e0 e1 e2 e3 e4 e5 e6 e7 e9 (ext_nth ge0 e10 (fun j hj => hev j (by omega))) (ext_nth gl0 e11 (fun j hj => h4 j (by omega))) e8.1 e8.2)).symm)))), rfl⟩, trivial⟩
                    · rw [hb10]
                      have e9 : a.attrs = b.attrs := (sameAs_iff _ _).1 (by have e := hb10; simpa using e)
                      refine g_run rfl rfl (s_fieldAddr rfl rfl fa52_9 rfl) ?_
                      refine g_run rfl rfl (s_load_imm rfl rfl rfl tA47 tS47 rfl rfl) ?_
                      refine g_run rfl rfl (s_lenL rfl rfl Tryd.underlying47) ?_
                      refine g_run rfl rfl (s_fieldAddr rfl rfl fa52_9 rfl) ?_
                      refine g_run rfl rfl (s_load_imm rfl rfl rfl tA47 tS47 rfl rfl) ?_
                      refine g_run rfl rfl (s_lenL rfl rfl Tryd.underlying47) ?_
                      refine g_run rfl rfl (s_neI rfl rfl rfl) ?_
                      refine g_u (s_pick_f rfl rfl rfl) ?_
                      refine g_u (s_mv_imm rfl rfl) ?_
                      refine g_case (t := 87) rfl ?_
                      rintro (hb11 | hb11)
                      · rw [hb11]
                        have q : ¬ a.events.length = b.events.length := by have e := bne_iff_ne.1 hb11; simp only [List.length_map] at e; omega
                        refine g_skip rfl rfl rfl ?_
                        refine g_skip rfl rfl rfl ?_
                        refine g_skip rfl rfl rfl ?_
                        refine g_skip rfl rfl rfl ?_
                        refine g_skip rfl rfl rfl ?_
                        refine g_skip rfl rfl rfl ?_
                        refine g_skip rfl rfl rfl ?_
                        refine g_u (s_pick_t rfl rfl rfl) ?_
                        refine g_nil ?_
                        refine normal_thn ?_
                        refine aw_cond_true rfl ?_
                        refine aw_seq ?_
                        refine aw_region ?_
                        refine g_u (s_as_imm rfl rfl) ?_
                        refine g_nil ?_
                        refine normal_thn ?_
                        refine aw_ret ?_
                        refine ret_thn ?_
                        exact ⟨⟨(rfl : toAV (Al.look _ _) = some _).trans (congrArg some (by (exact congrArg bv (by first | exact (decide_eq_false (fun e => q ⟨congrArg GSpan.code e, congrArg GSpan.note e⟩)).symm | exact (decide_eq_false (fun e => q (by rw [e]))).symm | exact (decide_eq_true (GSpan.ext' e0 e1 e2 e3 e4 e5 e6 e7 e9 (ext_nth ge0 e10 (fun j hj => hev j (by omega))) (ext_nth gl0 e11 (fun j hj => h4 j (by omega))) e8.1 e8.2)).symm)))), rfl⟩, trivial⟩
                      · rw [hb11]
                        have e10 : a.events.length = b.events.length := by have e := bne_eq_false_iff_eq.1 hb11; simp only [List.length_map] at e; omega
                        refine g_run rfl rfl (s_fieldAddr rfl rfl fa52_10 rfl) ?_
                        refine g_run rfl rfl (s_load_imm rfl rfl rfl tA48 tS48 rfl rfl) ?_
                        refine g_run rfl rfl (s_lenL rfl rfl Tryd.underlying48) ?_
                        refine g_run rfl rfl (s_fieldAddr rfl rfl fa52_10 rfl) ?_
                        refine g_run rfl rfl (s_load_imm rfl rfl rfl tA48 tS48 rfl rfl) ?_
                        refine g_run rfl rfl (s_lenL rfl rfl Tryd.underlying48) ?_
                        refine g_run rfl rfl (s_neI rfl rfl rfl) ?_
                        refine g_u (s_pick_f rfl rfl rfl) ?_
                        refine g_nil ?_
                        refine normal_thn ?_
                        refine aw_cond rfl (fun hb12 => ?_) (fun hb12 => ?_)
                        · skip
                          have q : ¬ a.links.length = b.links.length := by have e := bne_iff_ne.1 hb12; simp only [List.length_map] at e; omega
                          refine aw_seq ?_
                          refine aw_region ?_
                          refine g_u (s_as_imm rfl rfl) ?_
                          refine g_nil ?_
                          refine normal_thn ?_
                          refine aw_ret ?_
                          refine ret_thn ?_
                          exact ⟨⟨(rfl : toAV (Al.look _ _) = some _).trans (congrArg some (by (exact congrArg bv (by first | exact (decide_eq_false (fun e => q ⟨congrArg GSpan.code e, congrArg GSpan.note e⟩)).symm | exact (decide_eq_false (fun e => q (by rw [e]))).symm | exact (decide_eq_true (GSpan.ext' e0 e1 e2 e3 e4 e5 e6 e7 e9 (ext_nth ge0 e10 (fun j hj => hev j (by omega))) (ext_nth gl0 e11 (fun j hj => h4 j (by omega))) e8.1 e8.2)).symm)))), rfl⟩, trivial⟩
                        · skip
                          have e11 : a.links.length = b.links.length := by have e := bne_eq_false_iff_eq.1 hb12; simp only [List.length_map] at e; omega
                          refine aw_skip ?_
                          refine normal_thn ?_
                          refine aw_seq ?_
                          refine aw_seq ?_
                          refine aw_region ?_
                          refine g_u (s_as_imm rfl rfl) ?_
                          refine g_nil ?_
                          refine normal_thn ?_
                          refine aw_block ?_
                          refine aw_loop' (fun i : Nat => [(2, .ptr 1002 0), (1002, .box 52 (.imm a.av)), (3, .ptr 1003 0), (1003, .box 52 (.imm b.av)), (5, .imm (iv (i : Int)))]) (fun i => (i ≤ a.events.length ∧ ∀ p, p < i → nth a.events p ge0 = nth b.events p ge0)) (fun i => a.events.length - i) (0) ?_ ⟨rfl, rfl, rfl, rfl, rfl, trivial⟩ ?_
                          · exact ⟨Nat.zero_le _, fun j h => absurd h (Nat.not_lt_zero _)⟩
                          · rintro i ⟨h1, h2⟩; (try dsimp only at h1 h2)
                            refine aw_seq ?_
                            refine aw_seq ?_
                            refine aw_region ?_
                            refine g_u (s_mv_imm rfl rfl) ?_
                            refine g_u (s_fieldAddr rfl rfl fa52_9 rfl) ?_
                            refine g_u (s_load_imm rfl rfl rfl tA47 tS47 rfl rfl) ?_
                            refine g_u (s_lenL rfl rfl Tryd.underlying47) ?_
                            refine g_u (s_ltI rfl rfl rfl) ?_
                            refine g_nil ?_
                            refine normal_thn ?_
                            refine aw_cond rfl (fun hb13 => ?_) (fun hb13 => ?_)
                            · skip
                              have hi : i < a.events.length := by have := of_decide_eq_true hb13; (try simp only [List.length_map] at this); omega
                              have hib : i < b.events.length := by omega
                              have hex := sumBy_mem GE.wt (nthE_mem hi)
                              have heq : (nthE a.events i).wt = 1 + (nthE a.events i).name.size + wtAs (nthE a.events i).attrs := rfl
                              refine aw_skip ?_
                              refine normal_thn ?_
                              refine aw_seq ?_
                              refine aw_block ?_
                              refine aw_seq ?_
                              refine aw_draw mixed ?_
                              refine g_u (s_fieldAddr rfl rfl fa52_9 rfl) ?_
                              refine g_u (s_load_imm rfl rfl rfl tA47 tS47 rfl rfl) ?_
                              refine g_u (s_mv_imm rfl rfl) ?_
                              refine g_u (s_indexAddr rfl rfl rfl Tryd.underlying47 tS85 (by omega) (ixE hi)) ?_
                              refine g_u (s_load_cp rfl rfl tA85 tS85 rfl rfl) ?_
                              refine g_u (s_fieldAddr rfl rfl fa52_9 rfl) ?_
                              refine g_u (s_load_imm rfl rfl rfl tA47 tS47 rfl rfl) ?_
                              refine g_u (s_mv_imm rfl rfl) ?_
                              refine g_u (s_indexAddr rfl rfl rfl Tryd.underlying47 tS85 (by omega) (ixE hib)) ?_
                              refine g_u (s_load_cp rfl rfl tA85 tS85 rfl rfl) ?_
                              refine g_uG (s_alloc' 1006 rfl rfl rfl tZ85) rfl ?_
                              refine g_uG (s_alloc' 1007 rfl rfl rfl tZ85) rfl ?_
                              refine g_u (s_store_imm rfl rfl rfl tS85 rfl rfl) ?_
                              refine g_u (s_store_imm rfl rfl rfl tS85 rfl rfl) ?_
                              refine g_nil ⟨by kernel_rfl, ?_⟩
                              refine normal_thn ?_
                              refine aw_seq ?_
                              refine aw_region ?_
                              refine g_u (s_fieldAddr rfl rfl fa85_0 rfl) ?_
                              refine g_u (s_load_imm rfl rfl rfl tA46 tS46 rfl rfl) ?_
                              refine g_u (s_fieldAddr rfl rfl fa85_0 rfl) ?_
                              refine g_u (s_load_imm rfl rfl rfl tA46 tS46 rfl rfl) ?_
                              refine g_u (s_neI rfl rfl rfl) ?_
                              refine g_u (s_mv_imm rfl rfl) ?_
                              refine g_case (t := 118) rfl ?_
                              rintro (hb14 | hb14)
                              · rw [hb14]
                                have q : ¬ (nthE a.events i).time = (nthE b.events i).time := bne_iff_ne.1 hb14
                                refine g_skip rfl rfl rfl ?_
                                refine g_skip rfl rfl rfl ?_
                                refine g_skip rfl rfl rfl ?_
                                refine g_skip rfl rfl rfl ?_
                                refine g_skip rfl rfl rfl ?_
                                refine g_u (s_pick_t rfl rfl rfl) ?_
                                refine g_u (s_mv_imm rfl rfl) ?_
                                refine g_skip rfl rfl rfl ?_
                                refine g_skip rfl rfl rfl ?_
                                refine g_skip rfl rfl rfl ?_
                                refine g_skip rfl rfl rfl ?_
                                refine g_skip rfl rfl rfl ?_
                                refine g_skip rfl rfl rfl ?_
                                refine g_u (s_pick_t rfl rfl rfl) ?_
                                refine g_nil ?_
                                refine normal_thn ?_
                                refine aw_cond_true rfl ?_
                                refine aw_seq ?_
                                refine aw_region ?_
                                refine g_u (s_as_imm rfl rfl) ?_
                                refine g_nil ?_
                                refine normal_thn ?_
                                refine aw_ret ?_
                                refine ret_blk ?_
                                refine ret_thn ?_
                                refine ret_thn ?_
                                refine ret_blk ?_
                                refine ret_thn ?_
                                exact ⟨⟨(rfl : toAV (Al.look _ _) = some _).trans (congrArg some (by (exact congrArg bv (by first | exact (decide_eq_false (fun e => q ⟨congrArg GSpan.code e, congrArg GSpan.note e⟩)).symm | exact (decide_eq_false (fun e => q (by rw [e]))).symm | exact (decide_eq_true (GSpan.ext' e0 e1 e2 e3 e4 e5 e6 e7 e9 (ext_nth ge0 e10 (fun j hj => hev j (by omega))) (ext_nth gl0 e11 (fun j hj => h4 j (by omega))) e8.1 e8.2)).symm)))), rfl⟩, trivial⟩
                              · rw [hb14]
                                have f1 : (nthE a.events i).time = (nthE b.events i).time := bne_eq_false_iff_eq.1 hb14
                                refine g_run rfl rfl (s_fieldAddr rfl rfl fa85_1 rfl) ?_
                                refine g_run rfl rfl (s_load_imm rfl rfl rfl tA9 tS9 rfl rfl) ?_
                                refine g_run rfl rfl (s_fieldAddr rfl rfl fa85_1 rfl) ?_
                                refine g_run rfl rfl (s_load_imm rfl rfl rfl tA9 tS9 rfl rfl) ?_
                                refine g_run rfl rfl (s_neS rfl rfl rfl) ?_
                                refine g_u (s_pick_f rfl rfl rfl) ?_
                                refine g_u (s_mv_imm rfl rfl) ?_
                                refine g_case (t := 125) rfl ?_
                                rintro (hb15 | hb15)
                                · rw [hb15]
                                  have q : ¬ (nthE a.events i).name = (nthE b.events i).name := by have e := hb15; rw [str_beq] at e; simpa using e
                                  refine g_skip rfl rfl rfl ?_
                                  refine g_skip rfl rfl rfl ?_
                                  refine g_skip rfl rfl rfl ?_
                                  refine g_skip rfl rfl rfl ?_
                                  refine g_skip rfl rfl rfl ?_
                                  refine g_skip rfl rfl rfl ?_
                                  refine g_u (s_pick_t rfl rfl rfl) ?_
                                  refine g_nil ?_
                                  refine normal_thn ?_
                                  refine aw_cond_true rfl ?_
                                  refine aw_seq ?_
                                  refine aw_region ?_
                                  refine g_u (s_as_imm rfl rfl) ?_
                                  refine g_nil ?_
                                  refine normal_thn ?_
                                  refine aw_ret ?_
                                  refine ret_blk ?_
                                  refine ret_thn ?_
                                  refine ret_thn ?_
                                  refine ret_blk ?_
                                  refine ret_thn ?_
                                  exact ⟨⟨(rfl : toAV (Al.look _ _) = some _).trans (congrArg some (by (exact congrArg bv (by first | exact (decide_eq_false (fun e => q ⟨congrArg GSpan.code e, congrArg GSpan.note e⟩)).symm | exact (decide_eq_false (fun e => q (by rw [e]))).symm | exact (decide_eq_true (GSpan.ext' e0 e1 e2 e3 e4 e5 e6 e7 e9 (ext_nth ge0 e10 (fun j hj => hev j (by omega))) (ext_nth gl0 e11 (fun j hj => h4 j (by omega))) e8.1 e8.2)).symm)))), rfl⟩, trivial⟩
                                · rw [hb15]
                                  have f2 : (nthE a.events i).name = (nthE b.events i).name := by have e := hb15; rw [str_beq] at e; simpa using e
                                  refine g_run rfl rfl (s_fieldAddr rfl rfl fa85_2 rfl) ?_
                                  refine g_run rfl rfl (s_load_imm rfl rfl rfl tA30 tS30 rfl rfl) ?_
                                  refine g_run rfl rfl (s_fieldAddr rfl rfl fa85_2 rfl) ?_
                                  refine g_run rfl rfl (s_load_imm rfl rfl rfl tA30 tS30 rfl rfl) ?_
                                  refine g_run rfl rfl (s_call1 (rsameAs_c _ _ (by omega)) rfl rfl) ?_
                                  refine g_run rfl rfl (s_not rfl rfl) ?_
                                  refine g_u (s_pick_f rfl rfl rfl) ?_
                                  refine g_nil ?_
                                  refine normal_thn ?_
                                  refine aw_cond rfl (fun hb16 => ?_) (fun hb16 => ?_)
                                  · skip
                                    have q : ¬ (nthE a.events i).attrs = (nthE b.events i).attrs := fun h => by have e := hb16; rw [h, sameAs_refl] at e; cases e
                                    refine aw_seq ?_
                                    refine aw_region ?_
                                    refine g_u (s_as_imm rfl rfl) ?_
                                    refine g_nil ?_
                                    refine normal_thn ?_
                                    refine aw_ret ?_
                                    refine ret_blk ?_
                                    refine ret_thn ?_
                                    refine ret_thn ?_
                                    refine ret_blk ?_
                                    refine ret_thn ?_
                                    exact ⟨⟨(rfl : toAV (Al.look _ _) = some _).trans (congrArg some (by (exact congrArg bv (by first | exact (decide_eq_false (fun e => q ⟨congrArg GSpan.code e, congrArg GSpan.note e⟩)).symm | exact (decide_eq_false (fun e => q (by rw [e]))).symm | exact (decide_eq_true (GSpan.ext' e0 e1 e2 e3 e4 e5 e6 e7 e9 (ext_nth ge0 e10 (fun j hj => hev j (by omega))) (ext_nth gl0 e11 (fun j hj => h4 j (by omega))) e8.1 e8.2)).symm)))), rfl⟩, trivial⟩
                                  · skip
                                    have f3 : (nthE a.events i).attrs = (nthE b.events i).attrs := (sameAs_iff _ _).1 (by have e := hb16; simpa using e)
                                    refine aw_skip ?_
                                    refine normal_blk ?_
                                    refine normal_thn ?_
                                    refine aw_region ?_
                                    refine g_u (s_mv_imm rfl rfl) ?_
                                    refine g_u (s_add rfl rfl rfl) ?_
                                    refine g_u (s_as_imm rfl rfl) ?_
                                    refine g_nil ?_
                                    refine normal_thn ?_
                                    refine ⟨i + 1, ⟨hi, fun j hj => by rcases Nat.lt_or_ge j i with h | h; exact h2 j h; rw [show j = i by omega]; exact GE.ext' f1 f2 f3⟩, ⟨rfl, rfl, rfl, rfl, look_int rfl (by rw [wrap64 (by omega) (by omega)]; rfl), trivial⟩, by (try dsimp only); omega⟩
                            · skip
                              have hin : i = a.events.length := by have := of_decide_eq_false hb13; (try simp only [List.length_map] at this); omega
                              have hev : ∀ j, j < a.events.length → nth a.events j ge0 = nth b.events j ge0 := fun j hj => h2 j (by omega)
                              refine aw_exit ?_
                              refine exit_thn ?_
                              refine exit_thn ?_
                              refine exit_blk ?_
                              refine normal_thn ?_
                              refine aw_seq ?_
                              refine aw_seq ?_
                              refine aw_region ?_
                              refine g_u (s_as_imm rfl rfl) ?_
                              refine g_nil ?_
                              refine normal_thn ?_
                              refine aw_block ?_
                              refine aw_loop' (fun j : Nat => [(2, .ptr 1002 0), (1002, .box 52 (.imm a.av)), (3, .ptr 1003 0), (1003, .box 52 (.imm b.av)), (8, .imm (iv (j : Int)))]) (fun j => (j ≤ a.links.length ∧ ∀ p, p < j → nth a.links p gl0 = nth b.links p gl0)) (fun j => a.links.length - j) (0) ?_ ⟨rfl, rfl, rfl, rfl, rfl, trivial⟩ ?_
                              · exact ⟨Nat.zero_le _, fun j h => absurd h (Nat.not_lt_zero _)⟩
                              · rintro j ⟨h3, h4⟩; (try dsimp only at h3 h4)
                                refine aw_seq ?_
                                refine aw_seq ?_
                                refine aw_region ?_
                                refine g_u (s_mv_imm rfl rfl) ?_
                                refine g_u (s_fieldAddr rfl rfl fa52_10 rfl) ?_
                                refine g_u (s_load_imm rfl rfl rfl tA48 tS48 rfl rfl) ?_
                                refine g_u (s_lenL rfl rfl Tryd.underlying48) ?_
                                refine g_u (s_ltI rfl rfl rfl) ?_
                                refine g_nil ?_
                                refine normal_thn ?_
                                refine aw_cond rfl (fun hb17 => ?_) (fun hb17 => ?_)
                                · skip
                                  have hj : j < a.links.length := by have := of_decide_eq_true hb17; (try simp only [List.length_map] at this); omega
                                  have hjb : j < b.links.length := by omega
                                  have hlx := sumBy_mem GL.wt (nthL_mem hj)
                                  have hlq : (nthL a.links j).wt = 1 + (nthL a.links j).state.size + wtAs (nthL a.links j).attrs := rfl
                                  refine aw_skip ?_
                                  refine normal_thn ?_
                                  refine aw_seq ?_
                                  refine aw_block ?_
                                  refine aw_seq ?_
                                  refine aw_draw mixed ?_
                                  refine g_u (s_fieldAddr rfl rfl fa52_10 rfl) ?_
                                  refine g_u (s_load_imm rfl rfl rfl tA48 tS48 rfl rfl) ?_
                                  refine g_u (s_mv_imm rfl rfl) ?_
                                  refine g_u (s_indexAddr rfl rfl rfl Tryd.underlying48 tS87 (by omega) (ixL hj)) ?_
                                  refine g_u (s_load_cp rfl rfl tA87 tS87 rfl (by first | exact getS_w (GL.width _) rfl | rfl)) ?_
                                  refine g_u (s_fieldAddr rfl rfl fa52_10 rfl) ?_
                                  refine g_u (s_load_imm rfl rfl rfl tA48 tS48 rfl rfl) ?_
                                  refine g_u (s_mv_imm rfl rfl) ?_
                                  refine g_u (s_indexAddr rfl rfl rfl Tryd.underlying48 tS87 (by omega) (ixL hjb)) ?_
                                  refine g_u (s_load_cp rfl rfl tA87 tS87 rfl (by first | exact getS_w (GL.width _) rfl | rfl)) ?_
                                  refine g_uG (s_alloc' 1009 rfl rfl rfl tZ87) rfl ?_
                                  refine g_uG (s_alloc' 1010 rfl rfl rfl tZ87) rfl ?_
                                  refine g_u (s_store_imm rfl rfl rfl tS87 (by first | exact beqW (GL.width _) | rfl) (by first | exact setS_w (z87_w.trans (GL.width _).symm) rfl | rfl)) ?_
                                  refine g_u (s_store_imm rfl rfl rfl tS87 (by first | exact beqW (GL.width _) | rfl) (by first | exact setS_w (z87_w.trans (GL.width _).symm) rfl | rfl)) ?_
                                  refine g_nil ⟨by kernel_rfl, ?_⟩
                                  refine normal_thn ?_
                                  refine aw_seq ?_
                                  refine aw_region ?_
                                  refine g_u (s_fieldAddr rfl rfl fa87_0 rfl) ?_
                                  refine g_u (s_load_agg rfl rfl rfl tA43 tS43 rfl rfl) ?_
                                  refine g_u (s_fieldAddr rfl rfl fa87_0 rfl) ?_
                                  refine g_u (s_load_agg rfl rfl rfl tA43 tS43 rfl rfl) ?_
                                  refine g_u (s_neA rfl rfl rfl eg43 rfl rfl (eq43 _ _)) ?_
                                  refine g_u (s_mv_imm rfl rfl) ?_
                                  refine g_case (t := 155) rfl ?_
                                  rintro (hb18 | hb18)
                                  · rw [hb18]
                                    have q : ¬ (nthL a.links j).trace = (nthL b.links j).trace := by have e := hb18; simpa using e
                                    refine g_skip rfl rfl rfl ?_
                                    refine g_skip rfl rfl rfl ?_
                                    refine g_skip rfl rfl rfl ?_
                                    refine g_skip rfl rfl rfl ?_
                                    refine g_skip rfl rfl rfl ?_
                                    refine g_u (s_pick_t rfl rfl rfl) ?_
                                    refine g_u (s_mv_imm rfl rfl) ?_
                                    refine g_skip rfl rfl rfl ?_
                                    refine g_skip rfl rfl rfl ?_
                                    refine g_skip rfl rfl rfl ?_
                                    refine g_skip rfl rfl rfl ?_
                                    refine g_skip rfl rfl rfl ?_
                                    refine g_u (s_pick_t rfl rfl rfl) ?_
                                    refine g_u (s_mv_imm rfl rfl) ?_
                                    refine g_skip rfl rfl rfl ?_
                                    refine g_skip rfl rfl rfl ?_
                                    refine g_skip rfl rfl rfl ?_
                                    refine g_skip rfl rfl rfl ?_
                                    refine g_skip rfl rfl rfl ?_
                                    refine g_skip rfl rfl rfl ?_
                                    refine g_u (s_pick_t rfl rfl rfl) ?_
                                    refine g_nil ?_
                                    refine normal_thn ?_
                                    refine aw_cond_true rfl ?_
                                    refine aw_seq ?_
                                    refine aw_region ?_
                                    refine g_u (s_as_imm rfl rfl) ?_
                                    refine g_nil ?_
                                    refine normal_thn ?_
                                    refine aw_ret ?_
                                    refine ret_blk ?_
                                    refine ret_thn ?_
                                    refine ret_thn ?_
                                    refine ret_blk ?_
                                    refine ret_thn ?_
                                    exact ⟨⟨(rfl : toAV (Al.look _ _) = some _).trans (congrArg some (by (exact congrArg bv (by first | exact (decide_eq_false (fun e => q ⟨congrArg GSpan.code e, congrArg GSpan.note e⟩)).symm | exact (decide_eq_false (fun e => q (by rw [e]))).symm | exact (decide_eq_true (GSpan.ext' e0 e1 e2 e3 e4 e5 e6 e7 e9 (ext_nth ge0 e10 (fun j hj => hev j (by omega))) (ext_nth gl0 e11 (fun j hj => h4 j (by omega))) e8.1 e8.2)).symm)))), rfl⟩, trivial⟩
                                  · rw [hb18]
                                    have g1 : (nthL a.links j).trace = (nthL b.links j).trace := by have e := hb18; simpa using e
                                    refine g_run rfl rfl (s_fieldAddr rfl rfl fa87_1 rfl) ?_
                                    refine g_run rfl rfl (s_load_imm rfl rfl rfl tA45 tS45 rfl rfl) ?_
                                    refine g_run rfl rfl (s_fieldAddr rfl rfl fa87_1 rfl) ?_
                                    refine g_run rfl rfl (s_load_imm rfl rfl rfl tA45 tS45 rfl rfl) ?_
                                    refine g_run rfl rfl (s_neA rfl rfl rfl eg45 rfl rfl (eq45 _ _)) ?_
                                    refine g_u (s_pick_f rfl rfl rfl) ?_
                                    refine g_u (s_mv_imm rfl rfl) ?_
                                    refine g_case (t := 162) rfl ?_
                                    rintro (hb19 | hb19)
                                    · rw [hb19]
                                      have q : ¬ (nthL a.links j).span = (nthL b.links j).span := by have e := hb19; simpa using e
                                      refine g_skip rfl rfl rfl ?_
                                      refine g_skip rfl rfl rfl ?_
                                      refine g_skip rfl rfl rfl ?_
                                      refine g_skip rfl rfl rfl ?_
                                      refine g_skip rfl rfl rfl ?_
                                      refine g_u (s_pick_t rfl rfl rfl) ?_
                                      refine g_u (s_mv_imm rfl rfl) ?_
                                      refine g_skip rfl rfl rfl ?_
                                      refine g_skip rfl rfl rfl ?_
                                      refine g_skip rfl rfl rfl ?_
                                      refine g_skip rfl rfl rfl ?_
                                      refine g_skip rfl rfl rfl ?_
                                      refine g_skip rfl rfl rfl ?_
                                      refine g_u (s_pick_t rfl rfl rfl) ?_
                                      refine g_nil ?_
                                      refine normal_thn ?_
                                      refine aw_cond_true rfl ?_
                                      refine aw_seq ?_
                                      refine aw_region ?_
                                      refine g_u (s_as_imm rfl rfl) ?_
                                      refine g_nil ?_
                                      refine normal_thn ?_
                                      refine aw_ret ?_
                                      refine ret_blk ?_
                                      refine ret_thn ?_
                                      refine ret_thn ?_
                                      refine ret_blk ?_
                                      refine ret_thn ?_
                                      exact ⟨⟨(rfl : toAV (Al.look _ _) = some _).trans (congrArg some (by (exact congrArg bv (by first | exact (decide_eq_false (fun e => q ⟨congrArg GSpan.code e, congrArg GSpan.note e⟩)).symm | exact (decide_eq_false (fun e => q (by rw [e]))).symm | exact (decide_eq_true (GSpan.ext' e0 e1 e2 e3 e4 e5 e6 e7 e9 (ext_nth ge0 e10 (fun j hj => hev j (by omega))) (ext_nth gl0 e11 (fun j hj => h4 j (by omega))) e8.1 e8.2)).symm)))), rfl⟩, trivial⟩
                                    · rw [hb19]
                                      have g2 : (nthL a.links j).span = (nthL b.links j).span := by have e := hb19; simpa using e
                                      refine g_run rfl rfl (s_fieldAddr rfl rfl fa87_2 rfl) ?_
                                      refine g_run rfl rfl (s_load_imm rfl rfl rfl tA9 tS9 rfl rfl) ?_
                                      refine g_run rfl rfl (s_fieldAddr rfl rfl fa87_2 rfl) ?_
                                      refine g_run rfl rfl (s_load_imm rfl rfl rfl tA9 tS9 rfl rfl) ?_
                                      refine g_run rfl rfl (s_neS rfl rfl rfl) ?_
                                      refine g_u (s_pick_f rfl rfl rfl) ?_
                                      refine g_u (s_mv_imm rfl rfl) ?_
                                      refine g_case (t := 169) rfl ?_
                                      rintro (hb20 | hb20)
                                      · rw [hb20]
                                        have q : ¬ (nthL a.links j).state = (nthL b.links j).state := by have e := hb20; rw [str_beq] at e; simpa using e
                                        refine g_skip rfl rfl rfl ?_
                                        refine g_skip rfl rfl rfl ?_
                                        refine g_skip rfl rfl rfl ?_
                                        refine g_skip rfl rfl rfl ?_
                                        refine g_skip rfl rfl rfl ?_
                                        refine g_skip rfl rfl rfl ?_
                                        refine g_u (s_pick_t rfl rfl rfl) ?_
                                        refine g_nil ?_
                                        refine normal_thn ?_
                                        refine aw_cond_true rfl ?_
                                        refine aw_seq ?_
                                        refine aw_region ?_
                                        refine g_u (s_as_imm rfl rfl) ?_
                                        refine g_nil ?_
                                        refine normal_thn ?_
                                        refine aw_ret ?_
                                        refine ret_blk ?_
                                        refine ret_thn ?_
                                        refine ret_thn ?_
                                        refine ret_blk ?_
                                        refine ret_thn ?_
                                        exact ⟨⟨(rfl : toAV (Al.look _ _) = some _).trans (congrArg some (by (exact congrArg bv (by first | exact (decide_eq_false (fun e => q ⟨congrArg GSpan.code e, congrArg GSpan.note e⟩)).symm | exact (decide_eq_false (fun e => q (by rw [e]))).symm | exact (decide_eq_true (GSpan.ext' e0 e1 e2 e3 e4 e5 e6 e7 e9 (ext_nth ge0 e10 (fun j hj => hev j (by omega))) (ext_nth gl0 e11 (fun j hj => h4 j (by omega))) e8.1 e8.2)).symm)))), rfl⟩, trivial⟩
                                      · rw [hb20]
                                        have g3 : (nthL a.links j).state = (nthL b.links j).state := by have e := hb20; rw [str_beq] at e; simpa using e
                                        refine g_run rfl rfl (s_fieldAddr rfl rfl fa87_3 rfl) ?_
                                        refine g_run rfl rfl (s_load_imm rfl rfl rfl tA30 tS30 rfl rfl) ?_
                                        refine g_run rfl rfl (s_fieldAddr rfl rfl fa87_3 rfl) ?_
                                        refine g_run rfl rfl (s_load_imm rfl rfl rfl tA30 tS30 rfl rfl) ?_
                                        refine g_run rfl rfl (s_call1 (rsameAs_c _ _ (by omega)) rfl rfl) ?_
                                        refine g_run rfl rfl (s_not rfl rfl) ?_
                                        refine g_u (s_pick_f rfl rfl rfl) ?_
                                        refine g_nil ?_
                                        refine normal_thn ?_
                                        refine aw_cond rfl (fun hb21 => ?_) (fun hb21 => ?_)
                                        · skip
                                          have q : ¬ (nthL a.links j).attrs = (nthL b.links j).attrs := fun h => by have e := hb21; rw [h, sameAs_refl] at e; cases e
                                          refine aw_seq ?_
                                          refine aw_region ?_
                                          refine g_u (s_as_imm rfl rfl) ?_
                                          refine g_nil ?_
                                          refine normal_thn ?_
                                          refine aw_ret ?_
                                          refine ret_blk ?_
                                          refine ret_thn ?_
                                          refine ret_thn ?_
                                          refine ret_blk ?_
                                          refine ret_thn ?_
                                          exact ⟨⟨(rfl : toAV (Al.look _ _) = some _).trans (congrArg some (by (exact congrArg bv (by first | exact (decide_eq_false (fun e => q ⟨congrArg GSpan.code e, congrArg GSpan.note e⟩)).symm | exact (decide_eq_false (fun e => q (by rw [e]))).symm | exact (decide_eq_true (GSpan.ext' e0 e1 e2 e3 e4 e5 e6 e7 e9 (ext_nth ge0 e10 (fun j hj => hev j (by omega))) (ext_nth gl0 e11 (fun j hj => h4 j (by omega))) e8.1 e8.2)).symm)))), rfl⟩, trivial⟩
                                        · skip
                                          have g4 : (nthL a.links j).attrs = (nthL b.links j).attrs := (sameAs_iff _ _).1 (by have e := hb21; simpa using e)
                                          refine aw_skip ?_
                                          refine normal_blk ?_
                                          refine normal_thn ?_
                                          refine aw_region ?_
                                          refine g_u (s_mv_imm rfl rfl) ?_
                                          refine g_u (s_add rfl rfl rfl) ?_
                                          refine g_u (s_as_imm rfl rfl) ?_
                                          refine g_nil ?_
                                          refine normal_thn ?_
                                          refine ⟨j + 1, ⟨hj, fun p hp => by rcases Nat.lt_or_ge p j with h | h; exact h4 p h; rw [show p = j by omega]; exact GL.ext' g1 g2 g3 g4⟩, ⟨rfl, rfl, rfl, rfl, look_int rfl (by rw [wrap64 (by omega) (by omega)]; rfl), trivial⟩, by (try dsimp only); omega⟩
                                · skip
                                  have hjn : j = a.links.length := by have := of_decide_eq_false hb17; (try simp only [List.length_map] at this); omega
                                  refine aw_exit ?_
                                  refine exit_thn ?_
                                  refine exit_thn ?_
                                  refine exit_blk ?_
                                  refine normal_thn ?_
                                  refine aw_seq ?_
                                  refine aw_region ?_
                                  refine g_u (s_as_imm rfl rfl) ?_
                                  refine g_nil ?_
                                  refine normal_thn ?_
                                  refine aw_ret ?_
                                  exact ⟨⟨(rfl : toAV (Al.look _ _) = some _).trans (congrArg some (by (exact congrArg bv (by first | exact (decide_eq_false (fun e => q ⟨congrArg GSpan.code e, congrArg GSpan.note e⟩)).symm | exact (decide_eq_false (fun e => q (by rw [e]))).symm | exact (decide_eq_true (GSpan.ext' e0 e1 e2 e3 e4 e5 e6 e7 e9 (ext_nth ge0 e10 (fun j hj => hev j (by omega))) (ext_nth gl0 e11 (fun j hj => h4 j (by omega))) e8.1 e8.2)).symm)))), rfl⟩, trivial⟩

set_option maxHeartbeats 2000000 in
theorem rsameCs_c (a b : List GScope) (hw : sumBy GScope.wt a ≤ 1000000000) : PCall Tryd.prog Γ0 35 [.sl 3 (a.map GScope.av), .sl 3 (b.map GScope.av)] [bv (decide (a = b))] := by
  have ql := sumBy_len GScope.wt (fun e => by unfold GScope.wt; omega) a
  refine pcall_of Tryd.func35 rfl Tryd.ntmps35 (by kernel_rfl) rfl fun w0 I0 G0 => ?_
  refine aw_seq ?_
  refine aw_region ?_
  refine g_u (s_as_imm rfl rfl) ?_
  refine g_nil ?_
  refine normal_thn ?_
  refine aw_seq ?_
  refine aw_seq ?_
  refine aw_region ?_
  refine g_u (s_mv_imm rfl rfl) ?_
  refine g_u (s_lenL rfl rfl Tryd.underlying31) ?_
  refine g_u (s_mv_imm rfl rfl) ?_
  refine g_u (s_lenL rfl rfl Tryd.underlying31) ?_
  refine g_u (s_neI rfl rfl rfl) ?_
  refine g_nil ?_
  refine normal_thn ?_
  refine aw_cond rfl (fun hb1 => ?_) (fun hb1 => ?_)
  · skip
    have q : ¬ a.length = b.length := by have e := bne_iff_ne.1 hb1; simp only [List.length_map] at e; omega
    refine aw_seq ?_
    refine aw_region ?_
    refine g_u (s_as_imm rfl rfl) ?_
    refine g_nil ?_
    refine normal_thn ?_
    refine aw_ret ?_
    refine ret_thn ?_
    exact ⟨⟨(rfl : toAV (Al.look _ _) = some _).trans (congrArg some (by (exact congrArg bv (by first | exact (decide_eq_false (fun e => q (by rw [e]))).symm | exact (decide_eq_true (ext_nth gc0 el (fun j hj => h2 j (by omega)))).symm)))), rfl⟩, trivial⟩
  · skip
    have el : a.length = b.length := by have e := bne_eq_false_iff_eq.1 hb1; simp only [List.length_map] at e; omega
    refine aw_skip ?_
    refine normal_thn ?_
    refine aw_seq ?_
    refine aw_seq ?_
    refine aw_region ?_
    refine g_u (s_as_imm rfl rfl) ?_
    refine g_nil ?_
    refine normal_thn ?_
    refine aw_block ?_
    refine aw_loop' (fun i : Nat => [(0, .imm (.sl 3 (a.map GScope.av))), (1, .imm (.sl 3 (b.map GScope.av))), (5, .imm (iv (i : Int)))]) (fun i => (i ≤ a.length ∧ ∀ p, p < i → nth a p gc0 = nth b p gc0)) (fun i => a.length - i) (0) ?_ ⟨rfl, rfl, rfl, trivial⟩ ?_
    · exact ⟨Nat.zero_le _, fun j h => absurd h (Nat.not_lt_zero _)⟩
    · rintro i ⟨h1, h2⟩; (try dsimp only at h1 h2)
      refine aw_seq ?_
      refine aw_seq ?_
      refine aw_region ?_
      refine g_u (s_mv_imm rfl rfl) ?_
      refine g_u (s_mv_imm rfl rfl) ?_
      refine g_u (s_lenL rfl rfl Tryd.underlying31) ?_
      refine g_u (s_ltI rfl rfl rfl) ?_
      refine g_nil ?_
      refine normal_thn ?_
      refine aw_cond rfl (fun hb2 => ?_) (fun hb2 => ?_)
      · skip
        have hi : i < a.length := by have := of_decide_eq_true hb2; (try simp only [List.length_map] at this); omega
        have hib : i < b.length := by omega
        have hcx := sumBy_mem GScope.wt (nthC_mem hi)
        have hcq : (nthC a i).wt = 1 + (nthC a i).name.size + (nthC a i).version.size + sumBy GSpan.wt (nthC a i).spans := rfl
        have hsl := sumBy_len GSpan.wt (fun e => by unfold GSpan.wt; omega) (nthC a i).spans
        refine aw_skip ?_
        refine normal_thn ?_
        refine aw_seq ?_
        refine aw_block ?_
        refine aw_seq ?_
        refine aw_seq ?_
        refine aw_draw mixed ?_
        refine g_u (s_mv_imm rfl rfl) ?_
        refine g_u (s_mv_imm rfl rfl) ?_
        refine g_u (s_indexAddr rfl rfl rfl Tryd.underlying31 tS67 (by omega) (ixC hi)) ?_
        refine g_u (s_fieldAddr_cp rfl rfl fa67_0 rfl rfl) ?_
        refine g_u (s_load_cp rfl rfl tA9 tS9 rfl rfl) ?_
        refine g_u (s_mv_imm rfl rfl) ?_
        refine g_u (s_mv_imm rfl rfl) ?_
        refine g_u (s_indexAddr rfl rfl rfl Tryd.underlying31 tS67 (by omega) (ixC hib)) ?_
        refine g_u (s_fieldAddr_cp rfl rfl fa67_0 rfl rfl) ?_
        refine g_u (s_load_cp rfl rfl tA9 tS9 rfl rfl) ?_
        refine g_u (s_neS rfl rfl rfl) ?_
        refine g_u (s_mv_imm rfl rfl) ?_
        refine g_case (t := 29) rfl ?_
        rintro (hb3 | hb3)
        · rw [hb3]
          have q : ¬ (nthC a i).name = (nthC b i).name := by have e := hb3; rw [str_beq] at e; simpa using e
          refine g_skip rfl rfl rfl ?_
          refine g_skip rfl rfl rfl ?_
          refine g_skip rfl rfl rfl ?_
          refine g_skip rfl rfl rfl ?_
          refine g_skip rfl rfl rfl ?_
          refine g_skip rfl rfl rfl ?_
          refine g_skip rfl rfl rfl ?_
          refine g_skip rfl rfl rfl ?_
          refine g_skip rfl rfl rfl ?_
          refine g_skip rfl rfl rfl ?_
          refine g_skip rfl rfl rfl ?_
          refine g_u (s_pick_t rfl rfl rfl) ?_
          refine g_u (s_mv_imm rfl rfl) ?_
          refine g_skip rfl rfl rfl ?_
          refine g_skip rfl rfl rfl ?_
          refine g_skip rfl rfl rfl ?_
          refine g_skip rfl rfl rfl ?_
          refine g_skip rfl rfl rfl ?_
          refine g_skip rfl rfl rfl ?_
          refine g_skip rfl rfl rfl ?_
          refine g_skip rfl rfl rfl ?_
          refine g_skip rfl rfl rfl ?_
          refine g_skip rfl rfl rfl ?_
          refine g_skip rfl rfl rfl ?_
          refine g_skip rfl rfl rfl ?_
          refine g_skip rfl rfl rfl ?_
          refine g_u (s_pick_t rfl rfl rfl) ?_
          refine g_nil ⟨by kernel_rfl, ?_⟩
          refine normal_thn ?_
          refine aw_cond_true rfl ?_
          refine aw_seq ?_
          refine aw_region ?_
          refine g_u (s_as_imm rfl rfl) ?_
          refine g_nil ?_
          refine normal_thn ?_
          refine aw_ret ?_
          refine ret_thn ?_
          refine ret_blk ?_
          refine ret_thn ?_
          refine ret_thn ?_
          refine ret_blk ?_
          refine ret_thn ?_
          exact ⟨⟨(rfl : toAV (Al.look _ _) = some _).trans (congrArg some (by (exact congrArg bv (by first | exact (decide_eq_false (fun e => q (by rw [e]))).symm | exact (decide_eq_true (ext_nth gc0 el (fun j hj => h2 j (by omega)))).symm)))), rfl⟩, trivial⟩
        · rw [hb3]
          have f1 : (nthC a i).name = (nthC b i).name := by have e := hb3; rw [str_beq] at e; simpa using e
          refine g_run rfl rfl (s_mv_imm rfl rfl) ?_
          refine g_run rfl rfl (s_mv_imm rfl rfl) ?_
          refine g_run rfl rfl (s_indexAddr rfl rfl rfl Tryd.underlying31 tS67 (by omega) (ixC hi)) ?_
          refine g_run rfl rfl (s_fieldAddr_cp rfl rfl fa67_1 rfl rfl) ?_
          refine g_run rfl rfl (s_load_cp rfl rfl tA9 tS9 rfl rfl) ?_
          refine g_run rfl rfl (s_mv_imm rfl rfl) ?_
          refine g_run rfl rfl (s_mv_imm rfl rfl) ?_
          refine g_run rfl rfl (s_indexAddr rfl rfl rfl Tryd.underlying31 tS67 (by omega) (ixC hib)) ?_
          refine g_run rfl rfl (s_fieldAddr_cp rfl rfl fa67_1 rfl rfl) ?_
          refine g_run rfl rfl (s_load_cp rfl rfl tA9 tS9 rfl rfl) ?_
          refine g_run rfl rfl (s_neS rfl rfl rfl) ?_
          refine g_u (s_pick_f rfl rfl rfl) ?_
          refine g_u (s_mv_imm rfl rfl) ?_
          refine g_case (t := 42) rfl ?_
          rintro (hb4 | hb4)
          · rw [hb4]
            have q : ¬ (nthC a i).version = (nthC b i).version := by have e := hb4; rw [str_beq] at e; simpa using e
            refine g_skip rfl rfl rfl ?_
            refine g_skip rfl rfl rfl ?_
            refine g_skip rfl rfl rfl ?_
            refine g_skip rfl rfl rfl ?_
            refine g_skip rfl rfl rfl ?_
            refine g_skip rfl rfl rfl ?_
            refine g_skip rfl rfl rfl ?_
            refine g_skip rfl rfl rfl ?_
            refine g_skip rfl rfl rfl ?_
            refine g_skip rfl rfl rfl ?_
            refine g_skip rfl rfl rfl ?_
            refine g_skip rfl rfl rfl ?_
            refine g_skip rfl rfl rfl ?_
            refine g_u (s_pick_t rfl rfl rfl) ?_
            refine g_nil ⟨by kernel_rfl, ?_⟩
            refine normal_thn ?_
            refine aw_cond_true rfl ?_
            refine aw_seq ?_
            refine aw_region ?_
            refine g_u (s_as_imm rfl rfl) ?_
            refine g_nil ?_
            refine normal_thn ?_
            refine aw_ret ?_
            refine ret_thn ?_
            refine ret_blk ?_
            refine ret_thn ?_
            refine ret_thn ?_
            refine ret_blk ?_
            refine ret_thn ?_
            exact ⟨⟨(rfl : toAV (Al.look _ _) = some _).trans (congrArg some (by (exact congrArg bv (by first | exact (decide_eq_false (fun e => q (by rw [e]))).symm | exact (decide_eq_true (ext_nth gc0 el (fun j hj => h2 j (by omega)))).symm)))), rfl⟩, trivial⟩
          · rw [hb4]
            have f2 : (nthC a i).version = (nthC b i).version := by have e := hb4; rw [str_beq] at e; simpa using e
            refine g_run rfl rfl (s_mv_imm rfl rfl) ?_
            refine g_run rfl rfl (s_mv_imm rfl rfl) ?_
            refine g_run rfl rfl (s_indexAddr rfl rfl rfl Tryd.underlying31 tS67 (by omega) (ixC hi)) ?_
            refine g_run rfl rfl (s_fieldAddr_cp rfl rfl fa67_2 rfl rfl) ?_
            refine g_run rfl rfl (s_load_cp rfl rfl tA61 tS61 rfl rfl) ?_
            refine g_run rfl rfl (s_lenL rfl rfl Tryd.underlying61) ?_
            refine g_run rfl rfl (s_mv_imm rfl rfl) ?_
            refine g_run rfl rfl (s_mv_imm rfl rfl) ?_
            refine g_run rfl rfl (s_indexAddr rfl rfl rfl Tryd.underlying31 tS67 (by omega) (ixC hib)) ?_
            refine g_run rfl rfl (s_fieldAddr_cp rfl rfl fa67_2 rfl rfl) ?_
            refine g_run rfl rfl (s_load_cp rfl rfl tA61 tS61 rfl rfl) ?_
            refine g_run rfl rfl (s_lenL rfl rfl Tryd.underlying61) ?_
            refine g_run rfl rfl (s_neI rfl rfl rfl) ?_
            refine g_u (s_pick_f rfl rfl rfl) ?_
            refine g_nil ⟨by kernel_rfl, ?_⟩
            refine normal_thn ?_
            refine aw_cond rfl (fun hb5 => ?_) (fun hb5 => ?_)
            · skip
              have q : ¬ (nthC a i).spans.length = (nthC b i).spans.length := by have e := bne_iff_ne.1 hb5; simp only [List.length_map] at e; omega
              refine aw_seq ?_
              refine aw_region ?_
              refine g_u (s_as_imm rfl rfl) ?_
              refine g_nil ?_
              refine normal_thn ?_
              refine aw_ret ?_
              refine ret_thn ?_
              refine ret_blk ?_
              refine ret_thn ?_
              refine ret_thn ?_
              refine ret_blk ?_
              refine ret_thn ?_
              exact ⟨⟨(rfl : toAV (Al.look _ _) = some _).trans (congrArg some (by (exact congrArg bv (by first | exact (decide_eq_false (fun e => q (by rw [e]))).symm | exact (decide_eq_true (ext_nth gc0 el (fun j hj => h2 j (by omega)))).symm)))), rfl⟩, trivial⟩
            · skip
              have f3 : (nthC a i).spans.length = (nthC b i).spans.length := by have e := bne_eq_false_iff_eq.1 hb5; simp only [List.length_map] at e; omega
              refine aw_skip ?_
              refine normal_thn ?_
              refine aw_seq ?_
              refine aw_region ?_
              refine g_u (s_as_imm rfl rfl) ?_
              refine g_nil ?_
              refine normal_thn ?_
              refine aw_block ?_
              refine aw_loop' (fun m : Nat => [(0, .imm (.sl 3 (a.map GScope.av))), (1, .imm (.sl 3 (b.map GScope.av))), (5, .imm (iv (i : Int))), (6, .imm (iv (m : Int)))]) (fun m => (m ≤ (nthC a i).spans.length ∧ ∀ p, p < m → nth (nthC a i).spans p gs0 = nth (nthC b i).spans p gs0)) (fun m => (nthC a i).spans.length - m) (0) ?_ ⟨rfl, rfl, rfl, rfl, trivial⟩ ?_
              · exact ⟨Nat.zero_le _, fun j h => absurd h (Nat.not_lt_zero _)⟩
              · rintro m ⟨h3, h4⟩; (try dsimp only at h3 h4)
                refine aw_seq ?_
                refine aw_seq ?_
                refine aw_region ?_
                refine g_u (s_mv_imm rfl rfl) ?_
                refine g_u (s_mv_imm rfl rfl) ?_
                refine g_u (s_mv_imm rfl rfl) ?_
                refine g_u (s_indexAddr rfl rfl rfl Tryd.underlying31 tS67 (by omega) (ixC hi)) ?_
                refine g_u (s_fieldAddr_cp rfl rfl fa67_2 rfl rfl) ?_
                refine g_u (s_load_cp rfl rfl tA61 tS61 rfl rfl) ?_
                refine g_u (s_lenL rfl rfl Tryd.underlying61) ?_
                refine g_u (s_ltI rfl rfl rfl) ?_
                refine g_nil ?_
                refine normal_thn ?_
                refine aw_cond rfl (fun hb6 => ?_) (fun hb6 => ?_)
                · skip
                  have hm : m < (nthC a i).spans.length := by have := of_decide_eq_true hb6; (try simp only [List.length_map] at this); omega
                  have hmb : m < (nthC b i).spans.length := by omega
                  have hsx := sumBy_mem GSpan.wt (nthS_mem hm)
                  refine aw_skip ?_
                  refine normal_thn ?_
                  refine aw_seq ?_
                  refine aw_block ?_
                  refine aw_seq ?_
                  refine aw_draw mixed ?_
                  refine g_u (s_mv_imm rfl rfl) ?_
                  refine g_u (s_mv_imm rfl rfl) ?_
                  refine g_u (s_indexAddr rfl rfl rfl Tryd.underlying31 tS67 (by omega) (ixC hi)) ?_
                  refine g_u (s_fieldAddr_cp rfl rfl fa67_2 rfl rfl) ?_
                  refine g_u (s_load_cp rfl rfl tA61 tS61 rfl rfl) ?_
                  refine g_u (s_mv_imm rfl rfl) ?_
                  refine g_u (s_indexAddr rfl rfl rfl Tryd.underlying61 tS52 (by omega) (ixS hm)) ?_
                  refine g_u (s_load_cp rfl rfl tA52 tS52 rfl (by first | exact getS_w (GSpan.width _) rfl | rfl)) ?_
                  refine g_u (s_mv_imm rfl rfl) ?_
                  refine g_u (s_mv_imm rfl rfl) ?_
                  refine g_u (s_indexAddr rfl rfl rfl Tryd.underlying31 tS67 (by omega) (ixC hib)) ?_
                  refine g_u (s_fieldAddr_cp rfl rfl fa67_2 rfl rfl) ?_
                  refine g_u (s_load_cp rfl rfl tA61 tS61 rfl rfl) ?_
                  refine g_u (s_mv_imm rfl rfl) ?_
                  refine g_u (s_indexAddr rfl rfl rfl Tryd.underlying61 tS52 (by omega) (ixS hmb)) ?_
                  refine g_u (s_load_cp rfl rfl tA52 tS52 rfl (by first | exact getS_w (GSpan.width _) rfl | rfl)) ?_
                  refine g_u (s_call1 (rsameS_c _ _ (by omega)) rfl rfl) ?_
                  refine g_u (s_not rfl rfl) ?_
                  refine g_nil ⟨by kernel_rfl, ?_⟩
                  refine normal_thn ?_
                  refine aw_cond rfl (fun hb7 => ?_) (fun hb7 => ?_)
                  · skip
                    have q : ¬ (nthS (nthC a i).spans m) = (nthS (nthC b i).spans m) := fun h => by have e := hb7; rw [decide_eq_true h] at e; cases e
                    refine aw_seq ?_
                    refine aw_region ?_
                    refine g_u (s_as_imm rfl rfl) ?_
                    refine g_nil ?_
                    refine normal_thn ?_
                    refine aw_ret ?_
                    refine ret_blk ?_
                    refine ret_thn ?_
                    refine ret_thn ?_
                    refine ret_blk ?_
                    refine ret_blk ?_
                    refine ret_thn ?_
                    refine ret_thn ?_
                    refine ret_blk ?_
                    refine ret_thn ?_
                    exact ⟨⟨(rfl : toAV (Al.look _ _) = some _).trans (congrArg some (by (exact congrArg bv (by first | exact (decide_eq_false (fun e => q (by rw [e]))).symm | exact (decide_eq_true (ext_nth gc0 el (fun j hj => h2 j (by omega)))).symm)))), rfl⟩, trivial⟩
                  · skip
                    have f4 : (nthS (nthC a i).spans m) = (nthS (nthC b i).spans m) := by have e := hb7; simpa using e
                    refine aw_skip ?_
                    refine normal_blk ?_
                    refine normal_thn ?_
                    refine aw_region ?_
                    refine g_u (s_mv_imm rfl rfl) ?_
                    refine g_u (s_add rfl rfl rfl) ?_
                    refine g_u (s_as_imm rfl rfl) ?_
                    refine g_nil ?_
                    refine normal_thn ?_
                    refine ⟨m + 1, ⟨hm, fun p hp => by rcases Nat.lt_or_ge p m with h | h; exact h4 p h; rw [show p = m by omega]; exact f4⟩, ⟨rfl, rfl, rfl, look_int rfl (by rw [wrap64 (by omega) (by omega)]; rfl), trivial⟩, by (try dsimp only); omega⟩
                · skip
                  have hmn : m = (nthC a i).spans.length := by have := of_decide_eq_false hb6; (try simp only [List.length_map] at this); omega
                  refine aw_exit ?_
                  refine exit_thn ?_
                  refine exit_thn ?_
                  refine exit_blk ?_
                  refine normal_blk ?_
                  refine normal_thn ?_
                  refine aw_region ?_
                  refine g_u (s_mv_imm rfl rfl) ?_
                  refine g_u (s_add rfl rfl rfl) ?_
                  refine g_u (s_as_imm rfl rfl) ?_
                  refine g_nil ?_
                  refine normal_thn ?_
                  refine ⟨i + 1, ⟨hi, fun j hj => by rcases Nat.lt_or_ge j i with h | h; exact h2 j h; rw [show j = i by omega]; exact GScope.ext' f1 f2 (show (nthC a i).spans = (nthC b i).spans from ext_nth gs0 f3 (fun j hj => h4 j (by omega)))⟩, ⟨rfl, rfl, look_int rfl (by rw [wrap64 (by omega) (by omega)]; rfl), trivial⟩, by (try dsimp only); omega⟩
      · skip
        have hin : i = a.length := by have := of_decide_eq_false hb2; (try simp only [List.length_map] at this); omega
        refine aw_exit ?_
        refine exit_thn ?_
        refine exit_thn ?_
        refine exit_blk ?_
        refine normal_thn ?_
        refine aw_seq ?_
        refine aw_region ?_
        refine g_u (s_as_imm rfl rfl) ?_
        refine g_nil ?_
        refine normal_thn ?_
        refine aw_ret ?_
        exact ⟨⟨(rfl : toAV (Al.look _ _) = some _).trans (congrArg some (by (exact congrArg bv (by first | exact (decide_eq_false (fun e => q (by rw [e]))).symm | exact (decide_eq_true (ext_nth gc0 el (fun j hj => h2 j (by omega)))).symm)))), rfl⟩, trivial⟩

set_option maxHeartbeats 2000000 in
theorem rsameB_c (a b : List GRes) (hw : wtB a ≤ 1000000000) : PCall Tryd.prog Γ0 11 [batchAv a, batchAv b] [bv (decide (a = b))] := by
  have ql := sumBy_len GRes.wt (fun e => by unfold GRes.wt; omega) a
  have qw : wtB a = sumBy GRes.wt a := rfl
  refine pcall_of Tryd.func11 rfl Tryd.ntmps11 (by kernel_rfl) rfl fun w0 I0 G0 => ?_
  refine aw_seq ?_
  refine aw_region ?_
  refine g_uG (s_box_imm 1002 rfl rfl rfl rfl) rfl ?_
  refine g_uG (s_box_imm 1003 rfl rfl rfl rfl) rfl ?_
  refine g_u (s_as_imm rfl rfl) ?_
  refine g_nil ?_
  refine normal_thn ?_
  refine aw_seq ?_
  refine aw_seq ?_
  refine aw_region ?_
  refine g_u (s_fieldAddr rfl rfl fa24_0 rfl) ?_
  refine g_u (s_load_imm rfl rfl rfl tA22 tS22 rfl rfl) ?_
  refine g_u (s_lenL rfl rfl Tryd.underlying22) ?_
  refine g_u (s_fieldAddr rfl rfl fa24_0 rfl) ?_
  refine g_u (s_load_imm rfl rfl rfl tA22 tS22 rfl rfl) ?_
  refine g_u (s_lenL rfl rfl Tryd.underlying22) ?_
  refine g_u (s_neI rfl rfl rfl) ?_
  refine g_nil ?_
  refine normal_thn ?_
  refine aw_cond rfl (fun hb1 => ?_) (fun hb1 => ?_)
  · skip
    have q : ¬ a.length = b.length := by have e := bne_iff_ne.1 hb1; simp only [List.length_map] at e; omega
    refine aw_seq ?_
    refine aw_region ?_
    refine g_u (s_as_imm rfl rfl) ?_
    refine g_nil ?_
    refine normal_thn ?_
    refine aw_ret ?_
    refine ret_thn ?_
    exact ⟨⟨(rfl : toAV (Al.look _ _) = some _).trans (congrArg some (by (exact congrArg bv (by first | exact (decide_eq_false (fun e => q (by rw [e]))).symm | exact (decide_eq_true (ext_nth gr0 el (fun j hj => h2 j (by omega)))).symm)))), rfl⟩, trivial⟩
  · skip
    have el : a.length = b.length := by have e := bne_eq_false_iff_eq.1 hb1; simp only [List.length_map] at e; omega
    refine aw_skip ?_
    refine normal_thn ?_
    refine aw_seq ?_
    refine aw_seq ?_
    refine aw_region ?_
    refine g_u (s_as_imm rfl rfl) ?_
    refine g_nil ?_
    refine normal_thn ?_
    refine aw_block ?_
    refine aw_loop' (fun i : Nat => [(2, .ptr 1002 0), (1002, .box 24 (.imm (batchAv a))), (3, .ptr 1003 0), (1003, .box 24 (.imm (batchAv b))), (5, .imm (iv (i : Int)))]) (fun i => (i ≤ a.length ∧ ∀ p, p < i → nth a p gr0 = nth b p gr0)) (fun i => a.length - i) (0) ?_ ⟨rfl, rfl, rfl, rfl, rfl, trivial⟩ ?_
    · exact ⟨Nat.zero_le _, fun j h => absurd h (Nat.not_lt_zero _)⟩
    · rintro i ⟨h1, h2⟩; (try dsimp only at h1 h2)
      refine aw_seq ?_
      refine aw_seq ?_
      refine aw_region ?_
      refine g_u (s_mv_imm rfl rfl) ?_
      refine g_u (s_fieldAddr rfl rfl fa24_0 rfl) ?_
      refine g_u (s_load_imm rfl rfl rfl tA22 tS22 rfl rfl) ?_
      refine g_u (s_lenL rfl rfl Tryd.underlying22) ?_
      refine g_u (s_ltI rfl rfl rfl) ?_
      refine g_nil ?_
      refine normal_thn ?_
      refine aw_cond rfl (fun hb2 => ?_) (fun hb2 => ?_)
      · skip
        have hi : i < a.length := by have := of_decide_eq_true hb2; (try simp only [List.length_map] at this); omega
        have hib : i < b.length := by omega
        have hrx := sumBy_mem GRes.wt (nthR_mem hi)
        have hrq : (nthR a i).wt = 1 + wtAs (nthR a i).attrs + sumBy GScope.wt (nthR a i).scopes := rfl
        refine aw_skip ?_
        refine normal_thn ?_
        refine aw_seq ?_
        refine aw_block ?_
        refine aw_seq ?_
        refine aw_draw mixed ?_
        refine g_u (s_fieldAddr rfl rfl fa24_0 rfl) ?_
        refine g_u (s_load_imm rfl rfl rfl tA22 tS22 rfl rfl) ?_
        refine g_u (s_mv_imm rfl rfl) ?_
        refine g_u (s_indexAddr rfl rfl rfl Tryd.underlying22 tS33 (by omega) (ixR hi)) ?_
        refine g_u (s_fieldAddr_cp rfl rfl fa33_0 rfl rfl) ?_
        refine g_u (s_load_cp rfl rfl tA30 tS30 rfl rfl) ?_
        refine g_u (s_fieldAddr rfl rfl fa24_0 rfl) ?_
        refine g_u (s_load_imm rfl rfl rfl tA22 tS22 rfl rfl) ?_
        refine g_u (s_mv_imm rfl rfl) ?_
        refine g_u (s_indexAddr rfl rfl rfl Tryd.underlying22 tS33 (by omega) (ixR hib)) ?_
        refine g_u (s_fieldAddr_cp rfl rfl fa33_0 rfl rfl) ?_
        refine g_u (s_load_cp rfl rfl tA30 tS30 rfl rfl) ?_
        refine g_u (s_call1 (rsameAs_c _ _ (by omega)) rfl rfl) ?_
        refine g_u (s_not rfl rfl) ?_
        refine g_u (s_mv_imm rfl rfl) ?_
        refine g_case (t := 34) rfl ?_
        rintro (hb3 | hb3)
        · rw [hb3]
          have q : ¬ (nthR a i).attrs = (nthR b i).attrs := fun h => by have e := hb3; rw [h, sameAs_refl] at e; cases e
          refine g_skip rfl rfl rfl ?_
          refine g_skip rfl rfl rfl ?_
          refine g_skip rfl rfl rfl ?_
          refine g_skip rfl rfl rfl ?_
          refine g_skip rfl rfl rfl ?_
          refine g_skip rfl rfl rfl ?_
          refine g_skip rfl rfl rfl ?_
          refine g_skip rfl rfl rfl ?_
          refine g_skip rfl rfl rfl ?_
          refine g_skip rfl rfl rfl ?_
          refine g_skip rfl rfl rfl ?_
          refine g_skip rfl rfl rfl ?_
          refine g_skip rfl rfl rfl ?_
          refine g_skip rfl rfl rfl ?_
          refine g_u (s_pick_t rfl rfl rfl) ?_
          refine g_nil ⟨by kernel_rfl, ?_⟩
          refine normal_thn ?_
          refine aw_cond_true rfl ?_
          refine aw_seq ?_
          refine aw_region ?_
          refine g_u (s_as_imm rfl rfl) ?_
          refine g_nil ?_
          refine normal_thn ?_
          refine aw_ret ?_
          refine ret_blk ?_
          refine ret_thn ?_
          refine ret_thn ?_
          refine ret_blk ?_
          refine ret_thn ?_
          exact ⟨⟨(rfl : toAV (Al.look _ _) = some _).trans (congrArg some (by (exact congrArg bv (by first | exact (decide_eq_false (fun e => q (by rw [e]))).symm | exact (decide_eq_true (ext_nth gr0 el (fun j hj => h2 j (by omega)))).symm)))), rfl⟩, trivial⟩
        · rw [hb3]
          have f1 : (nthR a i).attrs = (nthR b i).attrs := (sameAs_iff _ _).1 (by have e := hb3; simpa using e)
          refine g_run rfl rfl (s_fieldAddr rfl rfl fa24_0 rfl) ?_
          refine g_run rfl rfl (s_load_imm rfl rfl rfl tA22 tS22 rfl rfl) ?_
          refine g_run rfl rfl (s_mv_imm rfl rfl) ?_
          refine g_run rfl rfl (s_indexAddr rfl rfl rfl Tryd.underlying22 tS33 (by omega) (ixR hi)) ?_
          refine g_run rfl rfl (s_fieldAddr_cp rfl rfl fa33_1 rfl rfl) ?_
          refine g_run rfl rfl (s_load_cp rfl rfl tA31 tS31 rfl rfl) ?_
          refine g_run rfl rfl (s_fieldAddr rfl rfl fa24_0 rfl) ?_
          refine g_run rfl rfl (s_load_imm rfl rfl rfl tA22 tS22 rfl rfl) ?_
          refine g_run rfl rfl (s_mv_imm rfl rfl) ?_
          refine g_run rfl rfl (s_indexAddr rfl rfl rfl Tryd.underlying22 tS33 (by omega) (ixR hib)) ?_
          refine g_run rfl rfl (s_fieldAddr_cp rfl rfl fa33_1 rfl rfl) ?_
          refine g_run rfl rfl (s_load_cp rfl rfl tA31 tS31 rfl rfl) ?_
          refine g_run rfl rfl (s_call1 (rsameCs_c _ _ (by omega)) rfl rfl) ?_
          refine g_run rfl rfl (s_not rfl rfl) ?_
          refine g_u (s_pick_f rfl rfl rfl) ?_
          refine g_nil ⟨by kernel_rfl, ?_⟩
          refine normal_thn ?_
          refine aw_cond rfl (fun hb4 => ?_) (fun hb4 => ?_)
          · skip
            have q : ¬ (nthR a i).scopes = (nthR b i).scopes := fun h => by have e := hb4; rw [decide_eq_true h] at e; cases e
            refine aw_seq ?_
            refine aw_region ?_
            refine g_u (s_as_imm rfl rfl) ?_
            refine g_nil ?_
            refine normal_thn ?_
            refine aw_ret ?_
            refine ret_blk ?_
            refine ret_thn ?_
            refine ret_thn ?_
            refine ret_blk ?_
            refine ret_thn ?_
            exact ⟨⟨(rfl : toAV (Al.look _ _) = some _).trans (congrArg some (by (exact congrArg bv (by first | exact (decide_eq_false (fun e => q (by rw [e]))).symm | exact (decide_eq_true (ext_nth gr0 el (fun j hj => h2 j (by omega)))).symm)))), rfl⟩, trivial⟩
          · skip
            have f2 : (nthR a i).scopes = (nthR b i).scopes := by have e := hb4; simpa using e
            refine aw_skip ?_
            refine normal_blk ?_
            refine normal_thn ?_
            refine aw_region ?_
            refine g_u (s_mv_imm rfl rfl) ?_
            refine g_u (s_add rfl rfl rfl) ?_
            refine g_u (s_as_imm rfl rfl) ?_
            refine g_nil ?_
            refine normal_thn ?_
            refine ⟨i + 1, ⟨hi, fun j hj => by rcases Nat.lt_or_ge j i with h | h; exact h2 j h; rw [show j = i by omega]; exact GRes.ext' f1 f2⟩, ⟨rfl, rfl, rfl, rfl, look_int rfl (by rw [wrap64 (by omega) (by omega)]; rfl), trivial⟩, by (try dsimp only); omega⟩
      · skip
        have hin : i = a.length := by have := of_decide_eq_false hb2; (try simp only [List.length_map] at this); omega
        refine aw_exit ?_
        refine exit_thn ?_
        refine exit_thn ?_
        refine exit_blk ?_
        refine normal_thn ?_
        refine aw_seq ?_
        refine aw_region ?_
        refine g_u (s_as_imm rfl rfl) ?_
        refine g_nil ?_
        refine normal_thn ?_
        refine aw_ret ?_
        exact ⟨⟨(rfl : toAV (Al.look _ _) = some _).trans (congrArg some (by (exact congrArg bv (by first | exact (decide_eq_false (fun e => q (by rw [e]))).symm | exact (decide_eq_true (ext_nth gr0 el (fun j hj => h2 j (by omega)))).symm)))), rfl⟩, trivial⟩

end Go.Proofs

namespace Go.Al
open Go.RowKit
/-- Bytes, one by one, are an array of bytes. -/
theorem up_bytes {l : List UInt8} {n : Nat} (h : l.length = n) : Up (.agg (bytesL l)) (.arr n l) := by
  have hw : ∀ x ∈ bytesL l, x.width = 1 := W1.bytes l
  refine ⟨rfl, ?_, fun w I c r => ?_⟩
  · have key : ∀ l : List UInt8, AV.widths (bytesL l) = l.length := by
      intro l
      induction l with
      | nil => rfl
      | cons b l ih => simp only [bytesL, List.map_cons, AV.widths, List.length_cons] at ih ⊢; rw [ih]; simp only [AV.width, byteV, Value.cells]; show 1 + _ = _; omega
    show n = AV.widths (bytesL l)
    rw [key, h]
  · simp only [RepC] at r ⊢
    exact ⟨repE_bytes_inv l c ((repCs_E (n := 1) hw).1 r), h⟩
end Go.Al

namespace Go.Proofs
open Go Go.Al
set_option maxRecDepth 10000
theorem tV43 : IsZero Tryd.prog 43 (.agg (List.replicate 16 (.v (.int .u8 0)))) := ⟨.agg #[.int .u8 0, .int .u8 0, .int .u8 0, .int .u8 0, .int .u8 0, .int .u8 0, .int .u8 0, .int .u8 0, .int .u8 0, .int .u8 0, .int .u8 0, .int .u8 0, .int .u8 0, .int .u8 0, .int .u8 0, .int .u8 0], by kernel_rfl, by kernel_rfl⟩
theorem tV45 : IsZero Tryd.prog 45 (.agg (List.replicate 8 (.v (.int .u8 0)))) := ⟨.agg #[.int .u8 0, .int .u8 0, .int .u8 0, .int .u8 0, .int .u8 0, .int .u8 0, .int .u8 0, .int .u8 0], by kernel_rfl, by kernel_rfl⟩
end Go.Proofs

namespace Go.Al
open Go.RowKit

/-! ### Maps of one's own, under texts -/

/-- What one owns, turned: its block alone. -/
theorem SimG.turnOG {C : Cx} {A : Nat → SV} {G : Gh} {a : Act} {w : World} (S : SimG C A G a w) {g : Nat} {X' : SV} {o' : Obj}
    (how : Owned C.w0 C.E w (G.blk g)) (hni : ∀ o, ¬ G.I (G.blk g) o) (hown : ownsB G g (G.blk g) (A g)) (hown' : ∀ b, ownsB G g b X' → G.blk g = b)
    (hnew : Le w G.I (setBlk w (G.blk g) o') G.I → Holds C.w0 C.E G a (setBlk w (G.blk g) o') g X') :
    SimG C (upd A [(g, X')]) G a (setBlk w (G.blk g) o') := by
  have hlt : G.blk g < w.heap.size := how.2
  have hle : Le w G.I (setBlk w (G.blk g) o') G.I := fun b o h => ⟨h, by
    have : b ≠ G.blk g := by rintro rfl; exact hni o h
    exact kp_of_block (setBlk_ne this)⟩
  have hu : ∀ k, upd A [(g, X')] k = if k = g then X' else A k := upd_one A g X'
  have conv : ∀ k b, ownsB G k b (upd A [(g, X')] k) → ownsB G k b (A k) := by
    intro k b h
    rw [hu] at h
    split at h
    · rename_i hk; subst hk; have := hown' b h; rw [← this]; exact hown
    · exact h
  refine ⟨S.os, S.tape, S.output, by rw [setBlk_size]; exact S.size, fun k h1 h2 => ?_, S.sub.trans hle, S.rel, S.glob.mono hle, S.new, fun b o h => by rw [setBlk_size]; exact S.val b o h, S.nts, S.dfs, fun k => ?_, fun k j b hkj h1 h2 => S.apart k j b hkj (conv k b h1) (conv j b h2)⟩
  · have : k ≠ G.blk g := by
      rintro rfl
      rcases how.1 with h | h
      · omega
      · exact h2 h
    rw [setBlk_ne this]; exact S.block k h1 h2
  · rw [hu]
    split
    · rename_i hk; subst hk; exact hnew hle
    · rename_i hk
      refine (S.holds k).keep hle (GRel.refl G) (noG_nil.1 _) (by rw [setBlk_size]; exact Nat.le_refl _) (fun h => ⟨h, rfl⟩) (fun _ => ⟨rfl, rfl, rfl⟩) (fun b hb => ⟨?_, fun _ h => h⟩)
      have : b ≠ G.blk g := by
        rintro rfl
        exact S.apart k g (G.blk g) hk hb hown
      exact setBlk_ne this

theorem SimG.turnO {C : Cx} {A : Nat → SV} {G : Gh} {a : Act} {w : World} (S : SimG C A G a w) {g : Nat} {X' : SV} {o' : Obj}
    (how : Owned C.w0 C.E w (G.blk g)) (hni : ∀ o, ¬ G.I (G.blk g) o) (hown : ownsB G g (G.blk g) (A g)) (hown' : ∀ b, ownsB G g b X' → G.blk g = b)
    (hnew : Le w G.I (setBlk w (G.blk g) o') G.I → Holds C.w0 C.E G a (setBlk w (G.blk g) o') g X') :
    Sim C (upd A [(g, X')]) a (setBlk w (G.blk g) o') := ⟨G, S.turnOG how hni hown hown' hnew⟩

/-- The place of a text among some. -/
def mfind : List ByteArray → ByteArray → Nat → Option Nat
  | [], _, _ => none
  | x :: xs, s, i => if s = x then some i else mfind xs s (i + 1)
def strs (l : List ByteArray) : List AV := l.map fun s => .v (.string s)
def mputK (l : List ByteArray) (s : ByteArray) : List ByteArray := match mfind l s 0 with | some _ => l | none => l ++ [s]
def mputV (l : List ByteArray) (vs : List AV) (s : ByteArray) (v : AV) : List AV := match mfind l s 0 with | some i => vs.set i v | none => vs ++ [v]

theorem mfind_lt : ∀ {l : List ByteArray} {s : ByteArray} {i j : Nat}, mfind l s i = some j → i ≤ j ∧ j < i + l.length
  | x :: xs, s, i, j, h => by
    rw [mfind] at h
    split at h
    · cases h; simp
    · have := mfind_lt h; simp; omega

theorem mfind_get : ∀ {l : List ByteArray} {s : ByteArray} {i j : Nat}, mfind l s i = some j → l[j - i]? = some s
  | x :: xs, s, i, j, h => by
    rw [mfind] at h
    split at h
    · rename_i hs; cases h; simp [hs]
    · have h1 := mfind_lt h
      have h2 := mfind_get h
      rw [show j - i = (j - (i + 1)) + 1 by omega, List.getElem?_cons_succ]; exact h2
theorem repVs_strs {w : World} {I : Nat → Nat → Prop} : ∀ {l : List ByteArray} {vs : List Value}, RepVs w I (strs l) vs → vs = l.map Value.string
  | [], vs, h => by simpa [strs, RepVs] using h
  | x :: xs, vs, h => by
    simp only [strs, List.map_cons, RepVs] at h
    obtain ⟨c, r, rfl, h1, h2⟩ := h
    simp only [RepC] at h1
    rw [repVs_strs (l := xs) h2, h1.1]
    simp [mkV, AV.isAgg, Value.cells]

theorem ba_beq (a b : ByteArray) : (a == b) = decide (a = b) := by
  rcases a with ⟨a⟩; rcases b with ⟨b⟩
  show (a == b) = _
  rw [Bool.eq_iff_iff]; simp

theorem findNow_str : ∀ (es : List MapEntry) (l : List ByteArray) (s : ByteArray) (i : Nat), es.map (·.key) = l.map Value.string →
    Instr.findNow .string (.string s) es i = some ((mfind l s i).bind fun j => (es[j - i]?).map fun e => (j, e.val))
  | [], l, s, i, h => by
    cases l with
    | nil => rfl
    | cons x l => simp at h
  | e :: es, l, s, i, h => by
    cases l with
    | nil => simp at h
    | cons x l =>
      simp only [List.map_cons, List.cons.injEq] at h
      simp only [Instr.findNow, h.1, Instr.sameNow]
      by_cases hs : s = x
      · subst hs
        simp [mfind, ba_beq]
      · have : (s == x) = false := by rw [ba_beq]; simpa using hs
        rw [this]
        simp only
        rw [findNow_str es l s (i + 1) h.2, mfind, if_neg hs]
        cases hm : mfind l s (i + 1) with
        | none => rfl
        | some j =>
          have := mfind_lt hm
          simp only [Option.bind_some]
          rw [show j - i = (j - (i + 1)) + 1 by omega, List.getElem?_cons_succ]

theorem run_checkKey {P : Program} {kt : TypeId} {s : ByteArray} (h : P.underlying kt = some .string) (b : Bool) (n : Nat) (w : World) : (Instr.checkKey b (n + 1) kt (.string s)).run P w = .ok () w := by
  simp only [Instr.checkKey, Sem.run_bind, run_underlying' h, Result.andThen_ok, Sem.run_pure]

theorem run_findKey {P : Program} {kt : TypeId} {s : ByteArray} (h : P.underlying kt = some .string) {es : List MapEntry} {l : List ByteArray} (he : es.map (·.key) = l.map Value.string) (w : World) :
    (Instr.findKey kt (.string s) es).run P w = .ok ((mfind l s 0).bind fun j => (es[j]?).map fun e => (j, e.val)) w := by
  have := findNow_str es l s 0 he
  simp only [Nat.sub_zero] at this
  simp only [Instr.findKey, Sem.run_bind, run_underlying' h, Result.andThen_ok, this, Sem.run_pure]

theorem run_getMap {P : Program} {w : World} {r : Nat} {es : Array MapEntry} {ck : Nat} (h : w.heap[r]? = some (.map es ck)) : (getObj r).run P w = .ok (.map es ck) w := by simp [getObj, Sem.run, h]
theorem run_setMap {P : Program} {w : World} {r : Nat} {es : Array MapEntry} {ck : Nat} {o' : Obj} (h : w.heap[r]? = some (.map es ck)) : (setObj r o').run P w = .ok () (setBlk w r o') := by simp [setObj, Sem.run, h, setBlk]

section
variable {C : Cx} {A : Nat → SV} {d : Nat} {ty : TypeId} {pos : String} {af : Array Edge} {gd : Option (Nat × Bool)} {x y z : Operand} {T T' : TypeId}

theorem s_makeMap (g : Nat) (hgN : Nat.ble C.N g = true) (hgK : Nat.blt g C.K = true) (hN : Nat.blt d C.N = true) :
    StepU C ⟨some d, .makeMap T none, ty, pos, af, gd⟩ [] [g] A [(g, .mpr [] []), (d, .mref g)] := by
  intro A' a w hR hF ⟨G, S⟩
  have hN' : d < C.N := by simpa [Nat.blt_eq] using hN
  have hgd : g ≠ d := by have := Nat.le_of_ble_eq_true hgN; omega
  unfold Oper.wp
  have hrun : (execOp a.eval ⟨some d, .makeMap T none, ty, pos, af, gd⟩).run C.P w = .ok (.value (.map (some w.heap.size))) (w.alloc (.map #[] 0)) := by
    simp only [execOp, Option.map_none, Instr.makeMap, Sem.run_bind, Sem.run_pure, Result.andThen_ok, run_newObj]
    rfl
  rw [hrun, Oper.upon_value]
  refine S.allocO hgd (by simpa [Nat.blt_eq] using hgK) hN' (fun _ _ h => by simpa only [ownsB] using h) (fun G' e _ hg hle hni => ?_) (fun G' e => ?_) (fun k hk => hF k hk)
  · simp only [Holds]
    refine ⟨⟨.inl (by rw [e]; exact S.size), by rw [e]; simp⟩, ⟨#[], by rw [e]; exact alloc_new, fun i h => by simp at h, by simp [RepVs], by simp [RepVs]⟩, fun o => ?_⟩
    rw [e]; exact hni o
  · exact ⟨[.map (some w.heap.size)], by simp [RepS, e], by simp [mkS, SV.isAgg]⟩

theorem repVs_set {w : World} {I : Nat → Nat → Prop} : ∀ {xs : List AV} {vs : List Value} {i : Nat} {y : AV} {v : Value}, RepVs w I xs vs → Rep w I y v → RepVs w I (xs.set i y) (vs.set i v)
  | [], vs, i, y, v, h, _ => by
    simp only [RepVs] at h; subst h; simp [RepVs]
  | x :: xs, vs, 0, y, v, h, k => by
    simp only [RepVs] at h
    obtain ⟨c, r, rfl, h1, h2⟩ := h
    obtain ⟨c', k1, k2⟩ := k
    simp only [List.set_cons_zero, RepVs]
    exact ⟨c', r, by rw [k2], k1, h2⟩
  | x :: xs, vs, i + 1, y, v, h, k => by
    simp only [RepVs] at h
    obtain ⟨c, r, rfl, h1, h2⟩ := h
    simp only [List.set_cons_succ, RepVs]
    exact ⟨c, _, rfl, h1, repVs_set h2 k⟩

theorem s_mapUpdate {g : Nat} {kt vt : TypeId} {l : List ByteArray} {vs : List AV} {s : ByteArray} {v : AV} (hx : opS A x = .mref g) (hg : A g = .mpr (strs l) vs) (hy : opV A y = some (.v (.string s))) (hz : opV A z = some v)
    (hT : C.P.underlying T = some (.map kt vt)) (hk : C.P.underlying kt = some .string) :
    StepU C ⟨none, .mapUpdate T x y z, ty, pos, af, gd⟩ (g :: (opR x ++ (opR y ++ opR z))) [] A [(g, .mpr (strs (mputK l s)) (mputV l vs s v))] := by
  intro A' a w hR hF ⟨G, S⟩
  have hgA : A' g = .mpr (strs l) vs := (hR g List.mem_cons_self).trans hg
  obtain ⟨c, hc1, hc2⟩ := S.opS ((opS_congr (fun k hk => hR k (List.mem_cons_of_mem _ (List.mem_append_left _ hk)))).trans hx) rfl
  simp only [RepS] at hc1
  have hev : a.eval x = .map (some (G.blk g)) := by rw [hc2, hc1]; rfl
  rw [← opV_congr (fun k hk => hR k (List.mem_cons_of_mem _ (List.mem_append_right _ (List.mem_append_left _ hk))))] at hy
  rw [← opV_congr (fun k hk => hR k (List.mem_cons_of_mem _ (List.mem_append_right _ (List.mem_append_right _ hk))))] at hz
  have hys := rep_str (S.opV hy)
  have hzv := S.opV hz
  have hb := S.holds g
  rw [hgA] at hb
  simp only [Holds] at hb
  obtain ⟨how, ⟨es, h1, h2, h3, h4⟩, hni⟩ := hb
  have hkeys : es.toList.map (·.key) = l.map Value.string := repVs_strs h3
  have hlen : es.size = l.length := by have := congrArg List.length hkeys; simpa using this
  have hfind := run_findKey (P := C.P) (s := s) hk hkeys w
  have hobj := run_getMap (P := C.P) h1
  unfold Oper.wp
  cases hm : mfind l s 0 with
  | some i =>
    have hi := mfind_lt hm
    have hie : i < es.size := by omega
    have hkey : es[i].key = .string s := by
      have hk2 : (es.toList.map (·.key))[i]? = (l.map Value.string)[i]? := by rw [hkeys]
      have hsl : l[i]? = some s := by
        have := mfind_get hm
        simpa using this
      simp only [List.getElem?_map, hsl, Option.map_some] at hk2
      rw [Array.getElem?_toList, Array.getElem?_eq_getElem hie] at hk2
      simpa using hk2
    have hrun : (execOp a.eval ⟨none, .mapUpdate T x y z, ty, pos, af, gd⟩).run C.P w = .ok .skip (setBlk w (G.blk g) (.map (es.modify i fun e => { e with key := .string s, val := a.eval z }) es.size)) := by
      have e1 : (es[i]?).map (·.key) = some (.string s) := by rw [Array.getElem?_eq_getElem hie]; simp [hkey]
      have e2 : (es.toList[i]?).map (fun e => (i, e.val)) = some (i, es[i].val) := by rw [Array.getElem?_toList, Array.getElem?_eq_getElem hie]; rfl
      have e3 : Instr.sameBits 10000 (.string s) (.string s) = true := by simp [Instr.sameBits, ba_beq]
      simp only [execOp, Instr.mapUpdate, Sem.run_bind, run_underlying' hT, Result.andThen_ok, hev, hobj, hys, run_checkKey hk, hfind, hm, Option.bind_some, e2, e1, Option.getD_some, Instr.keyThatStays, e3, if_true, Sem.run_pure, run_setMap h1]
    rw [hrun, Oper.upon_skip]
    have hmp : mputK l s = l ∧ mputV l vs s v = vs.set i v := by unfold mputK mputV; rw [hm]; exact ⟨rfl, rfl⟩
    rw [hmp.1, hmp.2]
    refine S.turnO how hni (by rw [hgA]; simp [ownsB]) (fun b h => by simpa only [ownsB] using h) fun hle => ?_
    simp only [Holds]
    refine ⟨⟨how.1, by rw [setBlk_size]; exact how.2⟩, ⟨es.modify i fun e => { e with key := .string s, val := a.eval z }, by rw [setBlk_get how.2]; simp, fun j hj => ?_, ?_, ?_⟩, hni⟩
    · simp only [Array.getElem_modify]
      split
      · exact h2 j (by simpa using hj)
      · exact h2 j (by simpa using hj)
    · have : ((es.modify i fun e => { e with key := .string s, val := a.eval z }).toList.map (·.key)) = es.toList.map (·.key) := by
        refine List.ext_getElem (by simp) fun j h5 h6 => ?_
        simp only [List.getElem_map, Array.getElem_toList, Array.getElem_modify]
        split
        · rename_i hij; subst hij; rw [hkey]
        · rfl
      rw [this]; exact RepVs.mono hle _ _ h3
    · have : ((es.modify i fun e => { e with key := .string s, val := a.eval z }).toList.map (·.val)) = (es.toList.map (·.val)).set i (a.eval z) := by
        refine List.ext_getElem (by simp) fun j h5 h6 => ?_
        simp only [List.getElem_map, Array.getElem_toList, Array.getElem_modify, List.getElem_set]
        split <;> rfl
      rw [this]; exact repVs_set (RepVs.mono hle _ _ h4) (hzv.mono hle)
  | none =>
    have hrun : (execOp a.eval ⟨none, .mapUpdate T x y z, ty, pos, af, gd⟩).run C.P w = .ok .skip (setBlk w (G.blk g) (.map (es.push { key := .string s, val := a.eval z, born := es.size }) (es.size + 1))) := by
      simp only [execOp, Instr.mapUpdate, Sem.run_bind, run_underlying' hT, Result.andThen_ok, hev, hobj, hys, run_checkKey hk, hfind, hm, Option.bind_none, Sem.run_pure, run_setMap h1]
    rw [hrun, Oper.upon_skip]
    have hmp : mputK l s = l ++ [s] ∧ mputV l vs s v = vs ++ [v] := by unfold mputK mputV; rw [hm]; exact ⟨rfl, rfl⟩
    rw [hmp.1, hmp.2]
    refine S.turnO how hni (by rw [hgA]; simp [ownsB]) (fun b h => by simpa only [ownsB] using h) fun hle => ?_
    simp only [Holds]
    refine ⟨⟨how.1, by rw [setBlk_size]; exact how.2⟩, ⟨es.push { key := .string s, val := a.eval z, born := es.size }, by rw [setBlk_get how.2]; simp, fun j hj => ?_, ?_, ?_⟩, hni⟩
    · simp only [Array.getElem_push]
      split
      · rename_i hj2; exact h2 j hj2
      · rename_i hj2; simp at hj; show es.size = j; omega
    · have e : strs (l ++ [s]) = strs l ++ [.v (.string s)] := by simp [strs]
      rw [e]
      simp only [Array.toList_push, List.map_append, List.map_cons, List.map_nil]
      exact repVs_append (RepVs.mono hle _ _ h3) (by simp only [RepVs]; exact ⟨[.string s], [], by simp [mkV, AV.isAgg], by simp [RepC, Value.cells, Al.plain], rfl⟩)
    · simp only [Array.toList_push, List.map_append, List.map_cons, List.map_nil]
      obtain ⟨cz, k1, k2⟩ := hzv.mono hle
      exact repVs_append (RepVs.mono hle _ _ h4) (by simp only [RepVs]; exact ⟨cz, [], by rw [k2], k1, rfl⟩)

theorem s_lookup {g : Nat} {kt vt : TypeId} {l : List ByteArray} {vs : List AV} {s : ByteArray} {v : AV} {i : Nat} (hN : Nat.blt d C.N = true) (hx : opS A x = .mref g) (hg : A g = .mpr (strs l) vs) (hy : opV A y = some (.v (.string s)))
    (hT : C.P.underlying T = some (.map kt vt)) (hk : C.P.underlying kt = some .string) (hm : mfind l s 0 = some i) (hv : vs[i]? = some v) :
    StepU C ⟨some d, .lookup T x y false, ty, pos, af, gd⟩ (g :: (opR x ++ opR y)) [] A [(d, .imm v)] := by
  refine StepU.value rfl hN fun A' G a w hR S => ?_
  have hgA : A' g = .mpr (strs l) vs := (hR g List.mem_cons_self).trans hg
  obtain ⟨c, hc1, hc2⟩ := S.opS ((opS_congr (fun k hk => hR k (List.mem_cons_of_mem _ (List.mem_append_left _ hk)))).trans hx) rfl
  simp only [RepS] at hc1
  have hev : a.eval x = .map (some (G.blk g)) := by rw [hc2, hc1]; rfl
  rw [← opV_congr (fun k hk => hR k (List.mem_cons_of_mem _ (List.mem_append_right _ hk)))] at hy
  have hys := rep_str (S.opV hy)
  have hb := S.holds g
  rw [hgA] at hb
  simp only [Holds] at hb
  obtain ⟨how, ⟨es, h1, h2, h3, h4⟩, hni⟩ := hb
  have hkeys : es.toList.map (·.key) = l.map Value.string := repVs_strs h3
  have hlen : es.size = l.length := by have := congrArg List.length hkeys; simpa using this
  have hi := mfind_lt hm
  have hie : i < es.size := by omega
  have hfind := run_findKey (P := C.P) (s := s) hk hkeys w
  have hobj := run_getMap (P := C.P) h1
  have e2 : (es.toList[i]?).map (fun e => (i, e.val)) = some (i, es[i].val) := by rw [Array.getElem?_toList, Array.getElem?_eq_getElem hie]; rfl
  obtain ⟨u, hu1, hu2⟩ := repVs_get h4 hv
  simp only [List.getElem?_map, Array.getElem?_toList, Array.getElem?_eq_getElem hie, Option.map_some, Option.some.injEq] at hu1
  refine ⟨u, ?_, valS_imm.2 hu2⟩
  simp only [execOp, Instr.lookup, Sem.run_bind, run_underlying' hT, Result.andThen_ok, hev, hobj, hys, Sem.run_pure, run_checkKey hk, hfind, hm, Option.bind_some, e2, Bool.false_eq_true, if_false, hu1]

theorem s_range {gm : Nat} (g : Nat) {kt vt : TypeId} {ks vs : List AV} (hgN : Nat.ble C.N g = true) (hgK : Nat.blt g C.K = true) (hN : Nat.blt d C.N = true) (hgm : Nat.beq g gm = false) (hx : opS A x = .mref gm) (hg : A gm = .mpr ks vs) (hT : C.P.underlying T = some (.map kt vt)) :
    StepU C ⟨some d, .range T x, ty, pos, af, gd⟩ (gm :: opR x) [g] A [(g, .itr gm ks.length []), (d, .ptr g 0)] := by
  intro A' a w hR hF ⟨G, S⟩
  have hN' : d < C.N := by simpa [Nat.blt_eq] using hN
  have hgd : g ≠ d := by have := Nat.le_of_ble_eq_true hgN; omega
  have hgne : gm ≠ g := by rintro rfl; rw [Nat.beq_refl] at hgm; cases hgm
  have hgA : A' gm = .mpr ks vs := (hR gm List.mem_cons_self).trans hg
  obtain ⟨c, hc1, hc2⟩ := S.opS ((opS_congr (fun k hk => hR k (List.mem_cons_of_mem _ hk))).trans hx) rfl
  simp only [RepS] at hc1
  have hev : a.eval x = .map (some (G.blk gm)) := by rw [hc2, hc1]; rfl
  have hb := S.holds gm
  rw [hgA] at hb
  simp only [Holds] at hb
  obtain ⟨how, ⟨es, h1, h2, h3, h4⟩, hni⟩ := hb
  have hlen : es.size = ks.length := by have := repVs_len h3; simpa using this
  unfold Oper.wp
  have hrun : (execOp a.eval ⟨some d, .range T x, ty, pos, af, gd⟩).run C.P w = .ok (.value (.pointer (some ⟨w.heap.size, 0, none⟩))) (w.alloc (.mapIter (some (G.blk gm)) es.size #[] es.size)) := by
    simp only [execOp, Instr.range, Sem.run_bind, run_underlying' hT, Result.andThen_ok, hev, run_getMap h1, Sem.run_pure, run_newObj]
    rfl
  rw [hrun, Oper.upon_value]
  refine S.allocO hgd (by simpa [Nat.blt_eq] using hgK) hN' (fun _ _ h => by simpa only [ownsB] using h) (fun G' e hother hg hle hni => ?_) (fun G' e => ?_) (fun k hk => hF k hk)
  · simp only [Holds]
    refine ⟨⟨.inl (by rw [e]; exact S.size), by rw [e]; simp⟩, ?_, fun o => ?_⟩
    · rw [e, hother gm hgne, ← hlen]; exact alloc_new
    · rw [e]; exact hni o
  · exact ⟨[.pointer (some ⟨w.heap.size, 0, none⟩)], by simp [RepS, e], by simp [mkS, SV.isAgg]⟩
end
end Go.Al

namespace Go.Al
open Go.RowKit

/-! ### A row of texts of one's own, which the library's sort turns -/

/-- So many things of no width. -/
def units (n : Nat) : List AV := List.replicate n (.agg [])
@[simp] theorem units_length (n : Nat) : (units n).length = n := List.length_replicate

theorem repM_units {w : World} {I : Nat → Nat → Prop} : ∀ (n b o : Nat), RepM w I 0 (units n) b o
  | 0, _, _ => by simp only [units, List.replicate_zero, RepM]
  | n + 1, b, o => by
    have := repM_units (w := w) (I := I) n b (o + 0)
    simp only [units] at this
    simp only [units, List.replicate_succ, RepM]
    exact ⟨⟨[], rfl, by simp only [RepC, RepCs], fun j hj => by simp at hj⟩, this⟩

theorem repS_units {w : World} {G : Gh} {g n b cap : Nat} (h : n = G.len g) (hc : G.cur g = .slice (some ⟨b, 0, none⟩) n cap) (h1 : n ≤ cap) (h2 : cap ≤ maxLen) : RepS w G (.slg g 0 (units n)) [.slice (some ⟨b, 0, none⟩) n cap] := by
  simp only [RepS, RepC]
  exact ⟨_, rfl, ⟨_, rfl, .inr ⟨b, 0, cap, by simp, by simpa using h1, h2, repM_units n b 0⟩⟩, by simp [h], fun _ => hc.symm⟩

/-- Whose block a row of texts is in. -/
def inRow (G : Gh) (g k : Nat) : Prop := ∃ a n c, G.cur g = .slice (some a) n c ∧ a.block = k

theorem SimG.turnR {C : Cx} {A : Nat → SV} {G : Gh} {a : Act} {w w' : World} (S : SimG C A G a w) {g : Nat} {l l' : List ByteArray} {v' : Value} (hA : A g = .row l)
    (hos : w'.os = w.os) (htape : w'.tape = w.tape) (hout : w'.output = w.output) (hsz : w.heap.size ≤ w'.heap.size) (hblk : ∀ k, k < w.heap.size → ¬ inRow G g k → w'.heap[k]? = w.heap[k]?)
    (hlt : l.length < l'.length) (hrow : RowS C.w0 C.E G.I w' v' l') (hnew : ∀ ad n c, v' = .slice (some ad) n c → inRow G g ad.block ∨ w.heap.size ≤ ad.block) :
    SimG C (upd A [(g, .row l')]) { G with cur := fun j => if j = g then v' else G.cur j, len := fun j => if j = g then l'.length else G.len j } a w' := by
  let G' : Gh := { G with cur := fun j => if j = g then v' else G.cur j, len := fun j => if j = g then l'.length else G.len j }
  have hh := S.holds g
  rw [hA] at hh
  simp only [Holds] at hh
  obtain ⟨hlen, hr⟩ := hh
  have hown : ∀ k, inRow G g k → ownsB G g k (A g) := fun k hk => by rw [hA]; simp only [ownsB]; exact hk
  have hni : ∀ k o, inRow G g k → ¬ G.I k o := by
    rintro k o ⟨ad, n, c, e1, rfl⟩
    rcases hr with ⟨e, _⟩ | ⟨b, cap, e, _, _, _, _, h8⟩
    · rw [e] at e1; cases e1
    · rw [e] at e1; cases e1; exact h8 o
  have hle : Le w G.I w' G'.I := fun b o h => ⟨h, kp_of_block (hblk b (S.val b o h) fun hk => hni b o hk h)⟩
  have hg : GRel [] G G' := fun j _ => by
    refine ⟨rfl, ?_⟩
    by_cases hj : j = g
    · right; simp only [G', hj, if_true]; omega
    · left; simp only [G', if_neg hj]; exact ⟨trivial, trivial⟩
  have conv : ∀ k b, ownsB G' k b (upd A [(g, .row l')] k) → (k = g ∧ (inRow G g b ∨ w.heap.size ≤ b)) ∨ (k ≠ g ∧ ownsB G k b (A k)) := by
    intro k b h
    rw [upd_one] at h
    split at h
    · rename_i hk
      simp only [ownsB, G', hk, if_true] at h
      obtain ⟨ad, n, c, e1, rfl⟩ := h
      exact .inl ⟨hk, hnew ad n c e1⟩
    · rename_i hk
      refine .inr ⟨hk, ?_⟩
      revert h
      generalize A k = y
      cases y <;> simp only [ownsB, G', if_neg hk] <;> exact id
  refine ⟨hos.trans S.os, htape.trans S.tape, hout.trans S.output, Nat.le_trans S.size hsz, fun k h1 h2 => ?_, S.sub.trans hle, fun j hj => (S.rel j hj).trans (hg j (by simp)), S.glob.mono hle, S.new, fun b o h => Nat.lt_of_lt_of_le (S.val b o h) hsz, S.nts, S.dfs, fun k => ?_, ?_⟩
  · rw [hblk k (Nat.lt_of_lt_of_le h1 S.size) ?_]
    · exact S.block k h1 h2
    · rintro ⟨ad, n, c, e1, rfl⟩
      rcases hr with ⟨e, _⟩ | ⟨b, cap, e, _, _, h4, _⟩
      · rw [e] at e1; cases e1
      · rw [e] at e1; cases e1
        rcases h4.1 with h | h
        · simp only at h1; omega
        · exact h2 h
  · rw [upd_one]
    split
    · rename_i hk; subst hk
      simp only [Holds, G', if_true]
      exact ⟨trivial, hrow⟩
    · rename_i hk
      refine (S.holds k).keep hle hg (noG_nil.1 _) hsz (fun h => ⟨h, rfl⟩) (fun _ => ⟨rfl, by simp only [G', if_neg hk], by simp only [G', if_neg hk]⟩) (fun b hb => ⟨hblk b (ownsB_lt S hb) fun hin => S.apart k g b hk hb (hown b hin), fun _ h => h⟩)
  · intro k j b hkj h1 h2
    rcases conv k b h1 with ⟨e1, e2⟩ | ⟨e1, e2⟩ <;> rcases conv j b h2 with ⟨e3, e4⟩ | ⟨e3, e4⟩
    · exact hkj (e1.trans e3.symm)
    · rcases e2 with e2 | e2
      · exact S.apart j g b e3 e4 (hown b e2)
      · have := ownsB_lt S e4; omega
    · rcases e4 with e4 | e4
      · exact S.apart k g b e1 e2 (hown b e4)
      · have := ownsB_lt S e2; omega
    · exact S.apart k j b hkj e2 e4

theorem SimG.newrow {C : Cx} {A : Nat → SV} {G : Gh} {a : Act} {w : World} (S : SimG C A G a w) {g k : Nat} (hgN : C.N ≤ g) (hgK : g < C.K) (hk : A k = .imm (.v (.slice none 0 0))) (hf : ∀ j, noG [g] (A j) = true) :
    Sim C (upd A [(g, .row []), (k, .slg g 0 (units 0))]) a w := by
  let G' : Gh := { G with cur := fun j => if j = g then .slice none 0 0 else G.cur j, len := fun j => if j = g then 0 else G.len j }
  have hg : GRel [g] G G' := fun j hj => by
    have hjg : j ≠ g := by simpa using hj
    exact ⟨rfl, .inl ⟨by simp only [G', if_neg hjg], by simp only [G', if_neg hjg]⟩⟩
  have hle := Le.refl w G.I
  have hkN : k < C.N := by
    have := S.holds k
    rw [hk] at this
    have h1 := this.1
    rw [S.nts] at h1; exact h1
  have hkg : g ≠ k := by omega
  have hu : ∀ j, upd A [(g, .row []), (k, .slg g 0 (units 0))] j = if j = g then .row [] else if j = k then .slg g 0 (units 0) else A j := by
    intro j
    simp only [upd]
    by_cases h1 : j = g
    · subst h1; simp
    · rw [nat_beq_false (Ne.symm h1), if_neg h1]
      by_cases h2 : j = k
      · subst h2; simp
      · rw [nat_beq_false (Ne.symm h2), if_neg h2]; rfl
  have own' : ∀ j b, ownsB G' j b (upd A [(g, .row []), (k, .slg g 0 (units 0))] j) → j ≠ g ∧ ownsB G j b (A j) := by
    intro j b h
    rw [hu] at h
    split at h
    · rename_i hj
      simp only [ownsB, G', hj, if_true] at h
      obtain ⟨_, _, _, h1, _⟩ := h
      cases h1
    · rename_i hj
      refine ⟨hj, ?_⟩
      split at h
      · simp only [ownsB] at h
      · revert h
        generalize A j = y
        cases y <;> simp only [ownsB, G', if_neg hj] <;> exact id
  refine ⟨G', S.os, S.tape, S.output, S.size, S.block, S.sub.trans hle, fun j hj => (S.rel j hj).trans (hg j (by simp; omega)), S.glob, S.new, S.val, S.nts, S.dfs, fun j => ?_, fun j j' b hj h1 h2 => S.apart j j' b hj (own' j b h1).2 (own' j' b h2).2⟩
  rw [hu]
  split
  · rename_i hj; subst hj
    simp only [Holds, G', if_true]
    exact ⟨rfl, .inl ⟨rfl, rfl⟩⟩
  · rename_i hj
    split
    · rename_i hjk; subst hjk
      have hh := S.holds j
      rw [hk] at hh
      refine ⟨hh.1, ⟨[.slice none 0 0], ?_, ?_⟩⟩
      · simp only [RepS, RepC]
        exact ⟨_, rfl, ⟨_, rfl, .inl (by simpa [units] using nil_sl 0)⟩, by simp [units], fun _ => by simp only [G', if_true]⟩
      · exact rep_val (S.imm hk) rfl
    · exact (S.holds j).keep hle hg (hf j) (Nat.le_refl _) (fun h => ⟨h, rfl⟩) (fun _ => ⟨rfl, by simp only [G', if_neg hj], by simp only [G', if_neg hj]⟩) (fun b _ => ⟨rfl, fun _ h => h⟩)

theorem aw_newrow {C : Cx} {c : Code} {st : St} {Q : Exit → St → Prop} (g k : Nat) (hgN : Nat.ble C.N g = true) (hgK : Nat.blt g C.K = true) (hk : look st k = .imm (.v (.slice none 0 0))) (hf : freshB [g] st = true)
    (h : AW C c ((g, .row []) :: (k, .slg g 0 (units 0)) :: st) Q) : AW C c st Q := by
  intro a w ⟨G, S⟩
  have := S.newrow (Nat.le_of_ble_eq_true hgN) (by simpa [Nat.blt_eq] using hgK) hk (freshB_spec st hf)
  rw [upd_look] at this
  exact h a w this

theorem run_append_fit {P : Program} {w : World} {T T' ty el T1 : TypeId} {b len cap n : Nat} {cs : Array Value} {T0 : TypeId} {fr : Nat × Nat} {y : Value} {e : Value} (hT : P.underlying T = some (.slice el)) (hT' : P.underlying T' = some (.slice T1)) (hn : tySize P el = some 1)
    (hfit : len + 1 ≤ cap) (hb : w.heap[b]? = some (.cells cs T0 fr)) (hsz : cs.size = cap) (huf : unfrozen fr cs.size) (hp : plain e = true)
    (k2 : (Builtin.lenOf y).run P w = .ok 1 w) (k3 : (Builtin.firstCells 1 1 y).run P w = .ok #[e] w) :
    (Builtin.append_ #[T, T'] ty #[.slice (some ⟨b, 0, none⟩) len cap, y]).run P w = .ok (.slice (some ⟨b, 0, none⟩) (len + 1) cap) (setBlk w b (.cells (splice cs len [e]) T0 fr)) := by
  have e1 : (#[T, T'] : Array TypeId)[0]? = some T := rfl
  have e2 : (#[T, T'] : Array TypeId)[1]? = some T' := rfl
  have e3 : (#[Value.slice (some ⟨b, 0, none⟩) len cap, y] : Array Value)[0]? = some (Value.slice (some ⟨b, 0, none⟩) len cap) := rfl
  have e4 : (#[Value.slice (some ⟨b, 0, none⟩) len cap, y] : Array Value)[1]? = some y := rfl
  have hst := run_storeCells (P := P) (b := b) (o := len * 1) [e] 0 w cs hb huf (by simp; omega) (by simp [hp])
  simp only [Builtin.append_, e1, e2, e3, e4]
  simp only [Sem.run_bind, run_underlying' hT, run_underlying' hT', Result.andThen_ok, run_sizeOf hn, Sem.run_pure, Bool.false_eq_true, if_false, k2]
  simp only [hfit, if_true, Bool.not_false, Sem.run_bind, k3, Result.andThen_ok, addr_add, Nat.zero_add, Sem.run_pure]
  rw [hst]
  simp only [Result.andThen_ok, Nat.mul_one, Nat.add_zero]

theorem run_append_grow {P : Program} {w : World} {T T' ty el T1 : TypeId} {base : Option Addr} {len sCap by_ : Nat} {old : List Value} {y : Value} {e z : Value} {inf : TypeInfo} (hT : P.underlying T = some (.slice el)) (hT' : P.underlying T' = some (.slice T1)) (hn : tySize P el = some 1)
    (hz : tyZero P el = some z) (hzn : z.cells.size = 1) (hi : P.info? el = some inf) (hib : inf.bytes = by_) (hB : (2 * (len + 1) + 192) * by_ ≤ 281474976710656) (hL : len + 1 < 9223372036854775808) (hlt : sCap < len + 1) (hsl : sCap ≤ len + 1)
    (hol : old.length = len) (k2 : ∀ w0 : World, w0.heap = w.heap → (Builtin.lenOf y).run P w0 = .ok 1 w0 ∧ (Builtin.firstCells 1 1 y).run P w0 = .ok #[e] w0)
    (hold : ∀ w0 : World, w0.heap = w.heap → (Builtin.firstCells 1 len (.slice base len sCap)).run P w0 = .ok old.toArray w0) :
    ∃ newCap cs n, len + 1 ≤ newCap ∧ newCap ≤ maxLen ∧ cs.size = newCap ∧ cs.toList.take (len + 1) = old ++ [e] ∧
      (Builtin.append_ #[T, T'] ty #[.slice base len sCap, y]).run P w = .ok (.slice (some ⟨w.heap.size, 0, none⟩) (len + 1) newCap) (World.alloc { w with drawn := n } (.cells cs el)) := by
  obtain ⟨newCap, hnew⟩ : ∃ k, k = Question.cut (.appendCap (len + 1) sCap el) (w.tape w.drawn (.appendCap (len + 1) sCap el)) := ⟨_, rfl⟩
  have hnc : len + 1 ≤ newCap ∧ newCap ≤ maxLen := by
    have h63 : (0 : Nat) < 2 ^ 63 - (len + 1) := by omega
    rw [hnew]
    constructor
    · simp only [Question.cut]; omega
    · simp only [Question.cut]
      have := Nat.mod_lt (w.tape w.drawn (.appendCap (len + 1) sCap el)) h63
      unfold maxLen
      omega
  let cs : Array Value := old.toArray ++ #[e] ++ Builtin.zeroCells z.cells (newCap - (len + 1))
  have hcs : cs.toList.take (len + 1) = old ++ [e] := by
    have : cs.toList = (old ++ [e]) ++ (Builtin.zeroCells z.cells (newCap - (len + 1))).toList := by simp [cs]
    rw [this, List.take_append_of_le_length (by simp [hol]), List.take_of_length_le (by simp [hol])]
  have hcsz : cs.size = newCap := by
    have hzc : (Builtin.zeroCells z.cells (newCap - (len + 1))).size = (newCap - (len + 1)) := by simp [Builtin.zeroCells, hzn]
    simp only [cs, Array.size_append, hzc]
    simp [hol]; omega
  refine ⟨newCap, cs, w.drawn + 1, hnc.1, hnc.2, hcsz, hcs, ?_⟩
  have hbd := nextslicecap_bound (need := len + 1) (old := sCap) hsl
  have hnb : ¬ (Builtin.nextslicecap (len + 1) sCap * inf.bytes > 2 ^ 48) := by
    rw [hib]
    have := Nat.mul_le_mul_right by_ hbd
    have : (2 : Nat) ^ 48 = 281474976710656 := rfl
    omega
  have hi1 : ¬ (((len + 1 : Nat) : Int) > IntKind.i64.max) := by
    have : IntKind.i64.max = 9223372036854775807 := by decide
    rw [this]; omega
  have hfc1 := hold ⟨w.heap, w.tape, w.drawn + 1, w.os, w.output⟩ rfl
  have hfc2 : (Builtin.firstCells 1 1 y).run P ⟨w.heap, w.tape, w.drawn + 1, w.os, w.output⟩ = .ok #[e] ⟨w.heap, w.tape, w.drawn + 1, w.os, w.output⟩ := (k2 ⟨w.heap, w.tape, w.drawn + 1, w.os, w.output⟩ rfl).2
  have hnf : (Question.appendCap (len + 1) sCap el).forced = false := rfl
  have e1 : (#[T, T'] : Array TypeId)[0]? = some T := rfl
  have e2 : (#[T, T'] : Array TypeId)[1]? = some T' := rfl
  have e3 : (#[Value.slice base len sCap, y] : Array Value)[0]? = some (Value.slice base len sCap) := rfl
  have e4 : (#[Value.slice base len sCap, y] : Array Value)[1]? = some y := rfl
  have hne : ¬ (len + 1 ≤ sCap) := by omega
  have k2' := (k2 w rfl).1
  simp only [Builtin.append_, e1, e2, e3, e4]
  simp only [Sem.run_bind, run_underlying' hT, run_underlying' hT', Result.andThen_ok, run_sizeOf hn, Sem.run_pure, Bool.false_eq_true, if_false, k2', hne, run_typeInfo' hi, Sem.run_ite, false_or]
  simp only [hi1, false_and, if_false, Bool.not_false, if_true, Sem.run_bind, run_choose, hnf, Bool.false_eq_true, hnb, Result.andThen_ok, ← hnew, run_askRoom, hfc1, hfc2, run_zeroValue hz, newRow, run_newObj, Sem.run_pure]
  rfl

section
variable {C : Cx} {A : Nat → SV} {d : Nat} {ty : TypeId} {pos : String} {af : Array Edge} {gd : Option (Nat × Bool)} {x y z : Operand} {T T' : TypeId}

/-- One text more at the end of a row of texts. -/
theorem s_appendR {g by_ : Nat} {l : List ByteArray} {s : ByteArray} {el : TypeId} {T1 : TypeId} {z : Value} (hgN : Nat.ble C.N g = true) (hN : Nat.blt d C.N = true) (hx : opS A x = .slg g 0 (units l.length)) (hg : A g = .row l) (hy : opV A y = some (.sl 1 [.v (.string s)])) (hT : C.P.underlying T = some (.slice el)) (hT' : C.P.underlying T' = some (.slice T1))
    (hn : tySize C.P el = some 1) (hz : tyZero C.P el = some z) (hzn : z.cells.size = 1) (hb : (C.P.info? el).map (·.bytes) = some by_) (hB : (2 * (l.length + 1) + 192) * by_ ≤ 281474976710656) (hL : l.length + 1 < 9223372036854775808) :
    StepU C ⟨some d, .call { callee := .builtin .append, args := #[x, y], argTypes := #[T, T'] }, ty, pos, af, gd⟩ (g :: (opR x ++ opR y)) [] A [(g, .row (l ++ [s])), (d, .slg g 0 (units (l.length + 1)))] := by
  intro A' a w hR hF ⟨G, S⟩
  have hgA : A' g = .row l := (hR g List.mem_cons_self).trans hg
  have hgd : g ≠ d := by
    have h1 := Nat.le_of_ble_eq_true hgN
    have h2 : d < C.N := by simpa [Nat.blt_eq] using hN
    omega
  obtain ⟨c, hc1, hc2⟩ := S.opS ((opS_congr (fun k hk => hR k (List.mem_cons_of_mem _ (List.mem_append_left _ hk)))).trans hx) rfl
  simp only [RepS] at hc1
  obtain ⟨v, rfl, hv1, hv2, hv3⟩ := hc1
  have hx' : a.eval x = v := hc2
  rw [← opV_congr (fun k hk => hR k (List.mem_cons_of_mem _ (List.mem_append_right _ hk)))] at hy
  have hyR := S.opV hy
  have ht := S.holds g
  rw [hgA] at ht
  simp only [Holds] at ht
  obtain ⟨hlen, ht⟩ := ht
  have hcur : v = G.cur g := hv3 (by simpa using hlen.symm)
  obtain ⟨es, k1, k23⟩ := run_firstCells (P := C.P) hyR
  have hes : es = [.string s] := by
    simp only [RepE] at k1
    obtain ⟨c1, c2, rfl, _, h1, rfl⟩ := k1
    simp only [RepC] at h1
    rw [h1.1]; simp [Value.cells]
  subst hes
  obtain ⟨inf, hi, hib⟩ : ∃ inf, C.P.info? el = some inf ∧ inf.bytes = by_ := by
    cases hi : C.P.info? el with
    | none => rw [hi] at hb; cases hb
    | some inf => rw [hi] at hb; exact ⟨inf, rfl, by simpa using hb⟩
  have fin : ∀ (v' : Value) (w' : World), (Builtin.append_ #[T, T'] ty #[a.eval x, a.eval y]).run C.P w = .ok v' w' → SimG C (upd A' [(g, .row (l ++ [s]))]) { G with cur := fun j => if j = g then v' else G.cur j, len := fun j => if j = g then (l ++ [s]).length else G.len j } a w' →
      (∃ b cap, v' = .slice (some ⟨b, 0, none⟩) (l.length + 1) cap ∧ l.length + 1 ≤ cap ∧ cap ≤ maxLen) →
      (execOp a.eval ⟨some d, .call { callee := .builtin .append, args := #[x, y], argTypes := #[T, T'] }, ty, pos, af, gd⟩).run C.P w = .ok (.value v') w' ∧ Sim C (upd A' [(g, .row (l ++ [s])), (d, .slg g 0 (units (l.length + 1)))]) (a.put (some d) v') w' := by
    rintro v' w' hrun S' ⟨b, cap, rfl, h1, h2⟩
    refine ⟨run_resolve_append hrun, ?_⟩
    have := S'.put (d := d) (by simpa [Nat.blt_eq] using hN) (x := .slg g 0 (units (l.length + 1))) (v := .slice (some ⟨b, 0, none⟩) (l.length + 1) cap) ⟨[.slice (some ⟨b, 0, none⟩) (l.length + 1) cap], repS_units (by simp) (by simp) h1 h2, rfl⟩
    have e : upd (upd A' [(g, .row (l ++ [s]))]) [(d, .slg g 0 (units (l.length + 1)))] = upd A' [(g, .row (l ++ [s])), (d, .slg g 0 (units (l.length + 1)))] := by
      funext k
      simp only [upd]
      by_cases hkd : d = k
      · subst hkd; rw [nat_beq_false hgd]; simp
      · rw [nat_beq_false hkd]; simp
    rw [e] at this
    exact ⟨_, this⟩
  have key : ∃ v' w', (execOp a.eval ⟨some d, .call { callee := .builtin .append, args := #[x, y], argTypes := #[T, T'] }, ty, pos, af, gd⟩).run C.P w = .ok (.value v') w' ∧ Sim C (upd A' [(g, .row (l ++ [s])), (d, .slg g 0 (units (l.length + 1)))]) (a.put (some d) v') w' := by
    have grow : ∀ (base : Option Addr) (sCap : Nat), a.eval x = .slice base l.length sCap → sCap < l.length + 1 → sCap ≤ l.length + 1 → (∀ w0 : World, w0.heap = w.heap → (Builtin.firstCells 1 l.length (.slice base l.length sCap)).run C.P w0 = .ok (l.map Value.string).toArray w0) →
        ∃ v' w', (execOp a.eval ⟨some d, .call { callee := .builtin .append, args := #[x, y], argTypes := #[T, T'] }, ty, pos, af, gd⟩).run C.P w = .ok (.value v') w' ∧ Sim C (upd A' [(g, .row (l ++ [s])), (d, .slg g 0 (units (l.length + 1)))]) (a.put (some d) v') w' := by
      intro base sCap hev h1 h2 hold
      obtain ⟨newCap, cs, n, q1, q2, q3, q4, q5⟩ := run_append_grow (P := C.P) (w := w) (ty := ty) (base := base) (len := l.length) (sCap := sCap) (old := l.map Value.string) (y := a.eval y) (e := .string s) hT hT' hn hz hzn hi hib hB hL h1 h2 (by simp) (fun w0 h => k23 w0 h) hold
      rw [← hev] at q5
      refine ⟨_, _, fin _ _ q5 (S.turnR hgA rfl rfl rfl (by simp) (fun k hk _ => alloc_old (w := { w with drawn := n }) hk) (by simp) (.inr ⟨w.heap.size, newCap, by simp, by simpa using q1, q2, ⟨.inl S.size, by simp⟩, ⟨cs, el, alloc_new (w := { w with drawn := n }), q3, by simpa using q4⟩, fun o hi => ?_⟩) (fun ad n' c h => by cases h; exact .inr (Nat.le_refl _))) ⟨_, _, rfl, q1, q2⟩⟩
      have := S.val _ _ hi
      omega
    rcases ht with ⟨e, rfl⟩ | ⟨b, cap, e, h2, h3, h4, ⟨cs, T0, h5, h6, h7⟩, h8⟩
    · have hev : a.eval x = .slice none 0 0 := by rw [hx', hcur, e]
      exact grow none 0 hev (by simp) (by simp) (fun w0 _ => rfl)
    · have hev : a.eval x = .slice (some ⟨b, 0, none⟩) l.length cap := by rw [hx', hcur, e]
      by_cases hfit : l.length + 1 ≤ cap
      · have hr := run_append_fit (P := C.P) (w := w) (ty := ty) (y := a.eval y) (e := .string s) (n := 1) hT hT' hn hfit h5 h6 (fun o _ => by simp) rfl (k23 w rfl).1 (k23 w rfl).2
        rw [← hev] at hr
        have hblt : b < w.heap.size := h4.2
        refine ⟨_, _, fin _ _ hr (S.turnR hgA rfl rfl rfl (by rw [setBlk_size]; exact Nat.le_refl _) (fun k hk hn => setBlk_ne (fun hkb => hn ⟨⟨b, 0, none⟩, _, _, e, hkb.symm⟩)) (by simp)
          (.inr ⟨b, cap, by simp, by simpa using hfit, h3, ⟨h4.1, by rw [setBlk_size]; exact h4.2⟩, ⟨_, T0, setBlk_get hblt, by simp [splice, h6], ?_⟩, h8⟩) (fun ad n' c h => by cases h; exact .inl ⟨_, _, _, e, rfl⟩)) ⟨_, _, rfl, hfit, h3⟩⟩
        simp only [splice, Nat.add_zero, List.length_append, List.length_cons, List.length_nil]
        rw [Array.toList_setIfInBounds]
        apply List.ext_getElem?
        intro j
        by_cases hj : j < l.length
        · have h9 : (cs.toList.take l.length)[j]? = (l.map Value.string)[j]? := by rw [h7]
          rw [List.getElem?_take_of_lt hj] at h9
          rw [List.getElem?_take_of_lt (by omega), List.getElem?_set_ne (by omega), h9, List.map_append, List.getElem?_append_left (by simpa using hj)]
        · by_cases hj2 : j = l.length
          · subst hj2
            rw [List.getElem?_take_of_lt (by omega), List.getElem?_set_self (by simp; omega), List.map_append, List.getElem?_append_right (by simp)]
            simp
          · rw [List.getElem?_take_eq_none (by omega), List.getElem?_eq_none (by simp; omega)]
      · refine grow _ cap hev (by omega) (by omega) fun w0 hw0 => ?_
        simp only [Builtin.firstCells]
        have hl : (l.map Value.string).length = l.length * 1 := by simp
        rw [← hl]
        refine run_loadCells (l.map Value.string) fun j hj => ?_
        have hj' : j < l.length := by simpa using hj
        have h9 : (cs.toList.take l.length)[j]? = (l.map Value.string)[j]? := by rw [h7]
        rw [List.getElem?_take_of_lt hj', Array.getElem?_toList] at h9
        simp only [World.cell?, hw0, h5, Nat.zero_add]
        simp only [Option.isSome_none, Bool.false_eq_true, if_false]
        rw [h9]
        simp [hj']
  obtain ⟨v', w', hrun, S'⟩ := key
  unfold Oper.wp
  rw [hrun, Oper.upon_value]
  exact S'
end
end Go.Al

