/- Texts that the proofs of this claim share, part 5: the abstract logic, plain Lean on values and batches, and walks. No condition but those typed in each lemma. -/
import Derived.Maps.RangeRun
import Derived.Test.YtchikjokpmdipaaDoorP4
set_option linter.unusedSimpArgs false
set_option linter.unusedVariables false
namespace Go.Proofs
open Go Go.Al
set_option maxRecDepth 10000
set_option maxHeartbeats 400000 in
theorem keyP_c (k : ByteArray) (hk : k.size < 9223372036854775808) : PCall Tryd.prog Γ0 127 [sv k] [iv (keyC k)] := by
  have cr := check_range k
  refine pcall_of Tryd.func127 rfl Tryd.ntmps127 (by kernel_rfl) rfl fun w0 I0 G0 => ?_
  refine aw_seq ?_
  refine aw_region ?_
  refine g_u (s_as_imm rfl rfl) ?_
  refine g_nil ?_
  refine normal_thn ?_
  refine aw_seq ?_
  refine aw_block ?_
  refine aw_seq ?_
  refine aw_region ?_
  refine g_u (s_mv_imm rfl rfl) ?_
  refine g_u (s_eqS rfl rfl rfl) ?_
  refine g_u (s_as_imm rfl rfl) ?_
  refine g_nil ?_
  refine normal_thn ?_
  refine aw_cond rfl (fun hb1 => ?_) (fun hb1 => ?_)
  · skip
    have q : k.size = 0 := by have e := hb1; rw [str_beq] at e; exact (size0 k).1 (of_decide_eq_true e)
    refine aw_seq ?_
    refine aw_region ?_
    refine g_u (s_as_imm rfl rfl) ?_
    refine g_nil ?_
    refine normal_thn ?_
    refine aw_ret ?_
    refine ret_blk ?_
    refine ret_thn ?_
    exact ⟨⟨(rfl : toAV (Al.look _ _) = some _).trans (congrArg some (by (exact congrArg iv (by unfold keyC; (repeat' split) <;> first | rfl | omega)))), rfl⟩, trivial⟩
  · skip
    have q : ¬ k.size = 0 := by have e := hb1; rw [str_beq] at e; exact fun h => of_decide_eq_false e ((size0 k).2 h)
    refine aw_seq ?_
    refine aw_region ?_
    refine g_u (s_mv_imm rfl rfl) ?_
    refine g_u (s_call1 (check_c _ (by omega)) rfl rfl) ?_
    refine g_u (s_geI rfl rfl rfl) ?_
    refine g_u (s_as_imm rfl rfl) ?_
    refine g_nil ?_
    refine normal_thn ?_
    refine aw_cond rfl (fun hb2 => ?_) (fun hb2 => ?_)
    · skip
      have q := of_decide_eq_true hb2
      refine aw_seq ?_
      refine aw_region ?_
      refine g_u (s_as_imm rfl rfl) ?_
      refine g_nil ?_
      refine normal_thn ?_
      refine aw_ret ?_
      refine ret_blk ?_
      refine ret_thn ?_
      exact ⟨⟨(rfl : toAV (Al.look _ _) = some _).trans (congrArg some (by (exact congrArg iv (by unfold keyC; (repeat' split) <;> first | rfl | omega)))), rfl⟩, trivial⟩
    · skip
      have q := of_decide_eq_false hb2
      refine aw_seq ?_
      refine aw_region ?_
      refine g_u (s_mv_imm rfl rfl) ?_
      refine g_u (s_lenS rfl rfl Tryd.underlying9) ?_
      refine g_u (s_gtI rfl rfl rfl) ?_
      refine g_u (s_as_imm rfl rfl) ?_
      refine g_nil ?_
      refine normal_thn ?_
      refine aw_cond rfl (fun hb3 => ?_) (fun hb3 => ?_)
      · skip
        have q := of_decide_eq_true hb3
        refine aw_seq ?_
        refine aw_region ?_
        refine g_u (s_as_imm rfl rfl) ?_
        refine g_nil ?_
        refine normal_thn ?_
        refine aw_ret ?_
        refine ret_blk ?_
        refine ret_thn ?_
        exact ⟨⟨(rfl : toAV (Al.look _ _) = some _).trans (congrArg some (by (exact congrArg iv (by unfold keyC; (repeat' split) <;> first | rfl | omega)))), rfl⟩, trivial⟩
      · skip
        have q := of_decide_eq_false hb3
        refine aw_skip ?_
        refine normal_blk ?_
        refine normal_thn ?_
        refine aw_seq ?_
        refine aw_region ?_
        refine g_u (s_as_imm rfl rfl) ?_
        refine g_nil ?_
        refine normal_thn ?_
        refine aw_ret ?_
        exact ⟨⟨(rfl : toAV (Al.look _ _) = some _).trans (congrArg some (by (exact congrArg iv (by unfold keyC; (repeat' split) <;> first | rfl | omega)))), rfl⟩, trivial⟩

set_option maxHeartbeats 2000000 in
theorem bare_c (v : GV) : PCall Tryd.prog Γ0 178 [v.av] [(bareV v).av] := by
  refine pcall_of Tryd.func178 rfl Tryd.ntmps178 (by kernel_rfl) rfl fun w0 I0 G0 => ?_
  refine aw_seq ?_
  refine aw_region ?_
  refine g_uG (s_box_imm 1001 rfl rfl rfl rfl) rfl ?_
  refine g_uG (s_alloc' 1002 rfl rfl rfl tZ76) rfl ?_
  refine g_nil ?_
  refine normal_thn ?_
  refine aw_seq ?_
  refine aw_region ?_
  refine g_u (s_fieldAddr rfl rfl fa76_0 rfl) ?_
  refine g_u (s_load_imm rfl rfl rfl tA5 tS5 rfl rfl) ?_
  refine g_u (s_build rfl tU76 us76 pl76 rfl rfl rfl rfl) ?_
  refine g_uG (s_alloc' 1003 rfl rfl rfl tZ76) rfl ?_
  refine g_u (s_store_imm rfl rfl rfl tS76 rfl rfl) ?_
  refine g_nil ?_
  refine normal_thn ?_
  refine aw_seq ?_
  refine aw_seq ?_
  refine aw_region ?_
  refine g_u (s_fieldAddr rfl rfl fa76_0 rfl) ?_
  refine g_u (s_load_imm rfl rfl rfl tA5 tS5 rfl rfl) ?_
  refine g_nil ?_
  refine normal_thn ?_
  refine aw_block ?_
  refine aw_seq ?_
  refine aw_seq ?_
  refine aw_region ?_
  refine g_u (s_eqI rfl rfl rfl) ?_
  refine g_u (s_as_imm rfl rfl) ?_
  refine g_nil ?_
  refine normal_thn ?_
  refine aw_cond rfl (fun hb1 => ?_) (fun hb1 => ?_)
  · skip
    have q := beq_iff_eq.1 hb1
    refine aw_skip ?_
    refine normal_thn ?_
    refine aw_cond rfl (fun hb2 => ?_) (fun hb2 => ?_)
    · skip
      have q := beq_iff_eq.1 hb2
      refine aw_region ?_
      refine g_u (s_fieldAddr rfl rfl fa76_1 rfl) ?_
      refine g_u (s_load_imm rfl rfl rfl tA9 tS9 rfl rfl) ?_
      refine g_u (s_fieldAddr rfl rfl fa76_1 rfl) ?_
      refine g_u (s_store_imm rfl rfl rfl tS9 rfl rfl) ?_
      refine g_nil ?_
      refine normal_blk ?_
      refine normal_thn ?_
      refine aw_seq ?_
      refine aw_region ?_
      refine g_u (s_load_agg rfl rfl rfl tA76 tS76 rfl rfl) ?_
      refine g_u (s_store_imm rfl rfl rfl tS76 rfl rfl) ?_
      refine g_nil ?_
      refine normal_thn ?_
      refine aw_ret ?_
      exact ⟨⟨_, _, _, _, _, _, _, rfl, rfl, tA76, tS76, rfl, rfl, (rfl : toAV _ = some _).trans (congrArg some (by (first | (exfalso; omega) | (rw [show bareV v = .mk v.kind v.text 0 0 [] [] from by unfold bareV; rw [if_pos (by omega), if_neg (by omega), if_neg (by omega), if_neg (by omega), if_neg (by omega)]]; rfl) | (rw [show bareV v = .mk v.kind ⟨#[]⟩ v.num 0 [] [] from by unfold bareV; rw [if_neg (by omega), if_pos (by omega), if_neg (by omega), if_neg (by omega), if_neg (by omega)]]; rfl) | (rw [show bareV v = .mk v.kind ⟨#[]⟩ 0 v.bits [] [] from by unfold bareV; rw [if_neg (by omega), if_neg (by omega), if_pos (by omega), if_neg (by omega), if_neg (by omega)]]; rfl) | (rw [show bareV v = .mk v.kind ⟨#[]⟩ 0 0 v.list [] from by unfold bareV; rw [if_neg (by omega), if_neg (by omega), if_neg (by omega), if_pos (by omega), if_neg (by omega)]]; rfl) | (rw [show bareV v = .mk v.kind ⟨#[]⟩ 0 0 [] v.map from by unfold bareV; rw [if_neg (by omega), if_neg (by omega), if_neg (by omega), if_neg (by omega), if_pos (by omega)]]; rfl) | (rw [show bareV v = .mk v.kind ⟨#[]⟩ 0 0 [] [] from by unfold bareV; rw [if_neg (by omega), if_neg (by omega), if_neg (by omega), if_neg (by omega), if_neg (by omega)]]; rfl))))⟩, trivial⟩
    · skip
      have q := beq_eq_false_iff_ne.1 hb2
      refine aw_seq ?_
      refine aw_seq ?_
      refine aw_region ?_
      refine g_u (s_eqI rfl rfl rfl) ?_
      refine g_u (s_as_imm rfl rfl) ?_
      refine g_nil ?_
      refine normal_thn ?_
      refine aw_cond rfl (fun hb3 => ?_) (fun hb3 => ?_)
      · skip
        have q := beq_iff_eq.1 hb3
        refine aw_skip ?_
        refine normal_thn ?_
        refine aw_cond rfl (fun hb4 => ?_) (fun hb4 => ?_)
        · skip
          have q := beq_iff_eq.1 hb4
          refine aw_region ?_
          refine g_u (s_fieldAddr rfl rfl fa76_2 rfl) ?_
          refine g_u (s_load_imm rfl rfl rfl tA3 tS3 rfl rfl) ?_
          refine g_u (s_fieldAddr rfl rfl fa76_2 rfl) ?_
          refine g_u (s_store_imm rfl rfl rfl tS3 rfl rfl) ?_
          refine g_nil ?_
          refine normal_blk ?_
          refine normal_thn ?_
          refine aw_seq ?_
          refine aw_region ?_
          refine g_u (s_load_agg rfl rfl rfl tA76 tS76 rfl rfl) ?_
          refine g_u (s_store_imm rfl rfl rfl tS76 rfl rfl) ?_
          refine g_nil ?_
          refine normal_thn ?_
          refine aw_ret ?_
          exact ⟨⟨_, _, _, _, _, _, _, rfl, rfl, tA76, tS76, rfl, rfl, (rfl : toAV _ = some _).trans (congrArg some (by (first | (exfalso; omega) | (rw [show bareV v = .mk v.kind v.text 0 0 [] [] from by unfold bareV; rw [if_pos (by omega), if_neg (by omega), if_neg (by omega), if_neg (by omega), if_neg (by omega)]]; rfl) | (rw [show bareV v = .mk v.kind ⟨#[]⟩ v.num 0 [] [] from by unfold bareV; rw [if_neg (by omega), if_pos (by omega), if_neg (by omega), if_neg (by omega), if_neg (by omega)]]; rfl) | (rw [show bareV v = .mk v.kind ⟨#[]⟩ 0 v.bits [] [] from by unfold bareV; rw [if_neg (by omega), if_neg (by omega), if_pos (by omega), if_neg (by omega), if_neg (by omega)]]; rfl) | (rw [show bareV v = .mk v.kind ⟨#[]⟩ 0 0 v.list [] from by unfold bareV; rw [if_neg (by omega), if_neg (by omega), if_neg (by omega), if_pos (by omega), if_neg (by omega)]]; rfl) | (rw [show bareV v = .mk v.kind ⟨#[]⟩ 0 0 [] v.map from by unfold bareV; rw [if_neg (by omega), if_neg (by omega), if_neg (by omega), if_neg (by omega), if_pos (by omega)]]; rfl) | (rw [show bareV v = .mk v.kind ⟨#[]⟩ 0 0 [] [] from by unfold bareV; rw [if_neg (by omega), if_neg (by omega), if_neg (by omega), if_neg (by omega), if_neg (by omega)]]; rfl))))⟩, trivial⟩
        · skip
          have q := beq_eq_false_iff_ne.1 hb4
          refine aw_seq ?_
          refine aw_region ?_
          refine g_u (s_eqI rfl rfl rfl) ?_
          refine g_u (s_as_imm rfl rfl) ?_
          refine g_nil ?_
          refine normal_thn ?_
          refine aw_cond rfl (fun hb5 => ?_) (fun hb5 => ?_)
          · skip
            have q := beq_iff_eq.1 hb5
            refine aw_region ?_
            refine g_u (s_fieldAddr rfl rfl fa76_3 rfl) ?_
            refine g_u (s_load_imm rfl rfl rfl tA26 tS26 rfl rfl) ?_
            refine g_u (s_fieldAddr rfl rfl fa76_3 rfl) ?_
            refine g_u (s_store_imm rfl rfl rfl tS26 rfl rfl) ?_
            refine g_nil ?_
            refine normal_blk ?_
            refine normal_thn ?_
            refine aw_seq ?_
            refine aw_region ?_
            refine g_u (s_load_agg rfl rfl rfl tA76 tS76 rfl rfl) ?_
            refine g_u (s_store_imm rfl rfl rfl tS76 rfl rfl) ?_
            refine g_nil ?_
            refine normal_thn ?_
            refine aw_ret ?_
            exact ⟨⟨_, _, _, _, _, _, _, rfl, rfl, tA76, tS76, rfl, rfl, (rfl : toAV _ = some _).trans (congrArg some (by (first | (exfalso; omega) | (rw [show bareV v = .mk v.kind v.text 0 0 [] [] from by unfold bareV; rw [if_pos (by omega), if_neg (by omega), if_neg (by omega), if_neg (by omega), if_neg (by omega)]]; rfl) | (rw [show bareV v = .mk v.kind ⟨#[]⟩ v.num 0 [] [] from by unfold bareV; rw [if_neg (by omega), if_pos (by omega), if_neg (by omega), if_neg (by omega), if_neg (by omega)]]; rfl) | (rw [show bareV v = .mk v.kind ⟨#[]⟩ 0 v.bits [] [] from by unfold bareV; rw [if_neg (by omega), if_neg (by omega), if_pos (by omega), if_neg (by omega), if_neg (by omega)]]; rfl) | (rw [show bareV v = .mk v.kind ⟨#[]⟩ 0 0 v.list [] from by unfold bareV; rw [if_neg (by omega), if_neg (by omega), if_neg (by omega), if_pos (by omega), if_neg (by omega)]]; rfl) | (rw [show bareV v = .mk v.kind ⟨#[]⟩ 0 0 [] v.map from by unfold bareV; rw [if_neg (by omega), if_neg (by omega), if_neg (by omega), if_neg (by omega), if_pos (by omega)]]; rfl) | (rw [show bareV v = .mk v.kind ⟨#[]⟩ 0 0 [] [] from by unfold bareV; rw [if_neg (by omega), if_neg (by omega), if_neg (by omega), if_neg (by omega), if_neg (by omega)]]; rfl))))⟩, trivial⟩
          · skip
            have q := beq_eq_false_iff_ne.1 hb5
            refine aw_seq ?_
            refine aw_region ?_
            refine g_u (s_eqI rfl rfl rfl) ?_
            refine g_u (s_as_imm rfl rfl) ?_
            refine g_nil ?_
            refine normal_thn ?_
            refine aw_cond rfl (fun hb6 => ?_) (fun hb6 => ?_)
            · skip
              have q := beq_iff_eq.1 hb6
              refine aw_region ?_
              refine g_u (s_fieldAddr rfl rfl fa76_4 rfl) ?_
              refine g_u (s_load_imm rfl rfl rfl tA74 tS74 rfl rfl) ?_
              refine g_u (s_fieldAddr rfl rfl fa76_4 rfl) ?_
              refine g_u (s_store_imm rfl rfl rfl tS74 rfl rfl) ?_
              refine g_nil ?_
              refine normal_blk ?_
              refine normal_thn ?_
              refine aw_seq ?_
              refine aw_region ?_
              refine g_u (s_load_agg rfl rfl rfl tA76 tS76 rfl rfl) ?_
              refine g_u (s_store_imm rfl rfl rfl tS76 rfl rfl) ?_
              refine g_nil ?_
              refine normal_thn ?_
              refine aw_ret ?_
              exact ⟨⟨_, _, _, _, _, _, _, rfl, rfl, tA76, tS76, rfl, rfl, (rfl : toAV _ = some _).trans (congrArg some (by (first | (exfalso; omega) | (rw [show bareV v = .mk v.kind v.text 0 0 [] [] from by unfold bareV; rw [if_pos (by omega), if_neg (by omega), if_neg (by omega), if_neg (by omega), if_neg (by omega)]]; rfl) | (rw [show bareV v = .mk v.kind ⟨#[]⟩ v.num 0 [] [] from by unfold bareV; rw [if_neg (by omega), if_pos (by omega), if_neg (by omega), if_neg (by omega), if_neg (by omega)]]; rfl) | (rw [show bareV v = .mk v.kind ⟨#[]⟩ 0 v.bits [] [] from by unfold bareV; rw [if_neg (by omega), if_neg (by omega), if_pos (by omega), if_neg (by omega), if_neg (by omega)]]; rfl) | (rw [show bareV v = .mk v.kind ⟨#[]⟩ 0 0 v.list [] from by unfold bareV; rw [if_neg (by omega), if_neg (by omega), if_neg (by omega), if_pos (by omega), if_neg (by omega)]]; rfl) | (rw [show bareV v = .mk v.kind ⟨#[]⟩ 0 0 [] v.map from by unfold bareV; rw [if_neg (by omega), if_neg (by omega), if_neg (by omega), if_neg (by omega), if_pos (by omega)]]; rfl) | (rw [show bareV v = .mk v.kind ⟨#[]⟩ 0 0 [] [] from by unfold bareV; rw [if_neg (by omega), if_neg (by omega), if_neg (by omega), if_neg (by omega), if_neg (by omega)]]; rfl))))⟩, trivial⟩
            · skip
              have q := beq_eq_false_iff_ne.1 hb6
              refine aw_seq ?_
              refine aw_region ?_
              refine g_u (s_eqI rfl rfl rfl) ?_
              refine g_u (s_as_imm rfl rfl) ?_
              refine g_nil ?_
              refine normal_thn ?_
              refine aw_cond rfl (fun hb7 => ?_) (fun hb7 => ?_)
              · skip
                have q := beq_iff_eq.1 hb7
                refine aw_region ?_
                refine g_u (s_fieldAddr rfl rfl fa76_5 rfl) ?_
                refine g_u (s_load_imm rfl rfl rfl tA27 tS27 rfl rfl) ?_
                refine g_u (s_fieldAddr rfl rfl fa76_5 rfl) ?_
                refine g_u (s_store_imm rfl rfl rfl tS27 rfl rfl) ?_
                refine g_nil ?_
                refine normal_blk ?_
                refine normal_thn ?_
                refine aw_seq ?_
                refine aw_region ?_
                refine g_u (s_load_agg rfl rfl rfl tA76 tS76 rfl rfl) ?_
                refine g_u (s_store_imm rfl rfl rfl tS76 rfl rfl) ?_
                refine g_nil ?_
                refine normal_thn ?_
                refine aw_ret ?_
                exact ⟨⟨_, _, _, _, _, _, _, rfl, rfl, tA76, tS76, rfl, rfl, (rfl : toAV _ = some _).trans (congrArg some (by (first | (exfalso; omega) | (rw [show bareV v = .mk v.kind v.text 0 0 [] [] from by unfold bareV; rw [if_pos (by omega), if_neg (by omega), if_neg (by omega), if_neg (by omega), if_neg (by omega)]]; rfl) | (rw [show bareV v = .mk v.kind ⟨#[]⟩ v.num 0 [] [] from by unfold bareV; rw [if_neg (by omega), if_pos (by omega), if_neg (by omega), if_neg (by omega), if_neg (by omega)]]; rfl) | (rw [show bareV v = .mk v.kind ⟨#[]⟩ 0 v.bits [] [] from by unfold bareV; rw [if_neg (by omega), if_neg (by omega), if_pos (by omega), if_neg (by omega), if_neg (by omega)]]; rfl) | (rw [show bareV v = .mk v.kind ⟨#[]⟩ 0 0 v.list [] from by unfold bareV; rw [if_neg (by omega), if_neg (by omega), if_neg (by omega), if_pos (by omega), if_neg (by omega)]]; rfl) | (rw [show bareV v = .mk v.kind ⟨#[]⟩ 0 0 [] v.map from by unfold bareV; rw [if_neg (by omega), if_neg (by omega), if_neg (by omega), if_neg (by omega), if_pos (by omega)]]; rfl) | (rw [show bareV v = .mk v.kind ⟨#[]⟩ 0 0 [] [] from by unfold bareV; rw [if_neg (by omega), if_neg (by omega), if_neg (by omega), if_neg (by omega), if_neg (by omega)]]; rfl))))⟩, trivial⟩
              · skip
                have q := beq_eq_false_iff_ne.1 hb7
                refine aw_skip ?_
                refine normal_blk ?_
                refine normal_thn ?_
                refine aw_seq ?_
                refine aw_region ?_
                refine g_u (s_load_agg rfl rfl rfl tA76 tS76 rfl rfl) ?_
                refine g_u (s_store_imm rfl rfl rfl tS76 rfl rfl) ?_
                refine g_nil ?_
                refine normal_thn ?_
                refine aw_ret ?_
                exact ⟨⟨_, _, _, _, _, _, _, rfl, rfl, tA76, tS76, rfl, rfl, (rfl : toAV _ = some _).trans (congrArg some (by (first | (exfalso; omega) | (rw [show bareV v = .mk v.kind v.text 0 0 [] [] from by unfold bareV; rw [if_pos (by omega), if_neg (by omega), if_neg (by omega), if_neg (by omega), if_neg (by omega)]]; rfl) | (rw [show bareV v = .mk v.kind ⟨#[]⟩ v.num 0 [] [] from by unfold bareV; rw [if_neg (by omega), if_pos (by omega), if_neg (by omega), if_neg (by omega), if_neg (by omega)]]; rfl) | (rw [show bareV v = .mk v.kind ⟨#[]⟩ 0 v.bits [] [] from by unfold bareV; rw [if_neg (by omega), if_neg (by omega), if_pos (by omega), if_neg (by omega), if_neg (by omega)]]; rfl) | (rw [show bareV v = .mk v.kind ⟨#[]⟩ 0 0 v.list [] from by unfold bareV; rw [if_neg (by omega), if_neg (by omega), if_neg (by omega), if_pos (by omega), if_neg (by omega)]]; rfl) | (rw [show bareV v = .mk v.kind ⟨#[]⟩ 0 0 [] v.map from by unfold bareV; rw [if_neg (by omega), if_neg (by omega), if_neg (by omega), if_neg (by omega), if_pos (by omega)]]; rfl) | (rw [show bareV v = .mk v.kind ⟨#[]⟩ 0 0 [] [] from by unfold bareV; rw [if_neg (by omega), if_neg (by omega), if_neg (by omega), if_neg (by omega), if_neg (by omega)]]; rfl))))⟩, trivial⟩
      · skip
        have q := beq_eq_false_iff_ne.1 hb3
        refine aw_region ?_
        refine g_u (s_eqI rfl rfl rfl) ?_
        refine g_u (s_as_imm rfl rfl) ?_
        refine g_nil ?_
        refine normal_thn ?_
        refine aw_cond rfl (fun hb8 => ?_) (fun hb8 => ?_)
        · skip
          have q := beq_iff_eq.1 hb8
          refine aw_region ?_
          refine g_u (s_fieldAddr rfl rfl fa76_2 rfl) ?_
          refine g_u (s_load_imm rfl rfl rfl tA3 tS3 rfl rfl) ?_
          refine g_u (s_fieldAddr rfl rfl fa76_2 rfl) ?_
          refine g_u (s_store_imm rfl rfl rfl tS3 rfl rfl) ?_
          refine g_nil ?_
          refine normal_blk ?_
          refine normal_thn ?_
          refine aw_seq ?_
          refine aw_region ?_
          refine g_u (s_load_agg rfl rfl rfl tA76 tS76 rfl rfl) ?_
          refine g_u (s_store_imm rfl rfl rfl tS76 rfl rfl) ?_
          refine g_nil ?_
          refine normal_thn ?_
          refine aw_ret ?_
          exact ⟨⟨_, _, _, _, _, _, _, rfl, rfl, tA76, tS76, rfl, rfl, (rfl : toAV _ = some _).trans (congrArg some (by (first | (exfalso; omega) | (rw [show bareV v = .mk v.kind v.text 0 0 [] [] from by unfold bareV; rw [if_pos (by omega), if_neg (by omega), if_neg (by omega), if_neg (by omega), if_neg (by omega)]]; rfl) | (rw [show bareV v = .mk v.kind ⟨#[]⟩ v.num 0 [] [] from by unfold bareV; rw [if_neg (by omega), if_pos (by omega), if_neg (by omega), if_neg (by omega), if_neg (by omega)]]; rfl) | (rw [show bareV v = .mk v.kind ⟨#[]⟩ 0 v.bits [] [] from by unfold bareV; rw [if_neg (by omega), if_neg (by omega), if_pos (by omega), if_neg (by omega), if_neg (by omega)]]; rfl) | (rw [show bareV v = .mk v.kind ⟨#[]⟩ 0 0 v.list [] from by unfold bareV; rw [if_neg (by omega), if_neg (by omega), if_neg (by omega), if_pos (by omega), if_neg (by omega)]]; rfl) | (rw [show bareV v = .mk v.kind ⟨#[]⟩ 0 0 [] v.map from by unfold bareV; rw [if_neg (by omega), if_neg (by omega), if_neg (by omega), if_neg (by omega), if_pos (by omega)]]; rfl) | (rw [show bareV v = .mk v.kind ⟨#[]⟩ 0 0 [] [] from by unfold bareV; rw [if_neg (by omega), if_neg (by omega), if_neg (by omega), if_neg (by omega), if_neg (by omega)]]; rfl))))⟩, trivial⟩
        · skip
          have q := beq_eq_false_iff_ne.1 hb8
          refine aw_seq ?_
          refine aw_region ?_
          refine g_u (s_eqI rfl rfl rfl) ?_
          refine g_u (s_as_imm rfl rfl) ?_
          refine g_nil ?_
          refine normal_thn ?_
          refine aw_cond rfl (fun hb9 => ?_) (fun hb9 => ?_)
          · skip
            have q := beq_iff_eq.1 hb9
            refine aw_region ?_
            refine g_u (s_fieldAddr rfl rfl fa76_3 rfl) ?_
            refine g_u (s_load_imm rfl rfl rfl tA26 tS26 rfl rfl) ?_
            refine g_u (s_fieldAddr rfl rfl fa76_3 rfl) ?_
            refine g_u (s_store_imm rfl rfl rfl tS26 rfl rfl) ?_
            refine g_nil ?_
            refine normal_blk ?_
            refine normal_thn ?_
            refine aw_seq ?_
            refine aw_region ?_
            refine g_u (s_load_agg rfl rfl rfl tA76 tS76 rfl rfl) ?_
            refine g_u (s_store_imm rfl rfl rfl tS76 rfl rfl) ?_
            refine g_nil ?_
            refine normal_thn ?_
            refine aw_ret ?_
            exact ⟨⟨_, _, _, _, _, _, _, rfl, rfl, tA76, tS76, rfl, rfl, (rfl : toAV _ = some _).trans (congrArg some (by (first | (exfalso; omega) | (rw [show bareV v = .mk v.kind v.text 0 0 [] [] from by unfold bareV; rw [if_pos (by omega), if_neg (by omega), if_neg (by omega), if_neg (by omega), if_neg (by omega)]]; rfl) | (rw [show bareV v = .mk v.kind ⟨#[]⟩ v.num 0 [] [] from by unfold bareV; rw [if_neg (by omega), if_pos (by omega), if_neg (by omega), if_neg (by omega), if_neg (by omega)]]; rfl) | (rw [show bareV v = .mk v.kind ⟨#[]⟩ 0 v.bits [] [] from by unfold bareV; rw [if_neg (by omega), if_neg (by omega), if_pos (by omega), if_neg (by omega), if_neg (by omega)]]; rfl) | (rw [show bareV v = .mk v.kind ⟨#[]⟩ 0 0 v.list [] from by unfold bareV; rw [if_neg (by omega), if_neg (by omega), if_neg (by omega), if_pos (by omega), if_neg (by omega)]]; rfl) | (rw [show bareV v = .mk v.kind ⟨#[]⟩ 0 0 [] v.map from by unfold bareV; rw [if_neg (by omega), if_neg (by omega), if_neg (by omega), if_neg (by omega), if_pos (by omega)]]; rfl) | (rw [show bareV v = .mk v.kind ⟨#[]⟩ 0 0 [] [] from by unfold bareV; rw [if_neg (by omega), if_neg (by omega), if_neg (by omega), if_neg (by omega), if_neg (by omega)]]; rfl))))⟩, trivial⟩
          · skip
            have q := beq_eq_false_iff_ne.1 hb9
            refine aw_seq ?_
            refine aw_region ?_
            refine g_u (s_eqI rfl rfl rfl) ?_
            refine g_u (s_as_imm rfl rfl) ?_
            refine g_nil ?_
            refine normal_thn ?_
            refine aw_cond rfl (fun hb10 => ?_) (fun hb10 => ?_)
            · skip
              have q := beq_iff_eq.1 hb10
              refine aw_region ?_
              refine g_u (s_fieldAddr rfl rfl fa76_4 rfl) ?_
              refine g_u (s_load_imm rfl rfl rfl tA74 tS74 rfl rfl) ?_
              refine g_u (s_fieldAddr rfl rfl fa76_4 rfl) ?_
              refine g_u (s_store_imm rfl rfl rfl tS74 rfl rfl) ?_
              refine g_nil ?_
              refine normal_blk ?_
              refine normal_thn ?_
              refine aw_seq ?_
              refine aw_region ?_
              refine g_u (s_load_agg rfl rfl rfl tA76 tS76 rfl rfl) ?_
              refine g_u (s_store_imm rfl rfl rfl tS76 rfl rfl) ?_
              refine g_nil ?_
              refine normal_thn ?_
              refine aw_ret ?_
              exact ⟨⟨_, _, _, _, _, _, _, rfl, rfl, tA76, tS76, rfl, rfl, (rfl : toAV _ = some _).trans (congrArg some (by (first | (exfalso; omega) | (rw [show bareV v = .mk v.kind v.text 0 0 [] [] from by unfold bareV; rw [if_pos (by omega), if_neg (by omega), if_neg (by omega), if_neg (by omega), if_neg (by omega)]]; rfl) | (rw [show bareV v = .mk v.kind ⟨#[]⟩ v.num 0 [] [] from by unfold bareV; rw [if_neg (by omega), if_pos (by omega), if_neg (by omega), if_neg (by omega), if_neg (by omega)]]; rfl) | (rw [show bareV v = .mk v.kind ⟨#[]⟩ 0 v.bits [] [] from by unfold bareV; rw [if_neg (by omega), if_neg (by omega), if_pos (by omega), if_neg (by omega), if_neg (by omega)]]; rfl) | (rw [show bareV v = .mk v.kind ⟨#[]⟩ 0 0 v.list [] from by unfold bareV; rw [if_neg (by omega), if_neg (by omega), if_neg (by omega), if_pos (by omega), if_neg (by omega)]]; rfl) | (rw [show bareV v = .mk v.kind ⟨#[]⟩ 0 0 [] v.map from by unfold bareV; rw [if_neg (by omega), if_neg (by omega), if_neg (by omega), if_neg (by omega), if_pos (by omega)]]; rfl) | (rw [show bareV v = .mk v.kind ⟨#[]⟩ 0 0 [] [] from by unfold bareV; rw [if_neg (by omega), if_neg (by omega), if_neg (by omega), if_neg (by omega), if_neg (by omega)]]; rfl))))⟩, trivial⟩
            · skip
              have q := beq_eq_false_iff_ne.1 hb10
              refine aw_seq ?_
              refine aw_region ?_
              refine g_u (s_eqI rfl rfl rfl) ?_
              refine g_u (s_as_imm rfl rfl) ?_
              refine g_nil ?_
              refine normal_thn ?_
              refine aw_cond rfl (fun hb11 => ?_) (fun hb11 => ?_)
              · skip
                have q := beq_iff_eq.1 hb11
                refine aw_region ?_
                refine g_u (s_fieldAddr rfl rfl fa76_5 rfl) ?_
                refine g_u (s_load_imm rfl rfl rfl tA27 tS27 rfl rfl) ?_
                refine g_u (s_fieldAddr rfl rfl fa76_5 rfl) ?_
                refine g_u (s_store_imm rfl rfl rfl tS27 rfl rfl) ?_
                refine g_nil ?_
                refine normal_blk ?_
                refine normal_thn ?_
                refine aw_seq ?_
                refine aw_region ?_
                refine g_u (s_load_agg rfl rfl rfl tA76 tS76 rfl rfl) ?_
                refine g_u (s_store_imm rfl rfl rfl tS76 rfl rfl) ?_
                refine g_nil ?_
                refine normal_thn ?_
                refine aw_ret ?_
                exact ⟨⟨_, _, _, _, _, _, _, rfl, rfl, tA76, tS76, rfl, rfl, (rfl : toAV _ = some _).trans (congrArg some (by (first | (exfalso; omega) | (rw [show bareV v = .mk v.kind v.text 0 0 [] [] from by unfold bareV; rw [if_pos (by omega), if_neg (by omega), if_neg (by omega), if_neg (by omega), if_neg (by omega)]]; rfl) | (rw [show bareV v = .mk v.kind ⟨#[]⟩ v.num 0 [] [] from by unfold bareV; rw [if_neg (by omega), if_pos (by omega), if_neg (by omega), if_neg (by omega), if_neg (by omega)]]; rfl) | (rw [show bareV v = .mk v.kind ⟨#[]⟩ 0 v.bits [] [] from by unfold bareV; rw [if_neg (by omega), if_neg (by omega), if_pos (by omega), if_neg (by omega), if_neg (by omega)]]; rfl) | (rw [show bareV v = .mk v.kind ⟨#[]⟩ 0 0 v.list [] from by unfold bareV; rw [if_neg (by omega), if_neg (by omega), if_neg (by omega), if_pos (by omega), if_neg (by omega)]]; rfl) | (rw [show bareV v = .mk v.kind ⟨#[]⟩ 0 0 [] v.map from by unfold bareV; rw [if_neg (by omega), if_neg (by omega), if_neg (by omega), if_neg (by omega), if_pos (by omega)]]; rfl) | (rw [show bareV v = .mk v.kind ⟨#[]⟩ 0 0 [] [] from by unfold bareV; rw [if_neg (by omega), if_neg (by omega), if_neg (by omega), if_neg (by omega), if_neg (by omega)]]; rfl))))⟩, trivial⟩
              · skip
                have q := beq_eq_false_iff_ne.1 hb11
                refine aw_skip ?_
                refine normal_blk ?_
                refine normal_thn ?_
                refine aw_seq ?_
                refine aw_region ?_
                refine g_u (s_load_agg rfl rfl rfl tA76 tS76 rfl rfl) ?_
                refine g_u (s_store_imm rfl rfl rfl tS76 rfl rfl) ?_
                refine g_nil ?_
                refine normal_thn ?_
                refine aw_ret ?_
                exact ⟨⟨_, _, _, _, _, _, _, rfl, rfl, tA76, tS76, rfl, rfl, (rfl : toAV _ = some _).trans (congrArg some (by (first | (exfalso; omega) | (rw [show bareV v = .mk v.kind v.text 0 0 [] [] from by unfold bareV; rw [if_pos (by omega), if_neg (by omega), if_neg (by omega), if_neg (by omega), if_neg (by omega)]]; rfl) | (rw [show bareV v = .mk v.kind ⟨#[]⟩ v.num 0 [] [] from by unfold bareV; rw [if_neg (by omega), if_pos (by omega), if_neg (by omega), if_neg (by omega), if_neg (by omega)]]; rfl) | (rw [show bareV v = .mk v.kind ⟨#[]⟩ 0 v.bits [] [] from by unfold bareV; rw [if_neg (by omega), if_neg (by omega), if_pos (by omega), if_neg (by omega), if_neg (by omega)]]; rfl) | (rw [show bareV v = .mk v.kind ⟨#[]⟩ 0 0 v.list [] from by unfold bareV; rw [if_neg (by omega), if_neg (by omega), if_neg (by omega), if_pos (by omega), if_neg (by omega)]]; rfl) | (rw [show bareV v = .mk v.kind ⟨#[]⟩ 0 0 [] v.map from by unfold bareV; rw [if_neg (by omega), if_neg (by omega), if_neg (by omega), if_neg (by omega), if_pos (by omega)]]; rfl) | (rw [show bareV v = .mk v.kind ⟨#[]⟩ 0 0 [] [] from by unfold bareV; rw [if_neg (by omega), if_neg (by omega), if_neg (by omega), if_neg (by omega), if_neg (by omega)]]; rfl))))⟩, trivial⟩
  · skip
    have q := beq_eq_false_iff_ne.1 hb1
    refine aw_region ?_
    refine g_u (s_eqI rfl rfl rfl) ?_
    refine g_u (s_as_imm rfl rfl) ?_
    refine g_nil ?_
    refine normal_thn ?_
    refine aw_cond rfl (fun hb12 => ?_) (fun hb12 => ?_)
    · skip
      have q := beq_iff_eq.1 hb12
      refine aw_region ?_
      refine g_u (s_fieldAddr rfl rfl fa76_1 rfl) ?_
      refine g_u (s_load_imm rfl rfl rfl tA9 tS9 rfl rfl) ?_
      refine g_u (s_fieldAddr rfl rfl fa76_1 rfl) ?_
      refine g_u (s_store_imm rfl rfl rfl tS9 rfl rfl) ?_
      refine g_nil ?_
      refine normal_blk ?_
      refine normal_thn ?_
      refine aw_seq ?_
      refine aw_region ?_
      refine g_u (s_load_agg rfl rfl rfl tA76 tS76 rfl rfl) ?_
      refine g_u (s_store_imm rfl rfl rfl tS76 rfl rfl) ?_
      refine g_nil ?_
      refine normal_thn ?_
      refine aw_ret ?_
      exact ⟨⟨_, _, _, _, _, _, _, rfl, rfl, tA76, tS76, rfl, rfl, (rfl : toAV _ = some _).trans (congrArg some (by (first | (exfalso; omega) | (rw [show bareV v = .mk v.kind v.text 0 0 [] [] from by unfold bareV; rw [if_pos (by omega), if_neg (by omega), if_neg (by omega), if_neg (by omega), if_neg (by omega)]]; rfl) | (rw [show bareV v = .mk v.kind ⟨#[]⟩ v.num 0 [] [] from by unfold bareV; rw [if_neg (by omega), if_pos (by omega), if_neg (by omega), if_neg (by omega), if_neg (by omega)]]; rfl) | (rw [show bareV v = .mk v.kind ⟨#[]⟩ 0 v.bits [] [] from by unfold bareV; rw [if_neg (by omega), if_neg (by omega), if_pos (by omega), if_neg (by omega), if_neg (by omega)]]; rfl) | (rw [show bareV v = .mk v.kind ⟨#[]⟩ 0 0 v.list [] from by unfold bareV; rw [if_neg (by omega), if_neg (by omega), if_neg (by omega), if_pos (by omega), if_neg (by omega)]]; rfl) | (rw [show bareV v = .mk v.kind ⟨#[]⟩ 0 0 [] v.map from by unfold bareV; rw [if_neg (by omega), if_neg (by omega), if_neg (by omega), if_neg (by omega), if_pos (by omega)]]; rfl) | (rw [show bareV v = .mk v.kind ⟨#[]⟩ 0 0 [] [] from by unfold bareV; rw [if_neg (by omega), if_neg (by omega), if_neg (by omega), if_neg (by omega), if_neg (by omega)]]; rfl))))⟩, trivial⟩
    · skip
      have q := beq_eq_false_iff_ne.1 hb12
      refine aw_seq ?_
      refine aw_seq ?_
      refine aw_region ?_
      refine g_u (s_eqI rfl rfl rfl) ?_
      refine g_u (s_as_imm rfl rfl) ?_
      refine g_nil ?_
      refine normal_thn ?_
      refine aw_cond rfl (fun hb13 => ?_) (fun hb13 => ?_)
      · skip
        have q := beq_iff_eq.1 hb13
        refine aw_skip ?_
        refine normal_thn ?_
        refine aw_cond rfl (fun hb14 => ?_) (fun hb14 => ?_)
        · skip
          have q := beq_iff_eq.1 hb14
          refine aw_region ?_
          refine g_u (s_fieldAddr rfl rfl fa76_2 rfl) ?_
          refine g_u (s_load_imm rfl rfl rfl tA3 tS3 rfl rfl) ?_
          refine g_u (s_fieldAddr rfl rfl fa76_2 rfl) ?_
          refine g_u (s_store_imm rfl rfl rfl tS3 rfl rfl) ?_
          refine g_nil ?_
          refine normal_blk ?_
          refine normal_thn ?_
          refine aw_seq ?_
          refine aw_region ?_
          refine g_u (s_load_agg rfl rfl rfl tA76 tS76 rfl rfl) ?_
          refine g_u (s_store_imm rfl rfl rfl tS76 rfl rfl) ?_
          refine g_nil ?_
          refine normal_thn ?_
          refine aw_ret ?_
          exact ⟨⟨_, _, _, _, _, _, _, rfl, rfl, tA76, tS76, rfl, rfl, (rfl : toAV _ = some _).trans (congrArg some (by (first | (exfalso; omega) | (rw [show bareV v = .mk v.kind v.text 0 0 [] [] from by unfold bareV; rw [if_pos (by omega), if_neg (by omega), if_neg (by omega), if_neg (by omega), if_neg (by omega)]]; rfl) | (rw [show bareV v = .mk v.kind ⟨#[]⟩ v.num 0 [] [] from by unfold bareV; rw [if_neg (by omega), if_pos (by omega), if_neg (by omega), if_neg (by omega), if_neg (by omega)]]; rfl) | (rw [show bareV v = .mk v.kind ⟨#[]⟩ 0 v.bits [] [] from by unfold bareV; rw [if_neg (by omega), if_neg (by omega), if_pos (by omega), if_neg (by omega), if_neg (by omega)]]; rfl) | (rw [show bareV v = .mk v.kind ⟨#[]⟩ 0 0 v.list [] from by unfold bareV; rw [if_neg (by omega), if_neg (by omega), if_neg (by omega), if_pos (by omega), if_neg (by omega)]]; rfl) | (rw [show bareV v = .mk v.kind ⟨#[]⟩ 0 0 [] v.map from by unfold bareV; rw [if_neg (by omega), if_neg (by omega), if_neg (by omega), if_neg (by omega), if_pos (by omega)]]; rfl) | (rw [show bareV v = .mk v.kind ⟨#[]⟩ 0 0 [] [] from by unfold bareV; rw [if_neg (by omega), if_neg (by omega), if_neg (by omega), if_neg (by omega), if_neg (by omega)]]; rfl))))⟩, trivial⟩
        · skip
          have q := beq_eq_false_iff_ne.1 hb14
          refine aw_seq ?_
          refine aw_region ?_
          refine g_u (s_eqI rfl rfl rfl) ?_
          refine g_u (s_as_imm rfl rfl) ?_
          refine g_nil ?_
          refine normal_thn ?_
          refine aw_cond rfl (fun hb15 => ?_) (fun hb15 => ?_)
          · skip
            have q := beq_iff_eq.1 hb15
            refine aw_region ?_
            refine g_u (s_fieldAddr rfl rfl fa76_3 rfl) ?_
            refine g_u (s_load_imm rfl rfl rfl tA26 tS26 rfl rfl) ?_
            refine g_u (s_fieldAddr rfl rfl fa76_3 rfl) ?_
            refine g_u (s_store_imm rfl rfl rfl tS26 rfl rfl) ?_
            refine g_nil ?_
            refine normal_blk ?_
            refine normal_thn ?_
            refine aw_seq ?_
            refine aw_region ?_
            refine g_u (s_load_agg rfl rfl rfl tA76 tS76 rfl rfl) ?_
            refine g_u (s_store_imm rfl rfl rfl tS76 rfl rfl) ?_
            refine g_nil ?_
            refine normal_thn ?_
            refine aw_ret ?_
            exact ⟨⟨_, _, _, _, _, _, _, rfl, rfl, tA76, tS76, rfl, rfl, (rfl : toAV _ = some _).trans (congrArg some (by (first | (exfalso; omega) | (rw [show bareV v = .mk v.kind v.text 0 0 [] [] from by unfold bareV; rw [if_pos (by omega), if_neg (by omega), if_neg (by omega), if_neg (by omega), if_neg (by omega)]]; rfl) | (rw [show bareV v = .mk v.kind ⟨#[]⟩ v.num 0 [] [] from by unfold bareV; rw [if_neg (by omega), if_pos (by omega), if_neg (by omega), if_neg (by omega), if_neg (by omega)]]; rfl) | (rw [show bareV v = .mk v.kind ⟨#[]⟩ 0 v.bits [] [] from by unfold bareV; rw [if_neg (by omega), if_neg (by omega), if_pos (by omega), if_neg (by omega), if_neg (by omega)]]; rfl) | (rw [show bareV v = .mk v.kind ⟨#[]⟩ 0 0 v.list [] from by unfold bareV; rw [if_neg (by omega), if_neg (by omega), if_neg (by omega), if_pos (by omega), if_neg (by omega)]]; rfl) | (rw [show bareV v = .mk v.kind ⟨#[]⟩ 0 0 [] v.map from by unfold bareV; rw [if_neg (by omega), if_neg (by omega), if_neg (by omega), if_neg (by omega), if_pos (by omega)]]; rfl) | (rw [show bareV v = .mk v.kind ⟨#[]⟩ 0 0 [] [] from by unfold bareV; rw [if_neg (by omega), if_neg (by omega), if_neg (by omega), if_neg (by omega), if_neg (by omega)]]; rfl))))⟩, trivial⟩
          · skip
            have q := beq_eq_false_iff_ne.1 hb15
            refine aw_seq ?_
            refine aw_region ?_
            refine g_u (s_eqI rfl rfl rfl) ?_
            refine g_u (s_as_imm rfl rfl) ?_
            refine g_nil ?_
            refine normal_thn ?_
            refine aw_cond rfl (fun hb16 => ?_) (fun hb16 => ?_)
            · skip
              have q := beq_iff_eq.1 hb16
              refine aw_region ?_
              refine g_u (s_fieldAddr rfl rfl fa76_4 rfl) ?_
              refine g_u (s_load_imm rfl rfl rfl tA74 tS74 rfl rfl) ?_
              refine g_u (s_fieldAddr rfl rfl fa76_4 rfl) ?_
              refine g_u (s_store_imm rfl rfl rfl tS74 rfl rfl) ?_
              refine g_nil ?_
              refine normal_blk ?_
              refine normal_thn ?_
              refine aw_seq ?_
              refine aw_region ?_
              refine g_u (s_load_agg rfl rfl rfl tA76 tS76 rfl rfl) ?_
              refine g_u (s_store_imm rfl rfl rfl tS76 rfl rfl) ?_
              refine g_nil ?_
              refine normal_thn ?_
              refine aw_ret ?_
              exact ⟨⟨_, _, _, _, _, _, _, rfl, rfl, tA76, tS76, rfl, rfl, (rfl : toAV _ = some _).trans (congrArg some (by (first | (exfalso; omega) | (rw [show bareV v = .mk v.kind v.text 0 0 [] [] from by unfold bareV; rw [if_pos (by omega), if_neg (by omega), if_neg (by omega), if_neg (by omega), if_neg (by omega)]]; rfl) | (rw [show bareV v = .mk v.kind ⟨#[]⟩ v.num 0 [] [] from by unfold bareV; rw [if_neg (by omega), if_pos (by omega), if_neg (by omega), if_neg (by omega), if_neg (by omega)]]; rfl) | (rw [show bareV v = .mk v.kind ⟨#[]⟩ 0 v.bits [] [] from by unfold bareV; rw [if_neg (by omega), if_neg (by omega), if_pos (by omega), if_neg (by omega), if_neg (by omega)]]; rfl) | (rw [show bareV v = .mk v.kind ⟨#[]⟩ 0 0 v.list [] from by unfold bareV; rw [if_neg (by omega), if_neg (by omega), if_neg (by omega), if_pos (by omega), if_neg (by omega)]]; rfl) | (rw [show bareV v = .mk v.kind ⟨#[]⟩ 0 0 [] v.map from by unfold bareV; rw [if_neg (by omega), if_neg (by omega), if_neg (by omega), if_neg (by omega), if_pos (by omega)]]; rfl) | (rw [show bareV v = .mk v.kind ⟨#[]⟩ 0 0 [] [] from by unfold bareV; rw [if_neg (by omega), if_neg (by omega), if_neg (by omega), if_neg (by omega), if_neg (by omega)]]; rfl))))⟩, trivial⟩
            · skip
              have q := beq_eq_false_iff_ne.1 hb16
              refine aw_seq ?_
              refine aw_region ?_
              refine g_u (s_eqI rfl rfl rfl) ?_
              refine g_u (s_as_imm rfl rfl) ?_
              refine g_nil ?_
              refine normal_thn ?_
              refine aw_cond rfl (fun hb17 => ?_) (fun hb17 => ?_)
              · skip
                have q := beq_iff_eq.1 hb17
                refine aw_region ?_
                refine g_u (s_fieldAddr rfl rfl fa76_5 rfl) ?_
                refine g_u (s_load_imm rfl rfl rfl tA27 tS27 rfl rfl) ?_
                refine g_u (s_fieldAddr rfl rfl fa76_5 rfl) ?_
                refine g_u (s_store_imm rfl rfl rfl tS27 rfl rfl) ?_
                refine g_nil ?_
                refine normal_blk ?_
                refine normal_thn ?_
                refine aw_seq ?_
                refine aw_region ?_
                refine g_u (s_load_agg rfl rfl rfl tA76 tS76 rfl rfl) ?_
                refine g_u (s_store_imm rfl rfl rfl tS76 rfl rfl) ?_
                refine g_nil ?_
                refine normal_thn ?_
                refine aw_ret ?_
                exact ⟨⟨_, _, _, _, _, _, _, rfl, rfl, tA76, tS76, rfl, rfl, (rfl : toAV _ = some _).trans (congrArg some (by (first | (exfalso; omega) | (rw [show bareV v = .mk v.kind v.text 0 0 [] [] from by unfold bareV; rw [if_pos (by omega), if_neg (by omega), if_neg (by omega), if_neg (by omega), if_neg (by omega)]]; rfl) | (rw [show bareV v = .mk v.kind ⟨#[]⟩ v.num 0 [] [] from by unfold bareV; rw [if_neg (by omega), if_pos (by omega), if_neg (by omega), if_neg (by omega), if_neg (by omega)]]; rfl) | (rw [show bareV v = .mk v.kind ⟨#[]⟩ 0 v.bits [] [] from by unfold bareV; rw [if_neg (by omega), if_neg (by omega), if_pos (by omega), if_neg (by omega), if_neg (by omega)]]; rfl) | (rw [show bareV v = .mk v.kind ⟨#[]⟩ 0 0 v.list [] from by unfold bareV; rw [if_neg (by omega), if_neg (by omega), if_neg (by omega), if_pos (by omega), if_neg (by omega)]]; rfl) | (rw [show bareV v = .mk v.kind ⟨#[]⟩ 0 0 [] v.map from by unfold bareV; rw [if_neg (by omega), if_neg (by omega), if_neg (by omega), if_neg (by omega), if_pos (by omega)]]; rfl) | (rw [show bareV v = .mk v.kind ⟨#[]⟩ 0 0 [] [] from by unfold bareV; rw [if_neg (by omega), if_neg (by omega), if_neg (by omega), if_neg (by omega), if_neg (by omega)]]; rfl))))⟩, trivial⟩
              · skip
                have q := beq_eq_false_iff_ne.1 hb17
                refine aw_skip ?_
                refine normal_blk ?_
                refine normal_thn ?_
                refine aw_seq ?_
                refine aw_region ?_
                refine g_u (s_load_agg rfl rfl rfl tA76 tS76 rfl rfl) ?_
                refine g_u (s_store_imm rfl rfl rfl tS76 rfl rfl) ?_
                refine g_nil ?_
                refine normal_thn ?_
                refine aw_ret ?_
                exact ⟨⟨_, _, _, _, _, _, _, rfl, rfl, tA76, tS76, rfl, rfl, (rfl : toAV _ = some _).trans (congrArg some (by (first | (exfalso; omega) | (rw [show bareV v = .mk v.kind v.text 0 0 [] [] from by unfold bareV; rw [if_pos (by omega), if_neg (by omega), if_neg (by omega), if_neg (by omega), if_neg (by omega)]]; rfl) | (rw [show bareV v = .mk v.kind ⟨#[]⟩ v.num 0 [] [] from by unfold bareV; rw [if_neg (by omega), if_pos (by omega), if_neg (by omega), if_neg (by omega), if_neg (by omega)]]; rfl) | (rw [show bareV v = .mk v.kind ⟨#[]⟩ 0 v.bits [] [] from by unfold bareV; rw [if_neg (by omega), if_neg (by omega), if_pos (by omega), if_neg (by omega), if_neg (by omega)]]; rfl) | (rw [show bareV v = .mk v.kind ⟨#[]⟩ 0 0 v.list [] from by unfold bareV; rw [if_neg (by omega), if_neg (by omega), if_neg (by omega), if_pos (by omega), if_neg (by omega)]]; rfl) | (rw [show bareV v = .mk v.kind ⟨#[]⟩ 0 0 [] v.map from by unfold bareV; rw [if_neg (by omega), if_neg (by omega), if_neg (by omega), if_neg (by omega), if_pos (by omega)]]; rfl) | (rw [show bareV v = .mk v.kind ⟨#[]⟩ 0 0 [] [] from by unfold bareV; rw [if_neg (by omega), if_neg (by omega), if_neg (by omega), if_neg (by omega), if_neg (by omega)]]; rfl))))⟩, trivial⟩
      · skip
        have q := beq_eq_false_iff_ne.1 hb13
        refine aw_region ?_
        refine g_u (s_eqI rfl rfl rfl) ?_
        refine g_u (s_as_imm rfl rfl) ?_
        refine g_nil ?_
        refine normal_thn ?_
        refine aw_cond rfl (fun hb18 => ?_) (fun hb18 => ?_)
        · skip
          have q := beq_iff_eq.1 hb18
          refine aw_region ?_
          refine g_u (s_fieldAddr rfl rfl fa76_2 rfl) ?_
          refine g_u (s_load_imm rfl rfl rfl tA3 tS3 rfl rfl) ?_
          refine g_u (s_fieldAddr rfl rfl fa76_2 rfl) ?_
          refine g_u (s_store_imm rfl rfl rfl tS3 rfl rfl) ?_
          refine g_nil ?_
          refine normal_blk ?_
          refine normal_thn ?_
          refine aw_seq ?_
          refine aw_region ?_
          refine g_u (s_load_agg rfl rfl rfl tA76 tS76 rfl rfl) ?_
          refine g_u (s_store_imm rfl rfl rfl tS76 rfl rfl) ?_
          refine g_nil ?_
          refine normal_thn ?_
          refine aw_ret ?_
          exact ⟨⟨_, _, _, _, _, _, _, rfl, rfl, tA76, tS76, rfl, rfl, (rfl : toAV _ = some _).trans (congrArg some (by (first | (exfalso; omega) | (rw [show bareV v = .mk v.kind v.text 0 0 [] [] from by unfold bareV; rw [if_pos (by omega), if_neg (by omega), if_neg (by omega), if_neg (by omega), if_neg (by omega)]]; rfl) | (rw [show bareV v = .mk v.kind ⟨#[]⟩ v.num 0 [] [] from by unfold bareV; rw [if_neg (by omega), if_pos (by omega), if_neg (by omega), if_neg (by omega), if_neg (by omega)]]; rfl) | (rw [show bareV v = .mk v.kind ⟨#[]⟩ 0 v.bits [] [] from by unfold bareV; rw [if_neg (by omega), if_neg (by omega), if_pos (by omega), if_neg (by omega), if_neg (by omega)]]; rfl) | (rw [show bareV v = .mk v.kind ⟨#[]⟩ 0 0 v.list [] from by unfold bareV; rw [if_neg (by omega), if_neg (by omega), if_neg (by omega), if_pos (by omega), if_neg (by omega)]]; rfl) | (rw [show bareV v = .mk v.kind ⟨#[]⟩ 0 0 [] v.map from by unfold bareV; rw [if_neg (by omega), if_neg (by omega), if_neg (by omega), if_neg (by omega), if_pos (by omega)]]; rfl) | (rw [show bareV v = .mk v.kind ⟨#[]⟩ 0 0 [] [] from by unfold bareV; rw [if_neg (by omega), if_neg (by omega), if_neg (by omega), if_neg (by omega), if_neg (by omega)]]; rfl))))⟩, trivial⟩
        · skip
          have q := beq_eq_false_iff_ne.1 hb18
          refine aw_seq ?_
          refine aw_region ?_
          refine g_u (s_eqI rfl rfl rfl) ?_
          refine g_u (s_as_imm rfl rfl) ?_
          refine g_nil ?_
          refine normal_thn ?_
          refine aw_cond rfl (fun hb19 => ?_) (fun hb19 => ?_)
          · skip
            have q := beq_iff_eq.1 hb19
            refine aw_region ?_
            refine g_u (s_fieldAddr rfl rfl fa76_3 rfl) ?_
            refine g_u (s_load_imm rfl rfl rfl tA26 tS26 rfl rfl) ?_
            refine g_u (s_fieldAddr rfl rfl fa76_3 rfl) ?_
            refine g_u (s_store_imm rfl rfl rfl tS26 rfl rfl) ?_
            refine g_nil ?_
            refine normal_blk ?_
            refine normal_thn ?_
            refine aw_seq ?_
            refine aw_region ?_
            refine g_u (s_load_agg rfl rfl rfl tA76 tS76 rfl rfl) ?_
            refine g_u (s_store_imm rfl rfl rfl tS76 rfl rfl) ?_
            refine g_nil ?_
            refine normal_thn ?_
            refine aw_ret ?_
            exact ⟨⟨_, _, _, _, _, _, _, rfl, rfl, tA76, tS76, rfl, rfl, (rfl : toAV _ = some _).trans (congrArg some (by (first | (exfalso; omega) | (rw [show bareV v = .mk v.kind v.text 0 0 [] [] from by unfold bareV; rw [if_pos (by omega), if_neg (by omega), if_neg (by omega), if_neg (by omega), if_neg (by omega)]]; rfl) | (rw [show bareV v = .mk v.kind ⟨#[]⟩ v.num 0 [] [] from by unfold bareV; rw [if_neg (by omega), if_pos (by omega), if_neg (by omega), if_neg (by omega), if_neg (by omega)]]; rfl) | (rw [show bareV v = .mk v.kind ⟨#[]⟩ 0 v.bits [] [] from by unfold bareV; rw [if_neg (by omega), if_neg (by omega), if_pos (by omega), if_neg (by omega), if_neg (by omega)]]; rfl) | (rw [show bareV v = .mk v.kind ⟨#[]⟩ 0 0 v.list [] from by unfold bareV; rw [if_neg (by omega), if_neg (by omega), if_neg (by omega), if_pos (by omega), if_neg (by omega)]]; rfl) | (rw [show bareV v = .mk v.kind ⟨#[]⟩ 0 0 [] v.map from by unfold bareV; rw [if_neg (by omega), if_neg (by omega), if_neg (by omega), if_neg (by omega), if_pos (by omega)]]; rfl) | (rw [show bareV v = .mk v.kind ⟨#[]⟩ 0 0 [] [] from by unfold bareV; rw [if_neg (by omega), if_neg (by omega), if_neg (by omega), if_neg (by omega), if_neg (by omega)]]; rfl))))⟩, trivial⟩
          · skip
            have q := beq_eq_false_iff_ne.1 hb19
            refine aw_seq ?_
            refine aw_region ?_
            refine g_u (s_eqI rfl rfl rfl) ?_
            refine g_u (s_as_imm rfl rfl) ?_
            refine g_nil ?_
            refine normal_thn ?_
            refine aw_cond rfl (fun hb20 => ?_) (fun hb20 => ?_)
            · skip
              have q := beq_iff_eq.1 hb20
              refine aw_region ?_
              refine g_u (s_fieldAddr rfl rfl fa76_4 rfl) ?_
              refine g_u (s_load_imm rfl rfl rfl tA74 tS74 rfl rfl) ?_
              refine g_u (s_fieldAddr rfl rfl fa76_4 rfl) ?_
              refine g_u (s_store_imm rfl rfl rfl tS74 rfl rfl) ?_
              refine g_nil ?_
              refine normal_blk ?_
              refine normal_thn ?_
              refine aw_seq ?_
              refine aw_region ?_
              refine g_u (s_load_agg rfl rfl rfl tA76 tS76 rfl rfl) ?_
              refine g_u (s_store_imm rfl rfl rfl tS76 rfl rfl) ?_
              refine g_nil ?_
              refine normal_thn ?_
              refine aw_ret ?_
              exact ⟨⟨_, _, _, _, _, _, _, rfl, rfl, tA76, tS76, rfl, rfl, (rfl : toAV _ = some _).trans (congrArg some (by (first | (exfalso; omega) | (rw [show bareV v = .mk v.kind v.text 0 0 [] [] from by unfold bareV; rw [if_pos (by omega), if_neg (by omega), if_neg (by omega), if_neg (by omega), if_neg (by omega)]]; rfl) | (rw [show bareV v = .mk v.kind ⟨#[]⟩ v.num 0 [] [] from by unfold bareV; rw [if_neg (by omega), if_pos (by omega), if_neg (by omega), if_neg (by omega), if_neg (by omega)]]; rfl) | (rw [show bareV v = .mk v.kind ⟨#[]⟩ 0 v.bits [] [] from by unfold bareV; rw [if_neg (by omega), if_neg (by omega), if_pos (by omega), if_neg (by omega), if_neg (by omega)]]; rfl) | (rw [show bareV v = .mk v.kind ⟨#[]⟩ 0 0 v.list [] from by unfold bareV; rw [if_neg (by omega), if_neg (by omega), if_neg (by omega), if_pos (by omega), if_neg (by omega)]]; rfl) | (rw [show bareV v = .mk v.kind ⟨#[]⟩ 0 0 [] v.map from by unfold bareV; rw [if_neg (by omega), if_neg (by omega), if_neg (by omega), if_neg (by omega), if_pos (by omega)]]; rfl) | (rw [show bareV v = .mk v.kind ⟨#[]⟩ 0 0 [] [] from by unfold bareV; rw [if_neg (by omega), if_neg (by omega), if_neg (by omega), if_neg (by omega), if_neg (by omega)]]; rfl))))⟩, trivial⟩
            · skip
              have q := beq_eq_false_iff_ne.1 hb20
              refine aw_seq ?_
              refine aw_region ?_
              refine g_u (s_eqI rfl rfl rfl) ?_
              refine g_u (s_as_imm rfl rfl) ?_
              refine g_nil ?_
              refine normal_thn ?_
              refine aw_cond rfl (fun hb21 => ?_) (fun hb21 => ?_)
              · skip
                have q := beq_iff_eq.1 hb21
                refine aw_region ?_
                refine g_u (s_fieldAddr rfl rfl fa76_5 rfl) ?_
                refine g_u (s_load_imm rfl rfl rfl tA27 tS27 rfl rfl) ?_
                refine g_u (s_fieldAddr rfl rfl fa76_5 rfl) ?_
                refine g_u (s_store_imm rfl rfl rfl tS27 rfl rfl) ?_
                refine g_nil ?_
                refine normal_blk ?_
                refine normal_thn ?_
                refine aw_seq ?_
                refine aw_region ?_
                refine g_u (s_load_agg rfl rfl rfl tA76 tS76 rfl rfl) ?_
                refine g_u (s_store_imm rfl rfl rfl tS76 rfl rfl) ?_
                refine g_nil ?_
                refine normal_thn ?_
                refine aw_ret ?_
                exact ⟨⟨_, _, _, _, _, _, _, rfl, rfl, tA76, tS76, rfl, rfl, (rfl : toAV _ = some _).trans (congrArg some (by (first | (exfalso; omega) | (rw [show bareV v = .mk v.kind v.text 0 0 [] [] from by unfold bareV; rw [if_pos (by omega), if_neg (by omega), if_neg (by omega), if_neg (by omega), if_neg (by omega)]]; rfl) | (rw [show bareV v = .mk v.kind ⟨#[]⟩ v.num 0 [] [] from by unfold bareV; rw [if_neg (by omega), if_pos (by omega), if_neg (by omega), if_neg (by omega), if_neg (by omega)]]; rfl) | (rw [show bareV v = .mk v.kind ⟨#[]⟩ 0 v.bits [] [] from by unfold bareV; rw [if_neg (by omega), if_neg (by omega), if_pos (by omega), if_neg (by omega), if_neg (by omega)]]; rfl) | (rw [show bareV v = .mk v.kind ⟨#[]⟩ 0 0 v.list [] from by unfold bareV; rw [if_neg (by omega), if_neg (by omega), if_neg (by omega), if_pos (by omega), if_neg (by omega)]]; rfl) | (rw [show bareV v = .mk v.kind ⟨#[]⟩ 0 0 [] v.map from by unfold bareV; rw [if_neg (by omega), if_neg (by omega), if_neg (by omega), if_neg (by omega), if_pos (by omega)]]; rfl) | (rw [show bareV v = .mk v.kind ⟨#[]⟩ 0 0 [] [] from by unfold bareV; rw [if_neg (by omega), if_neg (by omega), if_neg (by omega), if_neg (by omega), if_neg (by omega)]]; rfl))))⟩, trivial⟩
              · skip
                have q := beq_eq_false_iff_ne.1 hb21
                refine aw_skip ?_
                refine normal_blk ?_
                refine normal_thn ?_
                refine aw_seq ?_
                refine aw_region ?_
                refine g_u (s_load_agg rfl rfl rfl tA76 tS76 rfl rfl) ?_
                refine g_u (s_store_imm rfl rfl rfl tS76 rfl rfl) ?_
                refine g_nil ?_
                refine normal_thn ?_
                refine aw_ret ?_
                exact ⟨⟨_, _, _, _, _, _, _, rfl, rfl, tA76, tS76, rfl, rfl, (rfl : toAV _ = some _).trans (congrArg some (by (first | (exfalso; omega) | (rw [show bareV v = .mk v.kind v.text 0 0 [] [] from by unfold bareV; rw [if_pos (by omega), if_neg (by omega), if_neg (by omega), if_neg (by omega), if_neg (by omega)]]; rfl) | (rw [show bareV v = .mk v.kind ⟨#[]⟩ v.num 0 [] [] from by unfold bareV; rw [if_neg (by omega), if_pos (by omega), if_neg (by omega), if_neg (by omega), if_neg (by omega)]]; rfl) | (rw [show bareV v = .mk v.kind ⟨#[]⟩ 0 v.bits [] [] from by unfold bareV; rw [if_neg (by omega), if_neg (by omega), if_pos (by omega), if_neg (by omega), if_neg (by omega)]]; rfl) | (rw [show bareV v = .mk v.kind ⟨#[]⟩ 0 0 v.list [] from by unfold bareV; rw [if_neg (by omega), if_neg (by omega), if_neg (by omega), if_pos (by omega), if_neg (by omega)]]; rfl) | (rw [show bareV v = .mk v.kind ⟨#[]⟩ 0 0 [] v.map from by unfold bareV; rw [if_neg (by omega), if_neg (by omega), if_neg (by omega), if_neg (by omega), if_pos (by omega)]]; rfl) | (rw [show bareV v = .mk v.kind ⟨#[]⟩ 0 0 [] [] from by unfold bareV; rw [if_neg (by omega), if_neg (by omega), if_neg (by omega), if_neg (by omega), if_neg (by omega)]]; rfl))))⟩, trivial⟩

set_option maxHeartbeats 400000 in
theorem more_c (v : GV) : PCall Tryd.prog Γ0 156 [v.av] [bv (!emptyV v)] := by
  refine pcall_of Tryd.func156 rfl Tryd.ntmps156 (by kernel_rfl) rfl fun w0 I0 G0 => ?_
  refine aw_seq ?_
  refine aw_region ?_
  refine g_uG (s_box_imm 1001 rfl rfl rfl rfl) rfl ?_
  refine g_u (s_as_imm rfl rfl) ?_
  refine g_nil ?_
  refine normal_thn ?_
  refine aw_seq ?_
  refine aw_region ?_
  refine g_u (s_load_imm rfl rfl rfl tA76 tS76 rfl rfl) ?_
  refine g_u (s_call1 (bare_c _) rfl rfl) ?_
  refine g_uG (s_alloc' 1003 rfl rfl rfl tZ76) rfl ?_
  refine g_u (s_store_imm rfl rfl rfl tS76 rfl rfl) ?_
  refine g_nil ?_
  refine normal_thn ?_
  refine aw_seq ?_
  refine aw_region ?_
  refine g_u (s_fieldAddr rfl rfl fa76_1 rfl) ?_
  refine g_u (s_load_imm rfl rfl rfl tA9 tS9 rfl rfl) ?_
  refine g_u (s_fieldAddr rfl rfl fa76_1 rfl) ?_
  refine g_u (s_load_imm rfl rfl rfl tA9 tS9 rfl rfl) ?_
  refine g_u (s_neS rfl rfl rfl) ?_
  refine g_u (s_mv_imm rfl rfl) ?_
  refine g_case (t := 11) rfl ?_
  rintro (hb1 | hb1)
  · rw [hb1]
    refine g_skip rfl rfl rfl ?_
    refine g_skip rfl rfl rfl ?_
    refine g_skip rfl rfl rfl ?_
    refine g_skip rfl rfl rfl ?_
    refine g_skip rfl rfl rfl ?_
    refine g_u (s_pick_t rfl rfl rfl) ?_
    refine g_u (s_mv_imm rfl rfl) ?_
    refine g_skip rfl rfl rfl ?_
    refine g_skip rfl rfl rfl ?_
    refine g_skip rfl rfl rfl ?_
    refine g_skip rfl rfl rfl ?_
    refine g_skip rfl rfl rfl ?_
    refine g_u (s_pick_t rfl rfl rfl) ?_
    refine g_u (s_mv_imm rfl rfl) ?_
    refine g_skip rfl rfl rfl ?_
    refine g_skip rfl rfl rfl ?_
    refine g_skip rfl rfl rfl ?_
    refine g_skip rfl rfl rfl ?_
    refine g_skip rfl rfl rfl ?_
    refine g_skip rfl rfl rfl ?_
    refine g_skip rfl rfl rfl ?_
    refine g_u (s_pick_t rfl rfl rfl) ?_
    refine g_u (s_mv_imm rfl rfl) ?_
    refine g_skip rfl rfl rfl ?_
    refine g_skip rfl rfl rfl ?_
    refine g_skip rfl rfl rfl ?_
    refine g_skip rfl rfl rfl ?_
    refine g_skip rfl rfl rfl ?_
    refine g_skip rfl rfl rfl ?_
    refine g_skip rfl rfl rfl ?_
    refine g_u (s_pick_t rfl rfl rfl) ?_
    refine g_u (s_as_imm rfl rfl) ?_
    refine g_nil ?_
    refine normal_thn ?_
    refine aw_ret ?_
    exact ⟨⟨(rfl : toAV (Al.look _ _) = some _).trans (congrArg some (by (exact congrArg bv (by (try simp only [List.length_map] at *); rw [← more_eq]; unfold moreM; simp [*])))), rfl⟩, trivial⟩
  · rw [hb1]
    refine g_run rfl rfl (s_fieldAddr rfl rfl fa76_2 rfl) ?_
    refine g_run rfl rfl (s_load_imm rfl rfl rfl tA3 tS3 rfl rfl) ?_
    refine g_run rfl rfl (s_fieldAddr rfl rfl fa76_2 rfl) ?_
    refine g_run rfl rfl (s_load_imm rfl rfl rfl tA3 tS3 rfl rfl) ?_
    refine g_run rfl rfl (s_neI rfl rfl rfl) ?_
    refine g_u (s_pick_f rfl rfl rfl) ?_
    refine g_u (s_mv_imm rfl rfl) ?_
    refine g_case (t := 18) rfl ?_
    rintro (hb2 | hb2)
    · rw [hb2]
      refine g_skip rfl rfl rfl ?_
      refine g_skip rfl rfl rfl ?_
      refine g_skip rfl rfl rfl ?_
      refine g_skip rfl rfl rfl ?_
      refine g_skip rfl rfl rfl ?_
      refine g_u (s_pick_t rfl rfl rfl) ?_
      refine g_u (s_mv_imm rfl rfl) ?_
      refine g_skip rfl rfl rfl ?_
      refine g_skip rfl rfl rfl ?_
      refine g_skip rfl rfl rfl ?_
      refine g_skip rfl rfl rfl ?_
      refine g_skip rfl rfl rfl ?_
      refine g_skip rfl rfl rfl ?_
      refine g_skip rfl rfl rfl ?_
      refine g_u (s_pick_t rfl rfl rfl) ?_
      refine g_u (s_mv_imm rfl rfl) ?_
      refine g_skip rfl rfl rfl ?_
      refine g_skip rfl rfl rfl ?_
      refine g_skip rfl rfl rfl ?_
      refine g_skip rfl rfl rfl ?_
      refine g_skip rfl rfl rfl ?_
      refine g_skip rfl rfl rfl ?_
      refine g_skip rfl rfl rfl ?_
      refine g_u (s_pick_t rfl rfl rfl) ?_
      refine g_u (s_as_imm rfl rfl) ?_
      refine g_nil ?_
      refine normal_thn ?_
      refine aw_ret ?_
      exact ⟨⟨(rfl : toAV (Al.look _ _) = some _).trans (congrArg some (by (exact congrArg bv (by (try simp only [List.length_map] at *); rw [← more_eq]; unfold moreM; simp [*])))), rfl⟩, trivial⟩
    · rw [hb2]
      refine g_run rfl rfl (s_fieldAddr rfl rfl fa76_3 rfl) ?_
      refine g_run rfl rfl (s_load_imm rfl rfl rfl tA26 tS26 rfl rfl) ?_
      refine g_run rfl rfl (s_fieldAddr rfl rfl fa76_3 rfl) ?_
      refine g_run rfl rfl (s_load_imm rfl rfl rfl tA26 tS26 rfl rfl) ?_
      refine g_run rfl rfl (s_neI rfl rfl rfl) ?_
      refine g_u (s_pick_f rfl rfl rfl) ?_
      refine g_u (s_mv_imm rfl rfl) ?_
      refine g_case (t := 25) rfl ?_
      rintro (hb3 | hb3)
      · rw [hb3]
        refine g_skip rfl rfl rfl ?_
        refine g_skip rfl rfl rfl ?_
        refine g_skip rfl rfl rfl ?_
        refine g_skip rfl rfl rfl ?_
        refine g_skip rfl rfl rfl ?_
        refine g_skip rfl rfl rfl ?_
        refine g_skip rfl rfl rfl ?_
        refine g_u (s_pick_t rfl rfl rfl) ?_
        refine g_u (s_mv_imm rfl rfl) ?_
        refine g_skip rfl rfl rfl ?_
        refine g_skip rfl rfl rfl ?_
        refine g_skip rfl rfl rfl ?_
        refine g_skip rfl rfl rfl ?_
        refine g_skip rfl rfl rfl ?_
        refine g_skip rfl rfl rfl ?_
        refine g_skip rfl rfl rfl ?_
        refine g_u (s_pick_t rfl rfl rfl) ?_
        refine g_u (s_as_imm rfl rfl) ?_
        refine g_nil ?_
        refine normal_thn ?_
        refine aw_ret ?_
        exact ⟨⟨(rfl : toAV (Al.look _ _) = some _).trans (congrArg some (by (exact congrArg bv (by (try simp only [List.length_map] at *); rw [← more_eq]; unfold moreM; simp [*])))), rfl⟩, trivial⟩
      · rw [hb3]
        refine g_run rfl rfl (s_fieldAddr rfl rfl fa76_4 rfl) ?_
        refine g_run rfl rfl (s_load_imm rfl rfl rfl tA74 tS74 rfl rfl) ?_
        refine g_run rfl rfl (s_lenL rfl rfl Tryd.underlying74) ?_
        refine g_run rfl rfl (s_fieldAddr rfl rfl fa76_4 rfl) ?_
        refine g_run rfl rfl (s_load_imm rfl rfl rfl tA74 tS74 rfl rfl) ?_
        refine g_run rfl rfl (s_lenL rfl rfl Tryd.underlying74) ?_
        refine g_run rfl rfl (s_neI rfl rfl rfl) ?_
        refine g_u (s_pick_f rfl rfl rfl) ?_
        refine g_u (s_mv_imm rfl rfl) ?_
        refine g_case (t := 34) rfl ?_
        rintro (hb4 | hb4)
        · rw [hb4]
          refine g_skip rfl rfl rfl ?_
          refine g_skip rfl rfl rfl ?_
          refine g_skip rfl rfl rfl ?_
          refine g_skip rfl rfl rfl ?_
          refine g_skip rfl rfl rfl ?_
          refine g_skip rfl rfl rfl ?_
          refine g_skip rfl rfl rfl ?_
          refine g_u (s_pick_t rfl rfl rfl) ?_
          refine g_u (s_as_imm rfl rfl) ?_
          refine g_nil ?_
          refine normal_thn ?_
          refine aw_ret ?_
          exact ⟨⟨(rfl : toAV (Al.look _ _) = some _).trans (congrArg some (by (exact congrArg bv (by (try simp only [List.length_map] at *); rw [← more_eq]; unfold moreM; simp [*])))), rfl⟩, trivial⟩
        · rw [hb4]
          refine g_run rfl rfl (s_fieldAddr rfl rfl fa76_5 rfl) ?_
          refine g_run rfl rfl (s_load_imm rfl rfl rfl tA27 tS27 rfl rfl) ?_
          refine g_run rfl rfl (s_lenL rfl rfl Tryd.underlying27) ?_
          refine g_run rfl rfl (s_fieldAddr rfl rfl fa76_5 rfl) ?_
          refine g_run rfl rfl (s_load_imm rfl rfl rfl tA27 tS27 rfl rfl) ?_
          refine g_run rfl rfl (s_lenL rfl rfl Tryd.underlying27) ?_
          refine g_run rfl rfl (s_neI rfl rfl rfl) ?_
          refine g_u (s_pick_f rfl rfl rfl) ?_
          refine g_u (s_as_imm rfl rfl) ?_
          refine g_nil ?_
          refine normal_thn ?_
          refine aw_ret ?_
          exact ⟨⟨(rfl : toAV (Al.look _ _) = some _).trans (congrArg some (by (exact congrArg bv (by (try simp only [List.length_map] at *); rw [← more_eq]; unfold moreM; simp [*])))), rfl⟩, trivial⟩

set_option maxHeartbeats 400000 in
theorem holds_c (v : GV) : PCall Tryd.prog Γ0 157 [v.av] [bv (v.kind == 6 || v.kind == 7)] := by
  refine pcall_of Tryd.func157 rfl Tryd.ntmps157 (by kernel_rfl) rfl fun w0 I0 G0 => ?_
  refine aw_seq ?_
  refine aw_region ?_
  refine g_uG (s_box_imm 1001 rfl rfl rfl rfl) rfl ?_
  refine g_u (s_as_imm rfl rfl) ?_
  refine g_nil ?_
  refine normal_thn ?_
  refine aw_seq ?_
  refine aw_region ?_
  refine g_u (s_fieldAddr rfl rfl fa76_0 rfl) ?_
  refine g_u (s_load_imm rfl rfl rfl tA5 tS5 rfl rfl) ?_
  refine g_u (s_eqI rfl rfl rfl) ?_
  refine g_u (s_mv_imm rfl rfl) ?_
  refine g_case (t := 6) rfl ?_
  rintro (hb1 | hb1)
  · rw [hb1]
    refine g_skip rfl rfl rfl ?_
    refine g_skip rfl rfl rfl ?_
    refine g_skip rfl rfl rfl ?_
    refine g_u (s_pick_t rfl rfl rfl) ?_
    refine g_u (s_as_imm rfl rfl) ?_
    refine g_nil ?_
    refine normal_thn ?_
    refine aw_ret ?_
    exact ⟨⟨(rfl : toAV (Al.look _ _) = some _).trans (congrArg some (by (exact congrArg bv (by simp [*])))), rfl⟩, trivial⟩
  · rw [hb1]
    refine g_run rfl rfl (s_fieldAddr rfl rfl fa76_0 rfl) ?_
    refine g_run rfl rfl (s_load_imm rfl rfl rfl tA5 tS5 rfl rfl) ?_
    refine g_run rfl rfl (s_eqI rfl rfl rfl) ?_
    refine g_u (s_pick_f rfl rfl rfl) ?_
    refine g_u (s_as_imm rfl rfl) ?_
    refine g_nil ?_
    refine normal_thn ?_
    refine aw_ret ?_
    exact ⟨⟨(rfl : toAV (Al.look _ _) = some _).trans (congrArg some (by (exact congrArg bv (by simp [*])))), rfl⟩, trivial⟩

set_option maxHeartbeats 2000000 in
theorem entC_st (l : List GA) (d : Int) (hd : 0 ≤ d ∧ d + wtAs l ≤ 1000000000) (ih : ∀ a ∈ l, ∀ d : Int, 0 ≤ d ∧ d + a.val.wt ≤ 1000000000 → PCall Tryd.prog Γ0 128 [a.val.av, iv d] [iv (checkV d a.val)]) : PCall Tryd.prog Γ0 92 [.sl 7 (l.map avA), iv d] [iv (entC d none l)] := by
  refine pcall_of Tryd.func92 rfl Tryd.ntmps92 (by kernel_rfl) rfl fun w0 I0 G0 => ?_
  refine aw_seq ?_
  refine aw_region ?_
  refine g_u (s_as_imm rfl rfl) ?_
  refine g_nil ?_
  refine normal_thn ?_
  refine aw_seq ?_
  refine aw_seq ?_
  refine aw_region ?_
  refine g_u (s_mv_imm rfl rfl) ?_
  refine g_u (s_lenL rfl rfl Tryd.underlying27) ?_
  refine g_u (s_mv_imm rfl rfl) ?_
  refine g_nil ?_
  refine normal_thn ?_
  refine aw_block ?_
  refine aw_loop' (fun i : Nat => [(0, .imm (.sl 7 (l.map avA))), (1, .imm (iv d)), (8, .imm (.sl 7 (l.map avA))), (9, .imm (iv (l.length : Int))), (10, .imm (iv (i : Int)))]) (fun i => i ≤ l.length ∧ entC d none l = entC d (prevOf l i) (l.drop i)) (fun i => l.length - i) (0) ?_ ⟨rfl, rfl, rfl, look_int rfl (by rw [List.length_map]), rfl, trivial⟩ ?_
  · exact ⟨Nat.zero_le _, rfl⟩
  · rintro i ⟨h1, h2⟩; (try dsimp only at h1 h2)
    refine aw_seq ?_
    refine aw_region ?_
    refine g_u (s_ltI rfl rfl rfl) ?_
    refine g_nil ?_
    refine normal_thn ?_
    refine aw_seq ?_
    refine aw_cond rfl (fun hb1 => ?_) (fun hb1 => ?_)
    · skip
      have hi : i < l.length := by have := of_decide_eq_true hb1; (try simp only [List.length_map] at this); omega
      have hw1 := wtAs_mem (nthA_mem hi)
      have hw2 := (nthA l i).wt_eq
      have E := entC_drop d hi
      have ll := len_wtAs l
      refine aw_skip ?_
      refine normal_thn ?_
      refine aw_seq ?_
      refine aw_block ?_
      refine aw_seq ?_
      refine aw_region ?_
      refine g_u (s_mv_imm rfl rfl) ?_
      refine g_u (s_indexAddr rfl rfl rfl Tryd.underlying27 tS78 (by omega) (ixA hi)) ?_
      refine g_u (s_load_cp rfl rfl tA78 tS78 rfl rfl) ?_
      refine g_uG (s_alloc' 1006 rfl rfl rfl tZ78) rfl ?_
      refine g_u (s_as_imm rfl rfl) ?_
      refine g_u (s_store_imm rfl rfl rfl tS78 rfl rfl) ?_
      refine g_nil ?_
      refine normal_thn ?_
      refine aw_seq ?_
      refine aw_region ?_
      refine g_u (s_fieldAddr rfl rfl fa78_0 rfl) ?_
      refine g_u (s_load_imm rfl rfl rfl tA9 tS9 rfl rfl) ?_
      refine g_u (s_call1 (keyP_c _ (by omega)) rfl rfl) ?_
      refine g_u (s_as_imm rfl rfl) ?_
      refine g_nil ?_
      refine normal_thn ?_
      refine aw_seq ?_
      refine aw_seq ?_
      refine aw_draw mixed ?_
      refine g_u (s_mv_imm rfl rfl) ?_
      refine g_u (s_eqI rfl rfl rfl) ?_
      refine g_u (s_mv_imm rfl rfl) ?_
      refine g_case (t := 20) rfl ?_
      rintro (hb2 | hb2)
      · rw [hb2]
        have q := beq_iff_eq.1 hb2
        refine g_run rfl rfl (s_mv_imm rfl rfl) ?_
        refine g_run rfl rfl (s_gtI rfl rfl rfl) ?_
        refine g_u (s_pick_t rfl rfl rfl) ?_
        refine g_u (s_mv_imm rfl rfl) ?_
        refine g_case (t := 24) rfl ?_
        rintro (hb3 | hb3)
        · rw [hb3]
          have hi0 : i ≠ 0 := by have := of_decide_eq_true hb3; omega
          have hm : i - 1 < l.length := by omega
          have em : IntKind.i64.wrap ((i : Int) - 1) = ((i - 1 : Nat) : Int) := by rw [wrap64 (by omega) (by omega)]; omega
          refine g_run rfl rfl (s_mv_imm rfl rfl) ?_
          refine g_run rfl rfl (s_mv_imm rfl rfl) ?_
          refine g_run rfl rfl (s_sub rfl rfl rfl) ?_
          refine g_run rfl rfl (s_indexAddr rfl rfl rfl Tryd.underlying27 tS78 (by rw [em]; omega) ((congrArg (fun z : Int => (l.map avA)[z.toNat]?) em).trans (ixA hm))) ?_
          refine g_run rfl rfl (s_fieldAddr_cp rfl rfl fa78_0 rfl rfl) ?_
          refine g_run rfl rfl (s_load_cp rfl rfl tA9 tS9 rfl rfl) ?_
          refine g_run rfl rfl (s_fieldAddr rfl rfl fa78_0 rfl) ?_
          refine g_run rfl rfl (s_load_imm rfl rfl rfl tA9 tS9 rfl rfl) ?_
          refine g_run rfl rfl (s_geS rfl rfl rfl) ?_
          refine g_u (s_pick_t rfl rfl rfl) ?_
          refine g_nil ⟨by kernel_rfl, ?_⟩
          refine normal_thn ?_
          refine aw_cond rfl (fun hb4 => ?_) (fun hb4 => ?_)
          · skip
            have pb : prevBad (prevOf l i) (nthA l i).key = true := by rw [prevBad_pos hi0, ← less_eq]; exact hb4
            refine aw_region ?_
            refine g_u (s_as_imm rfl rfl) ?_
            refine g_nil ?_
            refine normal_thn ?_
            refine aw_seq ?_
            refine aw_seq ?_
            refine aw_region ?_
            refine g_u (s_mv_imm rfl rfl) ?_
            refine g_u (s_eqI rfl rfl rfl) ?_
            refine g_nil ?_
            refine normal_thn ?_
            refine aw_cond rfl (fun hb5 => ?_) (fun hb5 => ?_)
            · skip
              have q := beq_iff_eq.1 hb5
              refine aw_region ?_
              refine g_u (s_fieldAddr rfl rfl fa78_1 rfl) ?_
              refine g_u (s_load_imm rfl rfl rfl tA76 tS76 rfl rfl) ?_
              refine g_u (s_mv_imm rfl rfl) ?_
              refine g_u (s_call1 (ih _ (nthA_mem hi) d ⟨by omega, by omega⟩) rfl rfl) ?_
              refine g_u (s_as_imm rfl rfl) ?_
              refine g_nil ?_
              refine normal_thn ?_
              refine aw_seq ?_
              refine aw_region ?_
              refine g_u (s_mv_imm rfl rfl) ?_
              refine g_u (s_neI rfl rfl rfl) ?_
              refine g_nil ?_
              refine normal_thn ?_
              refine aw_cond rfl (fun hb6 => ?_) (fun hb6 => ?_)
              · skip
                have q := bne_iff_ne.1 hb6
                refine aw_seq ?_
                refine aw_region ?_
                refine g_u (s_mv_imm rfl rfl) ?_
                refine g_u (s_as_imm rfl rfl) ?_
                refine g_nil ?_
                refine normal_thn ?_
                refine aw_ret ?_
                refine ret_blk ?_
                refine ret_thn ?_
                refine ret_thn ?_
                refine ret_blk ?_
                refine ret_thn ?_
                exact ⟨⟨(rfl : toAV (Al.look _ _) = some _).trans (congrArg some (by (exact congrArg iv (by first | (exfalso; omega) | (rw [h2, hin, List.drop_length]; rfl) | (rw [h2, E, orC_pos _ _ (by omega)]; done) | (rw [h2, E, orC_zero _ _ (by omega), if_pos pb]; done) | (rw [h2, E, orC_zero _ _ (by omega), if_neg (by rw [pb]; decide), orC_pos _ _ (by omega)]; done))))), rfl⟩, trivial⟩
              · skip
                have q := bne_eq_false_iff_eq.1 hb6
                refine aw_skip ?_
                refine normal_blk ?_
                refine normal_thn ?_
                refine aw_region ?_
                refine g_u (s_add rfl rfl rfl) ?_
                refine g_u (s_mv_imm rfl rfl) ?_
                refine g_nil ?_
                refine normal_thn ?_
                first | (exfalso; omega) | refine ⟨i + 1, ⟨hi, by (try dsimp only); rw [h2, E, orC_zero _ _ (by omega), if_neg (by rw [pb]; decide), orC_zero _ _ (by omega)]⟩, ⟨rfl, rfl, rfl, rfl, look_int rfl (by rw [wrap64 (by omega) (by omega)]; rfl), trivial⟩, by (try dsimp only); omega⟩
            · skip
              have q := beq_eq_false_iff_ne.1 hb5
              refine aw_skip ?_
              refine normal_thn ?_
              refine aw_seq ?_
              refine aw_region ?_
              refine g_u (s_mv_imm rfl rfl) ?_
              refine g_u (s_neI rfl rfl rfl) ?_
              refine g_nil ?_
              refine normal_thn ?_
              refine aw_cond rfl (fun hb7 => ?_) (fun hb7 => ?_)
              · skip
                have q := bne_iff_ne.1 hb7
                refine aw_seq ?_
                refine aw_region ?_
                refine g_u (s_mv_imm rfl rfl) ?_
                refine g_u (s_as_imm rfl rfl) ?_
                refine g_nil ?_
                refine normal_thn ?_
                refine aw_ret ?_
                refine ret_blk ?_
                refine ret_thn ?_
                refine ret_thn ?_
                refine ret_blk ?_
                refine ret_thn ?_
                exact ⟨⟨(rfl : toAV (Al.look _ _) = some _).trans (congrArg some (by (exact congrArg iv (by first | (exfalso; omega) | (rw [h2, hin, List.drop_length]; rfl) | (rw [h2, E, orC_pos _ _ (by omega)]; done) | (rw [h2, E, orC_zero _ _ (by omega), if_pos pb]; done) | (rw [h2, E, orC_zero _ _ (by omega), if_neg (by rw [pb]; decide), orC_pos _ _ (by omega)]; done))))), rfl⟩, trivial⟩
              · skip
                have q := bne_eq_false_iff_eq.1 hb7
                refine aw_skip ?_
                refine normal_blk ?_
                refine normal_thn ?_
                refine aw_region ?_
                refine g_u (s_add rfl rfl rfl) ?_
                refine g_u (s_mv_imm rfl rfl) ?_
                refine g_nil ?_
                refine normal_thn ?_
                first | (exfalso; omega) | refine ⟨i + 1, ⟨hi, by (try dsimp only); rw [h2, E, orC_zero _ _ (by omega), if_neg (by rw [pb]; decide), orC_zero _ _ (by omega)]⟩, ⟨rfl, rfl, rfl, rfl, look_int rfl (by rw [wrap64 (by omega) (by omega)]; rfl), trivial⟩, by (try dsimp only); omega⟩
          · skip
            have pb : prevBad (prevOf l i) (nthA l i).key = false := by rw [prevBad_pos hi0, ← less_eq]; exact hb4
            refine aw_skip ?_
            refine normal_thn ?_
            refine aw_seq ?_
            refine aw_seq ?_
            refine aw_region ?_
            refine g_u (s_mv_imm rfl rfl) ?_
            refine g_u (s_eqI rfl rfl rfl) ?_
            refine g_nil ?_
            refine normal_thn ?_
            refine aw_cond rfl (fun hb8 => ?_) (fun hb8 => ?_)
            · skip
              have q := beq_iff_eq.1 hb8
              refine aw_region ?_
              refine g_u (s_fieldAddr rfl rfl fa78_1 rfl) ?_
              refine g_u (s_load_imm rfl rfl rfl tA76 tS76 rfl rfl) ?_
              refine g_u (s_mv_imm rfl rfl) ?_
              refine g_u (s_call1 (ih _ (nthA_mem hi) d ⟨by omega, by omega⟩) rfl rfl) ?_
              refine g_u (s_as_imm rfl rfl) ?_
              refine g_nil ?_
              refine normal_thn ?_
              refine aw_seq ?_
              refine aw_region ?_
              refine g_u (s_mv_imm rfl rfl) ?_
              refine g_u (s_neI rfl rfl rfl) ?_
              refine g_nil ?_
              refine normal_thn ?_
              refine aw_cond rfl (fun hb9 => ?_) (fun hb9 => ?_)
              · skip
                have q := bne_iff_ne.1 hb9
                refine aw_seq ?_
                refine aw_region ?_
                refine g_u (s_mv_imm rfl rfl) ?_
                refine g_u (s_as_imm rfl rfl) ?_
                refine g_nil ?_
                refine normal_thn ?_
                refine aw_ret ?_
                refine ret_blk ?_
                refine ret_thn ?_
                refine ret_thn ?_
                refine ret_blk ?_
                refine ret_thn ?_
                exact ⟨⟨(rfl : toAV (Al.look _ _) = some _).trans (congrArg some (by (exact congrArg iv (by first | (exfalso; omega) | (rw [h2, hin, List.drop_length]; rfl) | (rw [h2, E, orC_pos _ _ (by omega)]; done) | (rw [h2, E, orC_zero _ _ (by omega), if_pos pb]; done) | (rw [h2, E, orC_zero _ _ (by omega), if_neg (by rw [pb]; decide), orC_pos _ _ (by omega)]; done))))), rfl⟩, trivial⟩
              · skip
                have q := bne_eq_false_iff_eq.1 hb9
                refine aw_skip ?_
                refine normal_blk ?_
                refine normal_thn ?_
                refine aw_region ?_
                refine g_u (s_add rfl rfl rfl) ?_
                refine g_u (s_mv_imm rfl rfl) ?_
                refine g_nil ?_
                refine normal_thn ?_
                first | (exfalso; omega) | refine ⟨i + 1, ⟨hi, by (try dsimp only); rw [h2, E, orC_zero _ _ (by omega), if_neg (by rw [pb]; decide), orC_zero _ _ (by omega)]⟩, ⟨rfl, rfl, rfl, rfl, look_int rfl (by rw [wrap64 (by omega) (by omega)]; rfl), trivial⟩, by (try dsimp only); omega⟩
            · skip
              have q := beq_eq_false_iff_ne.1 hb8
              refine aw_skip ?_
              refine normal_thn ?_
              refine aw_seq ?_
              refine aw_region ?_
              refine g_u (s_mv_imm rfl rfl) ?_
              refine g_u (s_neI rfl rfl rfl) ?_
              refine g_nil ?_
              refine normal_thn ?_
              refine aw_cond rfl (fun hb10 => ?_) (fun hb10 => ?_)
              · skip
                have q := bne_iff_ne.1 hb10
                refine aw_seq ?_
                refine aw_region ?_
                refine g_u (s_mv_imm rfl rfl) ?_
                refine g_u (s_as_imm rfl rfl) ?_
                refine g_nil ?_
                refine normal_thn ?_
                refine aw_ret ?_
                refine ret_blk ?_
                refine ret_thn ?_
                refine ret_thn ?_
                refine ret_blk ?_
                refine ret_thn ?_
                exact ⟨⟨(rfl : toAV (Al.look _ _) = some _).trans (congrArg some (by (exact congrArg iv (by first | (exfalso; omega) | (rw [h2, hin, List.drop_length]; rfl) | (rw [h2, E, orC_pos _ _ (by omega)]; done) | (rw [h2, E, orC_zero _ _ (by omega), if_pos pb]; done) | (rw [h2, E, orC_zero _ _ (by omega), if_neg (by rw [pb]; decide), orC_pos _ _ (by omega)]; done))))), rfl⟩, trivial⟩
              · skip
                have q := bne_eq_false_iff_eq.1 hb10
                refine aw_skip ?_
                refine normal_blk ?_
                refine normal_thn ?_
                refine aw_region ?_
                refine g_u (s_add rfl rfl rfl) ?_
                refine g_u (s_mv_imm rfl rfl) ?_
                refine g_nil ?_
                refine normal_thn ?_
                first | (exfalso; omega) | refine ⟨i + 1, ⟨hi, by (try dsimp only); rw [h2, E, orC_zero _ _ (by omega), if_neg (by rw [pb]; decide), orC_zero _ _ (by omega)]⟩, ⟨rfl, rfl, rfl, rfl, look_int rfl (by rw [wrap64 (by omega) (by omega)]; rfl), trivial⟩, by (try dsimp only); omega⟩
        · rw [hb3]
          have hi0 : i = 0 := by have := of_decide_eq_false hb3; omega
          have pb : prevBad (prevOf l i) (nthA l i).key = false := by unfold prevOf; rw [if_pos hi0]; rfl
          refine g_skip rfl rfl rfl ?_
          refine g_skip rfl rfl rfl ?_
          refine g_skip rfl rfl rfl ?_
          refine g_skip rfl rfl rfl ?_
          refine g_skip rfl rfl rfl ?_
          refine g_skip rfl rfl rfl ?_
          refine g_skip rfl rfl rfl ?_
          refine g_skip rfl rfl rfl ?_
          refine g_skip rfl rfl rfl ?_
          refine g_u (s_pick_f rfl rfl rfl) ?_
          refine g_nil ⟨by kernel_rfl, ?_⟩
          refine normal_thn ?_
          refine aw_cond_false rfl ?_
          refine aw_skip ?_
          refine normal_thn ?_
          refine aw_seq ?_
          refine aw_seq ?_
          refine aw_region ?_
          refine g_u (s_mv_imm rfl rfl) ?_
          refine g_u (s_eqI rfl rfl rfl) ?_
          refine g_nil ?_
          refine normal_thn ?_
          refine aw_cond rfl (fun hb11 => ?_) (fun hb11 => ?_)
          · skip
            have q := beq_iff_eq.1 hb11
            refine aw_region ?_
            refine g_u (s_fieldAddr rfl rfl fa78_1 rfl) ?_
            refine g_u (s_load_imm rfl rfl rfl tA76 tS76 rfl rfl) ?_
            refine g_u (s_mv_imm rfl rfl) ?_
            refine g_u (s_call1 (ih _ (nthA_mem hi) d ⟨by omega, by omega⟩) rfl rfl) ?_
            refine g_u (s_as_imm rfl rfl) ?_
            refine g_nil ?_
            refine normal_thn ?_
            refine aw_seq ?_
            refine aw_region ?_
            refine g_u (s_mv_imm rfl rfl) ?_
            refine g_u (s_neI rfl rfl rfl) ?_
            refine g_nil ?_
            refine normal_thn ?_
            refine aw_cond rfl (fun hb12 => ?_) (fun hb12 => ?_)
            · skip
              have q := bne_iff_ne.1 hb12
              refine aw_seq ?_
              refine aw_region ?_
              refine g_u (s_mv_imm rfl rfl) ?_
              refine g_u (s_as_imm rfl rfl) ?_
              refine g_nil ?_
              refine normal_thn ?_
              refine aw_ret ?_
              refine ret_blk ?_
              refine ret_thn ?_
              refine ret_thn ?_
              refine ret_blk ?_
              refine ret_thn ?_
              exact ⟨⟨(rfl : toAV (Al.look _ _) = some _).trans (congrArg some (by (exact congrArg iv (by first | (exfalso; omega) | (rw [h2, hin, List.drop_length]; rfl) | (rw [h2, E, orC_pos _ _ (by omega)]; done) | (rw [h2, E, orC_zero _ _ (by omega), if_pos pb]; done) | (rw [h2, E, orC_zero _ _ (by omega), if_neg (by rw [pb]; decide), orC_pos _ _ (by omega)]; done))))), rfl⟩, trivial⟩
            · skip
              have q := bne_eq_false_iff_eq.1 hb12
              refine aw_skip ?_
              refine normal_blk ?_
              refine normal_thn ?_
              refine aw_region ?_
              refine g_u (s_add rfl rfl rfl) ?_
              refine g_u (s_mv_imm rfl rfl) ?_
              refine g_nil ?_
              refine normal_thn ?_
              first | (exfalso; omega) | refine ⟨i + 1, ⟨hi, by (try dsimp only); rw [h2, E, orC_zero _ _ (by omega), if_neg (by rw [pb]; decide), orC_zero _ _ (by omega)]⟩, ⟨rfl, rfl, rfl, rfl, look_int rfl (by rw [wrap64 (by omega) (by omega)]; rfl), trivial⟩, by (try dsimp only); omega⟩
          · skip
            have q := beq_eq_false_iff_ne.1 hb11
            refine aw_skip ?_
            refine normal_thn ?_
            refine aw_seq ?_
            refine aw_region ?_
            refine g_u (s_mv_imm rfl rfl) ?_
            refine g_u (s_neI rfl rfl rfl) ?_
            refine g_nil ?_
            refine normal_thn ?_
            refine aw_cond rfl (fun hb13 => ?_) (fun hb13 => ?_)
            · skip
              have q := bne_iff_ne.1 hb13
              refine aw_seq ?_
              refine aw_region ?_
              refine g_u (s_mv_imm rfl rfl) ?_
              refine g_u (s_as_imm rfl rfl) ?_
              refine g_nil ?_
              refine normal_thn ?_
              refine aw_ret ?_
              refine ret_blk ?_
              refine ret_thn ?_
              refine ret_thn ?_
              refine ret_blk ?_
              refine ret_thn ?_
              exact ⟨⟨(rfl : toAV (Al.look _ _) = some _).trans (congrArg some (by (exact congrArg iv (by first | (exfalso; omega) | (rw [h2, hin, List.drop_length]; rfl) | (rw [h2, E, orC_pos _ _ (by omega)]; done) | (rw [h2, E, orC_zero _ _ (by omega), if_pos pb]; done) | (rw [h2, E, orC_zero _ _ (by omega), if_neg (by rw [pb]; decide), orC_pos _ _ (by omega)]; done))))), rfl⟩, trivial⟩
            · skip
              have q := bne_eq_false_iff_eq.1 hb13
              refine aw_skip ?_
              refine normal_blk ?_
              refine normal_thn ?_
              refine aw_region ?_
              refine g_u (s_add rfl rfl rfl) ?_
              refine g_u (s_mv_imm rfl rfl) ?_
              refine g_nil ?_
              refine normal_thn ?_
              first | (exfalso; omega) | refine ⟨i + 1, ⟨hi, by (try dsimp only); rw [h2, E, orC_zero _ _ (by omega), if_neg (by rw [pb]; decide), orC_zero _ _ (by omega)]⟩, ⟨rfl, rfl, rfl, rfl, look_int rfl (by rw [wrap64 (by omega) (by omega)]; rfl), trivial⟩, by (try dsimp only); omega⟩
      · rw [hb2]
        have q := beq_eq_false_iff_ne.1 hb2
        refine g_skip rfl rfl rfl ?_
        refine g_skip rfl rfl rfl ?_
        refine g_u (s_pick_f rfl rfl rfl) ?_
        refine g_u (s_mv_imm rfl rfl) ?_
        refine g_skip rfl rfl rfl ?_
        refine g_skip rfl rfl rfl ?_
        refine g_skip rfl rfl rfl ?_
        refine g_skip rfl rfl rfl ?_
        refine g_skip rfl rfl rfl ?_
        refine g_skip rfl rfl rfl ?_
        refine g_skip rfl rfl rfl ?_
        refine g_skip rfl rfl rfl ?_
        refine g_skip rfl rfl rfl ?_
        refine g_u (s_pick_f rfl rfl rfl) ?_
        refine g_nil ⟨by kernel_rfl, ?_⟩
        refine normal_thn ?_
        refine aw_cond_false rfl ?_
        refine aw_skip ?_
        refine normal_thn ?_
        refine aw_seq ?_
        refine aw_seq ?_
        refine aw_region ?_
        refine g_u (s_mv_imm rfl rfl) ?_
        refine g_u (s_eqI rfl rfl rfl) ?_
        refine g_nil ?_
        refine normal_thn ?_
        refine aw_cond rfl (fun hb14 => ?_) (fun hb14 => ?_)
        · skip
          have q := beq_iff_eq.1 hb14
          refine aw_region ?_
          refine g_u (s_fieldAddr rfl rfl fa78_1 rfl) ?_
          refine g_u (s_load_imm rfl rfl rfl tA76 tS76 rfl rfl) ?_
          refine g_u (s_mv_imm rfl rfl) ?_
          refine g_u (s_call1 (ih _ (nthA_mem hi) d ⟨by omega, by omega⟩) rfl rfl) ?_
          refine g_u (s_as_imm rfl rfl) ?_
          refine g_nil ?_
          refine normal_thn ?_
          refine aw_seq ?_
          refine aw_region ?_
          refine g_u (s_mv_imm rfl rfl) ?_
          refine g_u (s_neI rfl rfl rfl) ?_
          refine g_nil ?_
          refine normal_thn ?_
          refine aw_cond rfl (fun hb15 => ?_) (fun hb15 => ?_)
          · skip
            have q := bne_iff_ne.1 hb15
            refine aw_seq ?_
            refine aw_region ?_
            refine g_u (s_mv_imm rfl rfl) ?_
            refine g_u (s_as_imm rfl rfl) ?_
            refine g_nil ?_
            refine normal_thn ?_
            refine aw_ret ?_
            refine ret_blk ?_
            refine ret_thn ?_
            refine ret_thn ?_
            refine ret_blk ?_
            refine ret_thn ?_
            exact ⟨⟨(rfl : toAV (Al.look _ _) = some _).trans (congrArg some (by (exact congrArg iv (by first | (exfalso; omega) | (rw [h2, hin, List.drop_length]; rfl) | (rw [h2, E, orC_pos _ _ (by omega)]; done) | (rw [h2, E, orC_zero _ _ (by omega), if_pos pb]; done) | (rw [h2, E, orC_zero _ _ (by omega), if_neg (by rw [pb]; decide), orC_pos _ _ (by omega)]; done))))), rfl⟩, trivial⟩
          · skip
            have q := bne_eq_false_iff_eq.1 hb15
            refine aw_skip ?_
            refine normal_blk ?_
            refine normal_thn ?_
            refine aw_region ?_
            refine g_u (s_add rfl rfl rfl) ?_
            refine g_u (s_mv_imm rfl rfl) ?_
            refine g_nil ?_
            refine normal_thn ?_
            first | (exfalso; omega) | refine ⟨i + 1, ⟨hi, by (try dsimp only); rw [h2, E, orC_zero _ _ (by omega), if_neg (by rw [pb]; decide), orC_zero _ _ (by omega)]⟩, ⟨rfl, rfl, rfl, rfl, look_int rfl (by rw [wrap64 (by omega) (by omega)]; rfl), trivial⟩, by (try dsimp only); omega⟩
        · skip
          have q := beq_eq_false_iff_ne.1 hb14
          refine aw_skip ?_
          refine normal_thn ?_
          refine aw_seq ?_
          refine aw_region ?_
          refine g_u (s_mv_imm rfl rfl) ?_
          refine g_u (s_neI rfl rfl rfl) ?_
          refine g_nil ?_
          refine normal_thn ?_
          refine aw_cond rfl (fun hb16 => ?_) (fun hb16 => ?_)
          · skip
            have q := bne_iff_ne.1 hb16
            refine aw_seq ?_
            refine aw_region ?_
            refine g_u (s_mv_imm rfl rfl) ?_
            refine g_u (s_as_imm rfl rfl) ?_
            refine g_nil ?_
            refine normal_thn ?_
            refine aw_ret ?_
            refine ret_blk ?_
            refine ret_thn ?_
            refine ret_thn ?_
            refine ret_blk ?_
            refine ret_thn ?_
            exact ⟨⟨(rfl : toAV (Al.look _ _) = some _).trans (congrArg some (by (exact congrArg iv (by first | (exfalso; omega) | (rw [h2, hin, List.drop_length]; rfl) | (rw [h2, E, orC_pos _ _ (by omega)]; done) | (rw [h2, E, orC_zero _ _ (by omega), if_pos pb]; done) | (rw [h2, E, orC_zero _ _ (by omega), if_neg (by rw [pb]; decide), orC_pos _ _ (by omega)]; done))))), rfl⟩, trivial⟩
          · skip
            have q := bne_eq_false_iff_eq.1 hb16
            refine aw_skip ?_
            refine normal_blk ?_
            refine normal_thn ?_
            refine aw_region ?_
            refine g_u (s_add rfl rfl rfl) ?_
            refine g_u (s_mv_imm rfl rfl) ?_
            refine g_nil ?_
            refine normal_thn ?_
            first | (exfalso; omega) | refine ⟨i + 1, ⟨hi, by (try dsimp only); rw [h2, E, orC_zero _ _ (by omega), if_neg (by rw [pb]; decide), orC_zero _ _ (by omega)]⟩, ⟨rfl, rfl, rfl, rfl, look_int rfl (by rw [wrap64 (by omega) (by omega)]; rfl), trivial⟩, by (try dsimp only); omega⟩
    · skip
      have hin : i = l.length := by have := of_decide_eq_false hb1; (try simp only [List.length_map] at this); omega
      refine aw_exit ?_
      refine exit_thn ?_
      refine exit_thn ?_
      refine exit_blk ?_
      refine normal_thn ?_
      refine aw_seq ?_
      refine aw_region ?_
      refine g_u (s_as_imm rfl rfl) ?_
      refine g_nil ?_
      refine normal_thn ?_
      refine aw_ret ?_
      exact ⟨⟨(rfl : toAV (Al.look _ _) = some _).trans (congrArg some (by (exact congrArg iv (by first | (exfalso; omega) | (rw [h2, hin, List.drop_length]; rfl) | (rw [h2, E, orC_pos _ _ (by omega)]; done) | (rw [h2, E, orC_zero _ _ (by omega), if_pos pb]; done) | (rw [h2, E, orC_zero _ _ (by omega), if_neg (by rw [pb]; decide), orC_pos _ _ (by omega)]; done))))), rfl⟩, trivial⟩

set_option maxHeartbeats 2000000 in
theorem contentV_st (v : GV) (d : Int) (hd : 0 ≤ d ∧ d + v.wt ≤ 1000000000) (ih : ∀ y ∈ v.list, ∀ d : Int, 0 ≤ d ∧ d + y.wt ≤ 1000000000 → PCall Tryd.prog Γ0 128 [y.av, iv d] [iv (checkV d y)]) (ihm : ∀ d : Int, 0 ≤ d ∧ d + wtAs v.map ≤ 1000000000 → PCall Tryd.prog Γ0 92 [.sl 7 (v.map.map avA), iv d] [iv (entC d none v.map)]) : PCall Tryd.prog Γ0 158 [v.av, iv d] [iv (contentM d v)] := by
  have ek := v.wt_eq
  have e1 : IntKind.i64.wrap (d + 1) = d + 1 := wrap64 (by omega) (by omega)
  have lv := len_wtVs v.list
  have cr := check_range v.text
  have ce := check_eq v.text
  refine pcall_of Tryd.func158 rfl Tryd.ntmps158 (by kernel_rfl) rfl fun w0 I0 G0 => ?_
  refine aw_seq ?_
  refine aw_region ?_
  refine g_uG (s_box_imm 1002 rfl rfl rfl rfl) rfl ?_
  refine g_u (s_as_imm rfl rfl) ?_
  refine g_nil ?_
  refine normal_thn ?_
  refine aw_seq ?_
  refine aw_seq ?_
  refine aw_region ?_
  refine g_u (s_fieldAddr rfl rfl fa76_0 rfl) ?_
  refine g_u (s_load_imm rfl rfl rfl tA5 tS5 rfl rfl) ?_
  refine g_nil ?_
  refine normal_thn ?_
  refine aw_block ?_
  refine aw_seq ?_
  refine aw_region ?_
  refine g_u (s_eqI rfl rfl rfl) ?_
  refine g_u (s_as_imm rfl rfl) ?_
  refine g_nil ?_
  refine normal_thn ?_
  refine aw_cond rfl (fun hb1 => ?_) (fun hb1 => ?_)
  · skip
    have q := beq_iff_eq.1 hb1
    refine aw_seq ?_
    refine aw_region ?_
    refine g_u (s_fieldAddr rfl rfl fa76_1 rfl) ?_
    refine g_u (s_load_imm rfl rfl rfl tA9 tS9 rfl rfl) ?_
    refine g_u (s_call1 (check_c _ (by omega)) rfl rfl) ?_
    refine g_u (s_geI rfl rfl rfl) ?_
    refine g_nil ?_
    refine normal_thn ?_
    refine aw_cond rfl (fun hb2 => ?_) (fun hb2 => ?_)
    · skip
      have q := of_decide_eq_true hb2
      refine aw_seq ?_
      refine aw_region ?_
      refine g_u (s_as_imm rfl rfl) ?_
      refine g_nil ?_
      refine normal_thn ?_
      refine aw_ret ?_
      refine ret_blk ?_
      refine ret_thn ?_
      exact ⟨⟨(rfl : toAV (Al.look _ _) = some _).trans (congrArg some (by (exact congrArg iv (by unfold contentM; first | (exfalso; omega) | (rw [if_pos (by omega), if_pos (by omega)]; done) | (rw [if_pos (by omega), if_neg (by omega)]; done) | (rw [if_neg (by omega), if_pos (by omega), if_pos (by omega)]; done) | (rw [if_neg (by omega), if_pos (by omega), if_neg (by omega)]; done) | (rw [if_neg (by omega), if_neg (by omega), if_pos (by omega), h2, E, orC_pos _ _ (by omega)]; done) | (rw [if_neg (by omega), if_neg (by omega), if_pos (by omega), h2, hin, List.drop_length]; rfl) | (rw [if_neg (by omega), if_neg (by omega), if_neg (by omega), if_pos (by omega)]; done) | (rw [if_neg (by omega), if_neg (by omega), if_neg (by omega), if_neg (by omega)]; done))))), rfl⟩, trivial⟩
    · skip
      have q := of_decide_eq_false hb2
      refine aw_skip ?_
      refine normal_blk ?_
      refine normal_thn ?_
      refine aw_seq ?_
      refine aw_region ?_
      refine g_u (s_as_imm rfl rfl) ?_
      refine g_nil ?_
      refine normal_thn ?_
      refine aw_ret ?_
      exact ⟨⟨(rfl : toAV (Al.look _ _) = some _).trans (congrArg some (by (exact congrArg iv (by unfold contentM; first | (exfalso; omega) | (rw [if_pos (by omega), if_pos (by omega)]; done) | (rw [if_pos (by omega), if_neg (by omega)]; done) | (rw [if_neg (by omega), if_pos (by omega), if_pos (by omega)]; done) | (rw [if_neg (by omega), if_pos (by omega), if_neg (by omega)]; done) | (rw [if_neg (by omega), if_neg (by omega), if_pos (by omega), h2, E, orC_pos _ _ (by omega)]; done) | (rw [if_neg (by omega), if_neg (by omega), if_pos (by omega), h2, hin, List.drop_length]; rfl) | (rw [if_neg (by omega), if_neg (by omega), if_neg (by omega), if_pos (by omega)]; done) | (rw [if_neg (by omega), if_neg (by omega), if_neg (by omega), if_neg (by omega)]; done))))), rfl⟩, trivial⟩
  · skip
    have q := beq_eq_false_iff_ne.1 hb1
    refine aw_seq ?_
    refine aw_region ?_
    refine g_u (s_eqI rfl rfl rfl) ?_
    refine g_u (s_as_imm rfl rfl) ?_
    refine g_nil ?_
    refine normal_thn ?_
    refine aw_cond rfl (fun hb3 => ?_) (fun hb3 => ?_)
    · skip
      have q := beq_iff_eq.1 hb3
      refine aw_seq ?_
      refine aw_region ?_
      refine g_u (s_fieldAddr rfl rfl fa76_2 rfl) ?_
      refine g_u (s_load_imm rfl rfl rfl tA3 tS3 rfl rfl) ?_
      refine g_u (s_neI rfl rfl rfl) ?_
      refine g_u (s_mv_imm rfl rfl) ?_
      refine g_case (t := 21) rfl ?_
      rintro (hb4 | hb4)
      · rw [hb4]
        have q := bne_iff_ne.1 hb4
        refine g_run rfl rfl (s_fieldAddr rfl rfl fa76_2 rfl) ?_
        refine g_run rfl rfl (s_load_imm rfl rfl rfl tA3 tS3 rfl rfl) ?_
        refine g_run rfl rfl (s_neI rfl rfl rfl) ?_
        refine g_u (s_pick_t rfl rfl rfl) ?_
        refine g_nil ?_
        refine normal_thn ?_
        refine aw_cond rfl (fun hb5 => ?_) (fun hb5 => ?_)
        · skip
          have q := bne_iff_ne.1 hb5
          refine aw_seq ?_
          refine aw_region ?_
          refine g_u (s_as_imm rfl rfl) ?_
          refine g_nil ?_
          refine normal_thn ?_
          refine aw_ret ?_
          refine ret_blk ?_
          refine ret_thn ?_
          exact ⟨⟨(rfl : toAV (Al.look _ _) = some _).trans (congrArg some (by (exact congrArg iv (by unfold contentM; first | (exfalso; omega) | (rw [if_pos (by omega), if_pos (by omega)]; done) | (rw [if_pos (by omega), if_neg (by omega)]; done) | (rw [if_neg (by omega), if_pos (by omega), if_pos (by omega)]; done) | (rw [if_neg (by omega), if_pos (by omega), if_neg (by omega)]; done) | (rw [if_neg (by omega), if_neg (by omega), if_pos (by omega), h2, E, orC_pos _ _ (by omega)]; done) | (rw [if_neg (by omega), if_neg (by omega), if_pos (by omega), h2, hin, List.drop_length]; rfl) | (rw [if_neg (by omega), if_neg (by omega), if_neg (by omega), if_pos (by omega)]; done) | (rw [if_neg (by omega), if_neg (by omega), if_neg (by omega), if_neg (by omega)]; done))))), rfl⟩, trivial⟩
        · skip
          have q := bne_eq_false_iff_eq.1 hb5
          refine aw_skip ?_
          refine normal_blk ?_
          refine normal_thn ?_
          refine aw_seq ?_
          refine aw_region ?_
          refine g_u (s_as_imm rfl rfl) ?_
          refine g_nil ?_
          refine normal_thn ?_
          refine aw_ret ?_
          exact ⟨⟨(rfl : toAV (Al.look _ _) = some _).trans (congrArg some (by (exact congrArg iv (by unfold contentM; first | (exfalso; omega) | (rw [if_pos (by omega), if_pos (by omega)]; done) | (rw [if_pos (by omega), if_neg (by omega)]; done) | (rw [if_neg (by omega), if_pos (by omega), if_pos (by omega)]; done) | (rw [if_neg (by omega), if_pos (by omega), if_neg (by omega)]; done) | (rw [if_neg (by omega), if_neg (by omega), if_pos (by omega), h2, E, orC_pos _ _ (by omega)]; done) | (rw [if_neg (by omega), if_neg (by omega), if_pos (by omega), h2, hin, List.drop_length]; rfl) | (rw [if_neg (by omega), if_neg (by omega), if_neg (by omega), if_pos (by omega)]; done) | (rw [if_neg (by omega), if_neg (by omega), if_neg (by omega), if_neg (by omega)]; done))))), rfl⟩, trivial⟩
      · rw [hb4]
        have q := bne_eq_false_iff_eq.1 hb4
        refine g_skip rfl rfl rfl ?_
        refine g_skip rfl rfl rfl ?_
        refine g_skip rfl rfl rfl ?_
        refine g_u (s_pick_f rfl rfl rfl) ?_
        refine g_nil ?_
        refine normal_thn ?_
        refine aw_cond_false rfl ?_
        refine aw_skip ?_
        refine normal_blk ?_
        refine normal_thn ?_
        refine aw_seq ?_
        refine aw_region ?_
        refine g_u (s_as_imm rfl rfl) ?_
        refine g_nil ?_
        refine normal_thn ?_
        refine aw_ret ?_
        exact ⟨⟨(rfl : toAV (Al.look _ _) = some _).trans (congrArg some (by (exact congrArg iv (by unfold contentM; first | (exfalso; omega) | (rw [if_pos (by omega), if_pos (by omega)]; done) | (rw [if_pos (by omega), if_neg (by omega)]; done) | (rw [if_neg (by omega), if_pos (by omega), if_pos (by omega)]; done) | (rw [if_neg (by omega), if_pos (by omega), if_neg (by omega)]; done) | (rw [if_neg (by omega), if_neg (by omega), if_pos (by omega), h2, E, orC_pos _ _ (by omega)]; done) | (rw [if_neg (by omega), if_neg (by omega), if_pos (by omega), h2, hin, List.drop_length]; rfl) | (rw [if_neg (by omega), if_neg (by omega), if_neg (by omega), if_pos (by omega)]; done) | (rw [if_neg (by omega), if_neg (by omega), if_neg (by omega), if_neg (by omega)]; done))))), rfl⟩, trivial⟩
    · skip
      have q := beq_eq_false_iff_ne.1 hb3
      refine aw_seq ?_
      refine aw_region ?_
      refine g_u (s_eqI rfl rfl rfl) ?_
      refine g_u (s_as_imm rfl rfl) ?_
      refine g_nil ?_
      refine normal_thn ?_
      refine aw_cond rfl (fun hb6 => ?_) (fun hb6 => ?_)
      · skip
        have q := beq_iff_eq.1 hb6
        refine aw_seq ?_
        refine aw_region ?_
        refine g_u (s_fieldAddr rfl rfl fa76_4 rfl) ?_
        refine g_u (s_load_imm rfl rfl rfl tA74 tS74 rfl rfl) ?_
        refine g_u (s_lenL rfl rfl Tryd.underlying74) ?_
        refine g_u (s_mv_imm rfl rfl) ?_
        refine g_nil ?_
        refine normal_thn ?_
        refine aw_block ?_
        refine aw_loop' (fun i : Nat => [(1, .imm (iv d)), (29, .imm (.sl 6 (v.list.map avV))), (30, .imm (iv (v.list.length : Int))), (31, .imm (iv (i : Int)))]) (fun i => i ≤ v.list.length ∧ checkVs (d + 1) v.list = checkVs (d + 1) (v.list.drop i)) (fun i => v.list.length - i) (0) ?_ ⟨rfl, rfl, look_int rfl (by rw [List.length_map]), rfl, trivial⟩ ?_
        · exact ⟨Nat.zero_le _, rfl⟩
        · rintro i ⟨h1, h2⟩; (try dsimp only at h1 h2)
          refine aw_seq ?_
          refine aw_region ?_
          refine g_u (s_ltI rfl rfl rfl) ?_
          refine g_nil ?_
          refine normal_thn ?_
          refine aw_seq ?_
          refine aw_cond rfl (fun hb7 => ?_) (fun hb7 => ?_)
          · skip
            have hi : i < v.list.length := by have := of_decide_eq_true hb7; (try simp only [List.length_map] at this); omega
            have hw1 := wtVs_mem (nthV_mem hi)
            have E := checkVs_drop (d + 1) hi
            refine aw_skip ?_
            refine normal_thn ?_
            refine aw_seq ?_
            refine aw_block ?_
            refine aw_seq ?_
            refine aw_region ?_
            refine g_u (s_indexAddr rfl rfl rfl Tryd.underlying74 tS76 (by omega) (ixV hi)) ?_
            refine g_u (s_load_cp rfl rfl tA76 tS76 rfl rfl) ?_
            refine g_uG (s_alloc' 1006 rfl rfl rfl tZ76) rfl ?_
            refine g_u (s_store_imm rfl rfl rfl tS76 rfl rfl) ?_
            refine g_nil ?_
            refine normal_thn ?_
            refine aw_seq ?_
            refine aw_region ?_
            refine g_u (s_load_agg rfl rfl rfl tA76 tS76 rfl rfl) ?_
            refine g_u (s_mv_imm rfl rfl) ?_
            refine g_u (s_add rfl rfl rfl) ?_
            refine g_u (s_call1 ((show PCall Tryd.prog Γ0 128 [(nthV v.list i).av, iv (IntKind.i64.wrap (d + 1))] [iv (checkV (d + 1) (nthV v.list i))] from by rw [e1]; exact ih _ (nthV_mem hi) _ ⟨by omega, by omega⟩)) rfl rfl) ?_
            refine g_u (s_as_imm rfl rfl) ?_
            refine g_nil ?_
            refine normal_thn ?_
            refine aw_seq ?_
            refine aw_region ?_
            refine g_u (s_mv_imm rfl rfl) ?_
            refine g_u (s_neI rfl rfl rfl) ?_
            refine g_nil ?_
            refine normal_thn ?_
            refine aw_cond rfl (fun hb8 => ?_) (fun hb8 => ?_)
            · skip
              have q := bne_iff_ne.1 hb8
              refine aw_seq ?_
              refine aw_region ?_
              refine g_u (s_mv_imm rfl rfl) ?_
              refine g_u (s_as_imm rfl rfl) ?_
              refine g_nil ?_
              refine normal_thn ?_
              refine aw_ret ?_
              refine ret_blk ?_
              refine ret_thn ?_
              refine ret_thn ?_
              refine ret_blk ?_
              refine ret_blk ?_
              refine ret_thn ?_
              exact ⟨⟨(rfl : toAV (Al.look _ _) = some _).trans (congrArg some (by (exact congrArg iv (by unfold contentM; first | (exfalso; omega) | (rw [if_pos (by omega), if_pos (by omega)]; done) | (rw [if_pos (by omega), if_neg (by omega)]; done) | (rw [if_neg (by omega), if_pos (by omega), if_pos (by omega)]; done) | (rw [if_neg (by omega), if_pos (by omega), if_neg (by omega)]; done) | (rw [if_neg (by omega), if_neg (by omega), if_pos (by omega), h2, E, orC_pos _ _ (by omega)]; done) | (rw [if_neg (by omega), if_neg (by omega), if_pos (by omega), h2, hin, List.drop_length]; rfl) | (rw [if_neg (by omega), if_neg (by omega), if_neg (by omega), if_pos (by omega)]; done) | (rw [if_neg (by omega), if_neg (by omega), if_neg (by omega), if_neg (by omega)]; done))))), rfl⟩, trivial⟩
            · skip
              have q := bne_eq_false_iff_eq.1 hb8
              refine aw_skip ?_
              refine normal_blk ?_
              refine normal_thn ?_
              refine aw_region ?_
              refine g_u (s_add rfl rfl rfl) ?_
              refine g_u (s_mv_imm rfl rfl) ?_
              refine g_nil ?_
              refine normal_thn ?_
              refine ⟨i + 1, ⟨hi, by (try dsimp only); rw [h2, E, orC_zero _ _ (by omega)]⟩, ⟨rfl, rfl, rfl, look_int rfl (by rw [wrap64 (by omega) (by omega)]; rfl), trivial⟩, by (try dsimp only); omega⟩
          · skip
            have hin : i = v.list.length := by have := of_decide_eq_false hb7; (try simp only [List.length_map] at this); omega
            refine aw_exit ?_
            refine exit_thn ?_
            refine exit_thn ?_
            refine exit_blk ?_
            refine normal_blk ?_
            refine normal_thn ?_
            refine aw_seq ?_
            refine aw_region ?_
            refine g_u (s_as_imm rfl rfl) ?_
            refine g_nil ?_
            refine normal_thn ?_
            refine aw_ret ?_
            exact ⟨⟨(rfl : toAV (Al.look _ _) = some _).trans (congrArg some (by (exact congrArg iv (by unfold contentM; first | (exfalso; omega) | (rw [if_pos (by omega), if_pos (by omega)]; done) | (rw [if_pos (by omega), if_neg (by omega)]; done) | (rw [if_neg (by omega), if_pos (by omega), if_pos (by omega)]; done) | (rw [if_neg (by omega), if_pos (by omega), if_neg (by omega)]; done) | (rw [if_neg (by omega), if_neg (by omega), if_pos (by omega), h2, E, orC_pos _ _ (by omega)]; done) | (rw [if_neg (by omega), if_neg (by omega), if_pos (by omega), h2, hin, List.drop_length]; rfl) | (rw [if_neg (by omega), if_neg (by omega), if_neg (by omega), if_pos (by omega)]; done) | (rw [if_neg (by omega), if_neg (by omega), if_neg (by omega), if_neg (by omega)]; done))))), rfl⟩, trivial⟩
      · skip
        have q := beq_eq_false_iff_ne.1 hb6
        refine aw_seq ?_
        refine aw_region ?_
        refine g_u (s_eqI rfl rfl rfl) ?_
        refine g_u (s_as_imm rfl rfl) ?_
        refine g_nil ?_
        refine normal_thn ?_
        refine aw_cond rfl (fun hb9 => ?_) (fun hb9 => ?_)
        · skip
          have q := beq_iff_eq.1 hb9
          refine aw_seq ?_
          refine aw_region ?_
          refine g_u (s_fieldAddr rfl rfl fa76_5 rfl) ?_
          refine g_u (s_load_imm rfl rfl rfl tA27 tS27 rfl rfl) ?_
          refine g_u (s_mv_imm rfl rfl) ?_
          refine g_u (s_add rfl rfl rfl) ?_
          refine g_u (s_call1 ((show PCall Tryd.prog Γ0 92 [.sl 7 (v.map.map avA), iv (IntKind.i64.wrap (d + 1))] [iv (entC (d + 1) none v.map)] from by rw [e1]; exact ihm _ ⟨by omega, by omega⟩)) rfl rfl) ?_
          refine g_u (s_as_imm rfl rfl) ?_
          refine g_nil ?_
          refine normal_thn ?_
          refine aw_ret ?_
          refine ret_blk ?_
          refine ret_thn ?_
          exact ⟨⟨(rfl : toAV (Al.look _ _) = some _).trans (congrArg some (by (exact congrArg iv (by unfold contentM; first | (exfalso; omega) | (rw [if_pos (by omega), if_pos (by omega)]; done) | (rw [if_pos (by omega), if_neg (by omega)]; done) | (rw [if_neg (by omega), if_pos (by omega), if_pos (by omega)]; done) | (rw [if_neg (by omega), if_pos (by omega), if_neg (by omega)]; done) | (rw [if_neg (by omega), if_neg (by omega), if_pos (by omega), h2, E, orC_pos _ _ (by omega)]; done) | (rw [if_neg (by omega), if_neg (by omega), if_pos (by omega), h2, hin, List.drop_length]; rfl) | (rw [if_neg (by omega), if_neg (by omega), if_neg (by omega), if_pos (by omega)]; done) | (rw [if_neg (by omega), if_neg (by omega), if_neg (by omega), if_neg (by omega)]; done))))), rfl⟩, trivial⟩
        · skip
          have q := beq_eq_false_iff_ne.1 hb9
          refine aw_skip ?_
          refine normal_blk ?_
          refine normal_thn ?_
          refine aw_seq ?_
          refine aw_region ?_
          refine g_u (s_as_imm rfl rfl) ?_
          refine g_nil ?_
          refine normal_thn ?_
          refine aw_ret ?_
          exact ⟨⟨(rfl : toAV (Al.look _ _) = some _).trans (congrArg some (by (exact congrArg iv (by unfold contentM; first | (exfalso; omega) | (rw [if_pos (by omega), if_pos (by omega)]; done) | (rw [if_pos (by omega), if_neg (by omega)]; done) | (rw [if_neg (by omega), if_pos (by omega), if_pos (by omega)]; done) | (rw [if_neg (by omega), if_pos (by omega), if_neg (by omega)]; done) | (rw [if_neg (by omega), if_neg (by omega), if_pos (by omega), h2, E, orC_pos _ _ (by omega)]; done) | (rw [if_neg (by omega), if_neg (by omega), if_pos (by omega), h2, hin, List.drop_length]; rfl) | (rw [if_neg (by omega), if_neg (by omega), if_neg (by omega), if_pos (by omega)]; done) | (rw [if_neg (by omega), if_neg (by omega), if_neg (by omega), if_neg (by omega)]; done))))), rfl⟩, trivial⟩

set_option maxHeartbeats 400000 in
theorem checkV_st (v : GV) (d : Int) (hd : 0 ≤ d ∧ d + v.wt ≤ 1000000000) (ihc : PCall Tryd.prog Γ0 158 [v.av, iv d] [iv (contentM d v)]) : PCall Tryd.prog Γ0 128 [v.av, iv d] [iv (checkV d v)] := by
  have ek := v.wt_eq
  refine pcall_of Tryd.func128 rfl Tryd.ntmps128 (by kernel_rfl) rfl fun w0 I0 G0 => ?_
  refine aw_seq ?_
  refine aw_region ?_
  refine g_uG (s_box_imm 1002 rfl rfl rfl rfl) rfl ?_
  refine g_u (s_as_imm rfl rfl) ?_
  refine g_nil ?_
  refine normal_thn ?_
  refine aw_seq ?_
  refine aw_block ?_
  refine aw_seq ?_
  refine aw_region ?_
  refine g_u (s_fieldAddr rfl rfl fa76_0 rfl) ?_
  refine g_u (s_load_imm rfl rfl rfl tA5 tS5 rfl rfl) ?_
  refine g_u (s_gtI rfl rfl rfl) ?_
  refine g_u (s_as_imm rfl rfl) ?_
  refine g_nil ?_
  refine normal_thn ?_
  refine aw_cond rfl (fun hb1 => ?_) (fun hb1 => ?_)
  · skip
    have h7 := of_decide_eq_true hb1
    refine aw_seq ?_
    refine aw_region ?_
    refine g_u (s_as_imm rfl rfl) ?_
    refine g_nil ?_
    refine normal_thn ?_
    refine aw_ret ?_
    refine ret_blk ?_
    refine ret_thn ?_
    exact ⟨⟨(rfl : toAV (Al.look _ _) = some _).trans (congrArg some (by (exact congrArg iv (by first | (exfalso; omega) | (rw [checkV_content (by omega) he (by omega)]; done) | (rw [checkV_eq, if_pos (by omega)]; done) | (rw [checkV_eq, if_neg (by omega), if_pos he]; done) | (rw [checkV_eq, if_neg (by omega), if_neg (by rw [he]; decide), if_pos (by omega)]; done))))), rfl⟩, trivial⟩
  · skip
    have h7 := of_decide_eq_false hb1
    refine aw_seq ?_
    refine aw_region ?_
    refine g_u (s_load_imm rfl rfl rfl tA76 tS76 rfl rfl) ?_
    refine g_u (s_call1 (more_c _) rfl rfl) ?_
    refine g_u (s_as_imm rfl rfl) ?_
    refine g_nil ?_
    refine normal_thn ?_
    refine aw_cond rfl (fun hb2 => ?_) (fun hb2 => ?_)
    · skip
      have he : emptyV v = false := by have e := hb2; simpa using e
      refine aw_seq ?_
      refine aw_region ?_
      refine g_u (s_as_imm rfl rfl) ?_
      refine g_nil ?_
      refine normal_thn ?_
      refine aw_ret ?_
      refine ret_blk ?_
      refine ret_thn ?_
      exact ⟨⟨(rfl : toAV (Al.look _ _) = some _).trans (congrArg some (by (exact congrArg iv (by first | (exfalso; omega) | (rw [checkV_content (by omega) he (by omega)]; done) | (rw [checkV_eq, if_pos (by omega)]; done) | (rw [checkV_eq, if_neg (by omega), if_pos he]; done) | (rw [checkV_eq, if_neg (by omega), if_neg (by rw [he]; decide), if_pos (by omega)]; done))))), rfl⟩, trivial⟩
    · skip
      have he : emptyV v = true := by have e := hb2; simpa using e
      refine aw_seq ?_
      refine aw_region ?_
      refine g_u (s_load_imm rfl rfl rfl tA76 tS76 rfl rfl) ?_
      refine g_u (s_call1 (holds_c _) rfl rfl) ?_
      refine g_u (s_mv_imm rfl rfl) ?_
      refine g_case (t := 15) rfl ?_
      rintro (hb3 | hb3)
      · rw [hb3]
        have q : v.kind = 6 ∨ v.kind = 7 := by have e := hb3; simpa using e
        refine g_run rfl rfl (s_mv_imm rfl rfl) ?_
        refine g_run rfl rfl (s_geI rfl rfl rfl) ?_
        refine g_u (s_pick_t rfl rfl rfl) ?_
        refine g_u (s_as_imm rfl rfl) ?_
        refine g_nil ?_
        refine normal_thn ?_
        refine aw_cond rfl (fun hb4 => ?_) (fun hb4 => ?_)
        · skip
          have q := of_decide_eq_true hb4
          refine aw_seq ?_
          refine aw_region ?_
          refine g_u (s_as_imm rfl rfl) ?_
          refine g_nil ?_
          refine normal_thn ?_
          refine aw_ret ?_
          refine ret_blk ?_
          refine ret_thn ?_
          exact ⟨⟨(rfl : toAV (Al.look _ _) = some _).trans (congrArg some (by (exact congrArg iv (by first | (exfalso; omega) | (rw [checkV_content (by omega) he (by omega)]; done) | (rw [checkV_eq, if_pos (by omega)]; done) | (rw [checkV_eq, if_neg (by omega), if_pos he]; done) | (rw [checkV_eq, if_neg (by omega), if_neg (by rw [he]; decide), if_pos (by omega)]; done))))), rfl⟩, trivial⟩
        · skip
          have q := of_decide_eq_false hb4
          refine aw_skip ?_
          refine normal_blk ?_
          refine normal_thn ?_
          refine aw_seq ?_
          refine aw_region ?_
          refine g_u (s_load_imm rfl rfl rfl tA76 tS76 rfl rfl) ?_
          refine g_u (s_mv_imm rfl rfl) ?_
          refine g_u (s_call1 (ihc) rfl rfl) ?_
          refine g_u (s_as_imm rfl rfl) ?_
          refine g_nil ?_
          refine normal_thn ?_
          refine aw_ret ?_
          exact ⟨⟨(rfl : toAV (Al.look _ _) = some _).trans (congrArg some (by (exact congrArg iv (by first | (exfalso; omega) | (rw [checkV_content (by omega) he (by omega)]; done) | (rw [checkV_eq, if_pos (by omega)]; done) | (rw [checkV_eq, if_neg (by omega), if_pos he]; done) | (rw [checkV_eq, if_neg (by omega), if_neg (by rw [he]; decide), if_pos (by omega)]; done))))), rfl⟩, trivial⟩
      · rw [hb3]
        have q : ¬ (v.kind = 6 ∨ v.kind = 7) := by have e := hb3; simpa using e
        refine g_skip rfl rfl rfl ?_
        refine g_skip rfl rfl rfl ?_
        refine g_u (s_pick_f rfl rfl rfl) ?_
        refine g_u (s_as_imm rfl rfl) ?_
        refine g_nil ?_
        refine normal_thn ?_
        refine aw_cond_false rfl ?_
        refine aw_skip ?_
        refine normal_blk ?_
        refine normal_thn ?_
        refine aw_seq ?_
        refine aw_region ?_
        refine g_u (s_load_imm rfl rfl rfl tA76 tS76 rfl rfl) ?_
        refine g_u (s_mv_imm rfl rfl) ?_
        refine g_u (s_call1 (ihc) rfl rfl) ?_
        refine g_u (s_as_imm rfl rfl) ?_
        refine g_nil ?_
        refine normal_thn ?_
        refine aw_ret ?_
        exact ⟨⟨(rfl : toAV (Al.look _ _) = some _).trans (congrArg some (by (exact congrArg iv (by first | (exfalso; omega) | (rw [checkV_content (by omega) he (by omega)]; done) | (rw [checkV_eq, if_pos (by omega)]; done) | (rw [checkV_eq, if_neg (by omega), if_pos he]; done) | (rw [checkV_eq, if_neg (by omega), if_neg (by rw [he]; decide), if_pos (by omega)]; done))))), rfl⟩, trivial⟩

theorem checkV_c (v : GV) : ∀ d : Int, 0 ≤ d ∧ d + v.wt ≤ 1000000000 → PCall Tryd.prog Γ0 128 [v.av, iv d] [iv (checkV d v)] := by
  refine GV.ind (P := fun v => ∀ d : Int, 0 ≤ d ∧ d + v.wt ≤ 1000000000 → PCall Tryd.prog Γ0 128 [v.av, iv d] [iv (checkV d v)]) ?_ v
  intro v h1 h2 d hd
  exact checkV_st v d hd (contentV_st v d hd h1 fun d hd => entC_st v.map d hd h2)
theorem entC_c (l : List GA) (d : Int) (hd : 0 ≤ d ∧ d + wtAs l ≤ 1000000000) : PCall Tryd.prog Γ0 92 [.sl 7 (l.map avA), iv d] [iv (entC d none l)] := entC_st l d hd fun a _ => checkV_c a.val


end Go.Proofs

namespace Go.Al
open Go.RowKit

/-! ### Rows of one's own: an element put in, a part, a copy into a part -/
section
variable {C : Cx} {A : Nat → SV} {d : Nat} {ty : TypeId} {pos : String} {af : Array Edge} {gd : Option (Nat × Bool)} {x y : Operand} {T T' : TypeId}

end
end Go.Al

namespace Go.Proofs
open Go Go.Al

/-! ### Rows, gone through -/
theorem str_nth {l : List ByteArray} {i : Nat} (h : i < l.length) : (l.map fun x => sv x)[((i : Nat) : Int).toNat]? = some (sv (nth l i ⟨#[]⟩)) := nth_map (d := ⟨#[]⟩) h
/-! ### Held against each other -/
theorem sameV_ne {a b : GV} (h : a ≠ b) : sameV a b = false := by cases hs : sameV a b; rfl; exact absurd ((sameV_iff _ _).1 hs) h
theorem sameAs_ne {a b : List GA} (h : a ≠ b) : sameAs a b = false := by cases hs : sameAs a b; rfl; exact absurd ((sameAs_iff _ _).1 hs) h
theorem ext_nth {α : Type} {l m : List α} (d : α) (hl : l.length = m.length) (h : ∀ i, i < l.length → nth l i d = nth m i d) : l = m := by
  refine List.ext_getElem hl fun i h1 h2 => ?_
  have := h i h1
  unfold nth at this
  rwa [List.getD_eq_getElem?_getD, List.getD_eq_getElem?_getD, List.getElem?_eq_getElem h1, List.getElem?_eq_getElem h2] at this
theorem GA.ext' {a b : GA} (h1 : a.key = b.key) (h2 : a.val = b.val) : a = b := by cases a; cases b; simp only [GA.key_mk, GA.val_mk] at h1 h2; rw [h1, h2]
theorem GV.ext' {a b : GV} (h1 : a.kind = b.kind) (h2 : a.text = b.text) (h3 : a.num = b.num) (h4 : a.bits = b.bits) (h5 : a.list = b.list) (h6 : a.map = b.map) : a = b := by
  cases a; cases b
  simp only [GV.kind_mk, GV.text_mk, GV.num_mk, GV.bits_mk, GV.list_mk, GV.map_mk] at h1 h2 h3 h4 h5 h6
  rw [h1, h2, h3, h4, h5, h6]
/-- All but the entries are the same: then just the entries count. -/
theorem sameV_map {a b : GV} (h1 : a.kind = b.kind) (h2 : a.text = b.text) (h3 : a.num = b.num) (h4 : a.bits = b.bits) (h5 : a.list = b.list) : sameAs a.map b.map = sameV a b := by
  rw [Bool.eq_iff_iff, sameAs_iff, sameV_iff]
  exact ⟨fun h => GV.ext' h1 h2 h3 h4 h5 h, fun h => by rw [h]⟩

/-! ### What goes into a row -/
end Go.Proofs

namespace Go.Al
open Go.RowKit

section
variable {C : Cx} {A : Nat → SV} {d : Nat} {ty : TypeId} {pos : String} {af : Array Edge} {gd : Option (Nat × Bool)} {x y : Operand} {T T' : TypeId}
end
end Go.Al

namespace Go.Proofs
open Go Go.Al
set_option maxRecDepth 10000
end Go.Proofs

namespace Go.Proofs
open Go Go.Al
set_option maxRecDepth 10000
set_option maxHeartbeats 1000000 in
theorem rsameAs_st (a b : List GA) (hl : a.length ≤ 1000000000) (ih : ∀ x ∈ a, ∀ y : GV, PCall Tryd.prog Γ0 88 [x.val.av, y.av] [bv (sameV x.val y)]) : PCall Tryd.prog Γ0 45 [.sl 7 (a.map avA), .sl 7 (b.map avA)] [bv (sameAs a b)] := by
  refine pcall_of Tryd.func45 rfl Tryd.ntmps45 (by kernel_rfl) rfl fun w0 I0 G0 => ?_
  refine aw_seq ?_
  refine aw_region ?_
  refine g_u (s_as_imm rfl rfl) ?_
  refine g_nil ?_
  refine normal_thn ?_
  refine aw_seq ?_
  refine aw_seq ?_
  refine aw_region ?_
  refine g_u (s_mv_imm rfl rfl) ?_
  refine g_u (s_lenL rfl rfl Tryd.underlying27) ?_
  refine g_u (s_mv_imm rfl rfl) ?_
  refine g_u (s_lenL rfl rfl Tryd.underlying27) ?_
  refine g_u (s_neI rfl rfl rfl) ?_
  refine g_nil ?_
  refine normal_thn ?_
  refine aw_cond rfl (fun hb1 => ?_) (fun hb1 => ?_)
  · skip
    have q : ¬ a.length = b.length := by have e := bne_iff_ne.1 hb1; simp only [List.length_map] at e; omega
    refine aw_seq ?_
    refine aw_region ?_
    refine g_u (s_as_imm rfl rfl) ?_
    refine g_nil ?_
    refine normal_thn ?_
    refine aw_ret ?_
    refine ret_thn ?_
    exact ⟨⟨(rfl : toAV (Al.look _ _) = some _).trans (congrArg some (by (exact congrArg bv (by first | exact (sameAs_ne (fun e => q (by rw [e]))).symm | exact ((sameAs_iff _ _).2 (ext_nth a0 el (fun j hj => h2 j (by omega)))).symm)))), rfl⟩, trivial⟩
  · skip
    have el : a.length = b.length := by have e := bne_eq_false_iff_eq.1 hb1; simp only [List.length_map] at e; omega
    refine aw_skip ?_
    refine normal_thn ?_
    refine aw_seq ?_
    refine aw_seq ?_
    refine aw_region ?_
    refine g_u (s_as_imm rfl rfl) ?_
    refine g_nil ?_
    refine normal_thn ?_
    refine aw_block ?_
    refine aw_loop' (fun i : Nat => [(0, .imm (.sl 7 (a.map avA))), (1, .imm (.sl 7 (b.map avA))), (5, .imm (iv (i : Int)))]) (fun i => i ≤ a.length ∧ ∀ j, j < i → nth a j a0 = nth b j a0) (fun i => a.length - i) (0) ?_ ⟨rfl, rfl, rfl, trivial⟩ ?_
    · exact ⟨Nat.zero_le _, fun j h => absurd h (Nat.not_lt_zero _)⟩
    · rintro i ⟨h1, h2⟩; (try dsimp only at h1 h2)
      refine aw_seq ?_
      refine aw_seq ?_
      refine aw_region ?_
      refine g_u (s_mv_imm rfl rfl) ?_
      refine g_u (s_mv_imm rfl rfl) ?_
      refine g_u (s_lenL rfl rfl Tryd.underlying27) ?_
      refine g_u (s_ltI rfl rfl rfl) ?_
      refine g_nil ?_
      refine normal_thn ?_
      refine aw_cond rfl (fun hb2 => ?_) (fun hb2 => ?_)
      · skip
        have hi : i < a.length := by have := of_decide_eq_true hb2; (try simp only [List.length_map] at this); omega
        have hib : i < b.length := by omega
        refine aw_skip ?_
        refine normal_thn ?_
        refine aw_seq ?_
        refine aw_block ?_
        refine aw_seq ?_
        refine aw_draw mixed ?_
        refine g_u (s_mv_imm rfl rfl) ?_
        refine g_u (s_mv_imm rfl rfl) ?_
        refine g_u (s_indexAddr rfl rfl rfl Tryd.underlying27 tS78 (by omega) (ixA hi)) ?_
        refine g_u (s_fieldAddr_cp rfl rfl fa78_0 rfl rfl) ?_
        refine g_u (s_load_cp rfl rfl tA9 tS9 rfl rfl) ?_
        refine g_u (s_mv_imm rfl rfl) ?_
        refine g_u (s_mv_imm rfl rfl) ?_
        refine g_u (s_indexAddr rfl rfl rfl Tryd.underlying27 tS78 (by omega) (ixA hib)) ?_
        refine g_u (s_fieldAddr_cp rfl rfl fa78_0 rfl rfl) ?_
        refine g_u (s_load_cp rfl rfl tA9 tS9 rfl rfl) ?_
        refine g_u (s_neS rfl rfl rfl) ?_
        refine g_u (s_mv_imm rfl rfl) ?_
        refine g_case (t := 28) rfl ?_
        rintro (hb3 | hb3)
        · rw [hb3]
          have q : ¬ (nthA a i).key = (nthA b i).key := by have e := hb3; rw [str_beq] at e; simpa using e
          refine g_skip rfl rfl rfl ?_
          refine g_skip rfl rfl rfl ?_
          refine g_skip rfl rfl rfl ?_
          refine g_skip rfl rfl rfl ?_
          refine g_skip rfl rfl rfl ?_
          refine g_skip rfl rfl rfl ?_
          refine g_skip rfl rfl rfl ?_
          refine g_skip rfl rfl rfl ?_
          refine g_skip rfl rfl rfl ?_
          refine g_skip rfl rfl rfl ?_
          refine g_skip rfl rfl rfl ?_
          refine g_skip rfl rfl rfl ?_
          refine g_u (s_pick_t rfl rfl rfl) ?_
          refine g_nil ⟨by kernel_rfl, ?_⟩
          refine normal_thn ?_
          refine aw_cond_true rfl ?_
          refine aw_seq ?_
          refine aw_region ?_
          refine g_u (s_as_imm rfl rfl) ?_
          refine g_nil ?_
          refine normal_thn ?_
          refine aw_ret ?_
          refine ret_blk ?_
          refine ret_thn ?_
          refine ret_thn ?_
          refine ret_blk ?_
          refine ret_thn ?_
          exact ⟨⟨(rfl : toAV (Al.look _ _) = some _).trans (congrArg some (by (exact congrArg bv (by first | exact (sameAs_ne (fun e => q (by rw [e]))).symm | exact ((sameAs_iff _ _).2 (ext_nth a0 el (fun j hj => h2 j (by omega)))).symm)))), rfl⟩, trivial⟩
        · rw [hb3]
          have ek : (nthA a i).key = (nthA b i).key := by have e := hb3; rw [str_beq] at e; simpa using e
          refine g_run rfl rfl (s_mv_imm rfl rfl) ?_
          refine g_run rfl rfl (s_mv_imm rfl rfl) ?_
          refine g_run rfl rfl (s_indexAddr rfl rfl rfl Tryd.underlying27 tS78 (by omega) (ixA hi)) ?_
          refine g_run rfl rfl (s_fieldAddr_cp rfl rfl fa78_1 rfl rfl) ?_
          refine g_run rfl rfl (s_load_cp rfl rfl tA76 tS76 rfl rfl) ?_
          refine g_run rfl rfl (s_mv_imm rfl rfl) ?_
          refine g_run rfl rfl (s_mv_imm rfl rfl) ?_
          refine g_run rfl rfl (s_indexAddr rfl rfl rfl Tryd.underlying27 tS78 (by omega) (ixA hib)) ?_
          refine g_run rfl rfl (s_fieldAddr_cp rfl rfl fa78_1 rfl rfl) ?_
          refine g_run rfl rfl (s_load_cp rfl rfl tA76 tS76 rfl rfl) ?_
          refine g_run rfl rfl (s_call1 (ih _ (nthA_mem hi) _) rfl rfl) ?_
          refine g_run rfl rfl (s_not rfl rfl) ?_
          refine g_u (s_pick_f rfl rfl rfl) ?_
          refine g_nil ⟨by kernel_rfl, ?_⟩
          refine normal_thn ?_
          refine aw_cond rfl (fun hb4 => ?_) (fun hb4 => ?_)
          · skip
            have q : ¬ (nthA a i).val = (nthA b i).val := fun h => by have e := hb4; rw [h, sameV_refl] at e; cases e
            refine aw_seq ?_
            refine aw_region ?_
            refine g_u (s_as_imm rfl rfl) ?_
            refine g_nil ?_
            refine normal_thn ?_
            refine aw_ret ?_
            refine ret_blk ?_
            refine ret_thn ?_
            refine ret_thn ?_
            refine ret_blk ?_
            refine ret_thn ?_
            exact ⟨⟨(rfl : toAV (Al.look _ _) = some _).trans (congrArg some (by (exact congrArg bv (by first | exact (sameAs_ne (fun e => q (by rw [e]))).symm | exact ((sameAs_iff _ _).2 (ext_nth a0 el (fun j hj => h2 j (by omega)))).symm)))), rfl⟩, trivial⟩
          · skip
            have ev : (nthA a i).val = (nthA b i).val := (sameV_iff _ _).1 (by have e := hb4; simpa using e)
            refine aw_skip ?_
            refine normal_blk ?_
            refine normal_thn ?_
            refine aw_region ?_
            refine g_u (s_mv_imm rfl rfl) ?_
            refine g_u (s_add rfl rfl rfl) ?_
            refine g_u (s_as_imm rfl rfl) ?_
            refine g_nil ?_
            refine normal_thn ?_
            refine ⟨i + 1, ⟨hi, fun j hj => by rcases Nat.lt_or_ge j i with h | h; exact h2 j h; rw [show j = i by omega]; exact GA.ext' ek ev⟩, ⟨rfl, rfl, look_int rfl (by rw [wrap64 (by omega) (by omega)]; rfl), trivial⟩, by (try dsimp only); omega⟩
      · skip
        have hin : i = a.length := by have := of_decide_eq_false hb2; (try simp only [List.length_map] at this); omega
        refine aw_exit ?_
        refine exit_thn ?_
        refine exit_thn ?_
        refine exit_blk ?_
        refine normal_thn ?_
        refine aw_seq ?_
        refine aw_region ?_
        refine g_u (s_as_imm rfl rfl) ?_
        refine g_nil ?_
        refine normal_thn ?_
        refine aw_ret ?_
        exact ⟨⟨(rfl : toAV (Al.look _ _) = some _).trans (congrArg some (by (exact congrArg bv (by first | exact (sameAs_ne (fun e => q (by rw [e]))).symm | exact ((sameAs_iff _ _).2 (ext_nth a0 el (fun j hj => h2 j (by omega)))).symm)))), rfl⟩, trivial⟩

set_option maxHeartbeats 2000000 in
theorem rsameV_st (a b : GV) (hl : a.list.length ≤ 1000000000) (ih : ∀ x ∈ a.list, ∀ y : GV, PCall Tryd.prog Γ0 88 [x.av, y.av] [bv (sameV x y)]) (ihm : PCall Tryd.prog Γ0 45 [.sl 7 (a.map.map avA), .sl 7 (b.map.map avA)] [bv (sameAs a.map b.map)]) : PCall Tryd.prog Γ0 88 [a.av, b.av] [bv (sameV a b)] := by
  refine pcall_of Tryd.func88 rfl Tryd.ntmps88 (by kernel_rfl) rfl fun w0 I0 G0 => ?_
  refine aw_seq ?_
  refine aw_region ?_
  refine g_uG (s_box_imm 1002 rfl rfl rfl rfl) rfl ?_
  refine g_uG (s_box_imm 1003 rfl rfl rfl rfl) rfl ?_
  refine g_u (s_as_imm rfl rfl) ?_
  refine g_nil ?_
  refine normal_thn ?_
  refine aw_seq ?_
  refine aw_seq ?_
  refine aw_region ?_
  refine g_u (s_fieldAddr rfl rfl fa76_0 rfl) ?_
  refine g_u (s_load_imm rfl rfl rfl tA5 tS5 rfl rfl) ?_
  refine g_u (s_fieldAddr rfl rfl fa76_0 rfl) ?_
  refine g_u (s_load_imm rfl rfl rfl tA5 tS5 rfl rfl) ?_
  refine g_u (s_neI rfl rfl rfl) ?_
  refine g_u (s_mv_imm rfl rfl) ?_
  refine g_case (t := 11) rfl ?_
  rintro (hb1 | hb1)
  · rw [hb1]
    have q : ¬ a.kind = b.kind := bne_iff_ne.1 hb1
    refine g_skip rfl rfl rfl ?_
    refine g_skip rfl rfl rfl ?_
    refine g_skip rfl rfl rfl ?_
    refine g_skip rfl rfl rfl ?_
    refine g_skip rfl rfl rfl ?_
    refine g_u (s_pick_t rfl rfl rfl) ?_
    refine g_u (s_mv_imm rfl rfl) ?_
    refine g_skip rfl rfl rfl ?_
    refine g_skip rfl rfl rfl ?_
    refine g_skip rfl rfl rfl ?_
    refine g_skip rfl rfl rfl ?_
    refine g_skip rfl rfl rfl ?_
    refine g_u (s_pick_t rfl rfl rfl) ?_
    refine g_u (s_mv_imm rfl rfl) ?_
    refine g_skip rfl rfl rfl ?_
    refine g_skip rfl rfl rfl ?_
    refine g_skip rfl rfl rfl ?_
    refine g_skip rfl rfl rfl ?_
    refine g_skip rfl rfl rfl ?_
    refine g_u (s_pick_t rfl rfl rfl) ?_
    refine g_u (s_mv_imm rfl rfl) ?_
    refine g_skip rfl rfl rfl ?_
    refine g_skip rfl rfl rfl ?_
    refine g_skip rfl rfl rfl ?_
    refine g_skip rfl rfl rfl ?_
    refine g_skip rfl rfl rfl ?_
    refine g_skip rfl rfl rfl ?_
    refine g_skip rfl rfl rfl ?_
    refine g_u (s_pick_t rfl rfl rfl) ?_
    refine g_nil ?_
    refine normal_thn ?_
    refine aw_cond_true rfl ?_
    refine aw_seq ?_
    refine aw_region ?_
    refine g_u (s_as_imm rfl rfl) ?_
    refine g_nil ?_
    refine normal_thn ?_
    refine aw_ret ?_
    refine ret_thn ?_
    exact ⟨⟨(rfl : toAV (Al.look _ _) = some _).trans (congrArg some (by (exact congrArg bv (by first | exact (sameV_ne (fun e => q (by rw [e]))).symm | exact sameV_map e1 e2 e3 e4 (ext_nth v0 e5 (fun j hj => h2 j (by omega))))))), rfl⟩, trivial⟩
  · rw [hb1]
    have e1 : a.kind = b.kind := bne_eq_false_iff_eq.1 hb1
    refine g_run rfl rfl (s_fieldAddr rfl rfl fa76_1 rfl) ?_
    refine g_run rfl rfl (s_load_imm rfl rfl rfl tA9 tS9 rfl rfl) ?_
    refine g_run rfl rfl (s_fieldAddr rfl rfl fa76_1 rfl) ?_
    refine g_run rfl rfl (s_load_imm rfl rfl rfl tA9 tS9 rfl rfl) ?_
    refine g_run rfl rfl (s_neS rfl rfl rfl) ?_
    refine g_u (s_pick_f rfl rfl rfl) ?_
    refine g_u (s_mv_imm rfl rfl) ?_
    refine g_case (t := 18) rfl ?_
    rintro (hb2 | hb2)
    · rw [hb2]
      have q : ¬ a.text = b.text := by have e := hb2; rw [str_beq] at e; simpa using e
      refine g_skip rfl rfl rfl ?_
      refine g_skip rfl rfl rfl ?_
      refine g_skip rfl rfl rfl ?_
      refine g_skip rfl rfl rfl ?_
      refine g_skip rfl rfl rfl ?_
      refine g_u (s_pick_t rfl rfl rfl) ?_
      refine g_u (s_mv_imm rfl rfl) ?_
      refine g_skip rfl rfl rfl ?_
      refine g_skip rfl rfl rfl ?_
      refine g_skip rfl rfl rfl ?_
      refine g_skip rfl rfl rfl ?_
      refine g_skip rfl rfl rfl ?_
      refine g_u (s_pick_t rfl rfl rfl) ?_
      refine g_u (s_mv_imm rfl rfl) ?_
      refine g_skip rfl rfl rfl ?_
      refine g_skip rfl rfl rfl ?_
      refine g_skip rfl rfl rfl ?_
      refine g_skip rfl rfl rfl ?_
      refine g_skip rfl rfl rfl ?_
      refine g_skip rfl rfl rfl ?_
      refine g_skip rfl rfl rfl ?_
      refine g_u (s_pick_t rfl rfl rfl) ?_
      refine g_nil ?_
      refine normal_thn ?_
      refine aw_cond_true rfl ?_
      refine aw_seq ?_
      refine aw_region ?_
      refine g_u (s_as_imm rfl rfl) ?_
      refine g_nil ?_
      refine normal_thn ?_
      refine aw_ret ?_
      refine ret_thn ?_
      exact ⟨⟨(rfl : toAV (Al.look _ _) = some _).trans (congrArg some (by (exact congrArg bv (by first | exact (sameV_ne (fun e => q (by rw [e]))).symm | exact sameV_map e1 e2 e3 e4 (ext_nth v0 e5 (fun j hj => h2 j (by omega))))))), rfl⟩, trivial⟩
    · rw [hb2]
      have e2 : a.text = b.text := by have e := hb2; rw [str_beq] at e; simpa using e
      refine g_run rfl rfl (s_fieldAddr rfl rfl fa76_2 rfl) ?_
      refine g_run rfl rfl (s_load_imm rfl rfl rfl tA3 tS3 rfl rfl) ?_
      refine g_run rfl rfl (s_fieldAddr rfl rfl fa76_2 rfl) ?_
      refine g_run rfl rfl (s_load_imm rfl rfl rfl tA3 tS3 rfl rfl) ?_
      refine g_run rfl rfl (s_neI rfl rfl rfl) ?_
      refine g_u (s_pick_f rfl rfl rfl) ?_
      refine g_u (s_mv_imm rfl rfl) ?_
      refine g_case (t := 25) rfl ?_
      rintro (hb3 | hb3)
      · rw [hb3]
        have q : ¬ a.num = b.num := bne_iff_ne.1 hb3
        refine g_skip rfl rfl rfl ?_
        refine g_skip rfl rfl rfl ?_
        refine g_skip rfl rfl rfl ?_
        refine g_skip rfl rfl rfl ?_
        refine g_skip rfl rfl rfl ?_
        refine g_u (s_pick_t rfl rfl rfl) ?_
        refine g_u (s_mv_imm rfl rfl) ?_
        refine g_skip rfl rfl rfl ?_
        refine g_skip rfl rfl rfl ?_
        refine g_skip rfl rfl rfl ?_
        refine g_skip rfl rfl rfl ?_
        refine g_skip rfl rfl rfl ?_
        refine g_skip rfl rfl rfl ?_
        refine g_skip rfl rfl rfl ?_
        refine g_u (s_pick_t rfl rfl rfl) ?_
        refine g_nil ?_
        refine normal_thn ?_
        refine aw_cond_true rfl ?_
        refine aw_seq ?_
        refine aw_region ?_
        refine g_u (s_as_imm rfl rfl) ?_
        refine g_nil ?_
        refine normal_thn ?_
        refine aw_ret ?_
        refine ret_thn ?_
        exact ⟨⟨(rfl : toAV (Al.look _ _) = some _).trans (congrArg some (by (exact congrArg bv (by first | exact (sameV_ne (fun e => q (by rw [e]))).symm | exact sameV_map e1 e2 e3 e4 (ext_nth v0 e5 (fun j hj => h2 j (by omega))))))), rfl⟩, trivial⟩
      · rw [hb3]
        have e3 : a.num = b.num := bne_eq_false_iff_eq.1 hb3
        refine g_run rfl rfl (s_fieldAddr rfl rfl fa76_3 rfl) ?_
        refine g_run rfl rfl (s_load_imm rfl rfl rfl tA26 tS26 rfl rfl) ?_
        refine g_run rfl rfl (s_fieldAddr rfl rfl fa76_3 rfl) ?_
        refine g_run rfl rfl (s_load_imm rfl rfl rfl tA26 tS26 rfl rfl) ?_
        refine g_run rfl rfl (s_neI rfl rfl rfl) ?_
        refine g_u (s_pick_f rfl rfl rfl) ?_
        refine g_u (s_mv_imm rfl rfl) ?_
        refine g_case (t := 32) rfl ?_
        rintro (hb4 | hb4)
        · rw [hb4]
          have q : ¬ a.bits = b.bits := bne_iff_ne.1 hb4
          refine g_skip rfl rfl rfl ?_
          refine g_skip rfl rfl rfl ?_
          refine g_skip rfl rfl rfl ?_
          refine g_skip rfl rfl rfl ?_
          refine g_skip rfl rfl rfl ?_
          refine g_skip rfl rfl rfl ?_
          refine g_skip rfl rfl rfl ?_
          refine g_u (s_pick_t rfl rfl rfl) ?_
          refine g_nil ?_
          refine normal_thn ?_
          refine aw_cond_true rfl ?_
          refine aw_seq ?_
          refine aw_region ?_
          refine g_u (s_as_imm rfl rfl) ?_
          refine g_nil ?_
          refine normal_thn ?_
          refine aw_ret ?_
          refine ret_thn ?_
          exact ⟨⟨(rfl : toAV (Al.look _ _) = some _).trans (congrArg some (by (exact congrArg bv (by first | exact (sameV_ne (fun e => q (by rw [e]))).symm | exact sameV_map e1 e2 e3 e4 (ext_nth v0 e5 (fun j hj => h2 j (by omega))))))), rfl⟩, trivial⟩
        · rw [hb4]
          have e4 : a.bits = b.bits := bne_eq_false_iff_eq.1 hb4
          refine g_run rfl rfl (s_fieldAddr rfl rfl fa76_4 rfl) ?_
          refine g_run rfl rfl (s_load_imm rfl rfl rfl tA74 tS74 rfl rfl) ?_
          refine g_run rfl rfl (s_lenL rfl rfl Tryd.underlying74) ?_
          refine g_run rfl rfl (s_fieldAddr rfl rfl fa76_4 rfl) ?_
          refine g_run rfl rfl (s_load_imm rfl rfl rfl tA74 tS74 rfl rfl) ?_
          refine g_run rfl rfl (s_lenL rfl rfl Tryd.underlying74) ?_
          refine g_run rfl rfl (s_neI rfl rfl rfl) ?_
          refine g_u (s_pick_f rfl rfl rfl) ?_
          refine g_nil ?_
          refine normal_thn ?_
          refine aw_cond rfl (fun hb5 => ?_) (fun hb5 => ?_)
          · skip
            have q : ¬ a.list.length = b.list.length := by have e := bne_iff_ne.1 hb5; simp only [List.length_map] at e; omega
            refine aw_seq ?_
            refine aw_region ?_
            refine g_u (s_as_imm rfl rfl) ?_
            refine g_nil ?_
            refine normal_thn ?_
            refine aw_ret ?_
            refine ret_thn ?_
            exact ⟨⟨(rfl : toAV (Al.look _ _) = some _).trans (congrArg some (by (exact congrArg bv (by first | exact (sameV_ne (fun e => q (by rw [e]))).symm | exact sameV_map e1 e2 e3 e4 (ext_nth v0 e5 (fun j hj => h2 j (by omega))))))), rfl⟩, trivial⟩
          · skip
            have e5 : a.list.length = b.list.length := by have e := bne_eq_false_iff_eq.1 hb5; simp only [List.length_map] at e; omega
            refine aw_skip ?_
            refine normal_thn ?_
            refine aw_seq ?_
            refine aw_seq ?_
            refine aw_region ?_
            refine g_u (s_as_imm rfl rfl) ?_
            refine g_nil ?_
            refine normal_thn ?_
            refine aw_block ?_
            refine aw_loop' (fun i : Nat => [(2, .ptr 1002 0), (1002, .box 76 (.imm a.av)), (3, .ptr 1003 0), (1003, .box 76 (.imm b.av)), (5, .imm (iv (i : Int)))]) (fun i => i ≤ a.list.length ∧ ∀ j, j < i → nth a.list j v0 = nth b.list j v0) (fun i => a.list.length - i) (0) ?_ ⟨rfl, rfl, rfl, rfl, rfl, trivial⟩ ?_
            · exact ⟨Nat.zero_le _, fun j h => absurd h (Nat.not_lt_zero _)⟩
            · rintro i ⟨h1, h2⟩; (try dsimp only at h1 h2)
              refine aw_seq ?_
              refine aw_seq ?_
              refine aw_region ?_
              refine g_u (s_mv_imm rfl rfl) ?_
              refine g_u (s_fieldAddr rfl rfl fa76_4 rfl) ?_
              refine g_u (s_load_imm rfl rfl rfl tA74 tS74 rfl rfl) ?_
              refine g_u (s_lenL rfl rfl Tryd.underlying74) ?_
              refine g_u (s_ltI rfl rfl rfl) ?_
              refine g_nil ?_
              refine normal_thn ?_
              refine aw_cond rfl (fun hb6 => ?_) (fun hb6 => ?_)
              · skip
                have hi : i < a.list.length := by have := of_decide_eq_true hb6; (try simp only [List.length_map] at this); omega
                have hib : i < b.list.length := by omega
                refine aw_skip ?_
                refine normal_thn ?_
                refine aw_seq ?_
                refine aw_block ?_
                refine aw_seq ?_
                refine aw_draw mixed ?_
                refine g_u (s_fieldAddr rfl rfl fa76_4 rfl) ?_
                refine g_u (s_load_imm rfl rfl rfl tA74 tS74 rfl rfl) ?_
                refine g_u (s_mv_imm rfl rfl) ?_
                refine g_u (s_indexAddr rfl rfl rfl Tryd.underlying74 tS76 (by omega) (ixV hi)) ?_
                refine g_u (s_load_cp rfl rfl tA76 tS76 rfl rfl) ?_
                refine g_u (s_fieldAddr rfl rfl fa76_4 rfl) ?_
                refine g_u (s_load_imm rfl rfl rfl tA74 tS74 rfl rfl) ?_
                refine g_u (s_mv_imm rfl rfl) ?_
                refine g_u (s_indexAddr rfl rfl rfl Tryd.underlying74 tS76 (by omega) (ixV hib)) ?_
                refine g_u (s_load_cp rfl rfl tA76 tS76 rfl rfl) ?_
                refine g_u (s_call1 (ih _ (nthV_mem hi) _) rfl rfl) ?_
                refine g_u (s_not rfl rfl) ?_
                refine g_nil ⟨by kernel_rfl, ?_⟩
                refine normal_thn ?_
                refine aw_cond rfl (fun hb7 => ?_) (fun hb7 => ?_)
                · skip
                  have q : ¬ nthV a.list i = nthV b.list i := fun h => by have e := hb7; rw [h, sameV_refl] at e; cases e
                  refine aw_seq ?_
                  refine aw_region ?_
                  refine g_u (s_as_imm rfl rfl) ?_
                  refine g_nil ?_
                  refine normal_thn ?_
                  refine aw_ret ?_
                  refine ret_blk ?_
                  refine ret_thn ?_
                  refine ret_thn ?_
                  refine ret_blk ?_
                  refine ret_thn ?_
                  exact ⟨⟨(rfl : toAV (Al.look _ _) = some _).trans (congrArg some (by (exact congrArg bv (by first | exact (sameV_ne (fun e => q (by rw [e]))).symm | exact sameV_map e1 e2 e3 e4 (ext_nth v0 e5 (fun j hj => h2 j (by omega))))))), rfl⟩, trivial⟩
                · skip
                  have ev : nthV a.list i = nthV b.list i := (sameV_iff _ _).1 (by have e := hb7; simpa using e)
                  refine aw_skip ?_
                  refine normal_blk ?_
                  refine normal_thn ?_
                  refine aw_region ?_
                  refine g_u (s_mv_imm rfl rfl) ?_
                  refine g_u (s_add rfl rfl rfl) ?_
                  refine g_u (s_as_imm rfl rfl) ?_
                  refine g_nil ?_
                  refine normal_thn ?_
                  refine ⟨i + 1, ⟨hi, fun j hj => by rcases Nat.lt_or_ge j i with h | h; exact h2 j h; rw [show j = i by omega]; exact ev⟩, ⟨rfl, rfl, rfl, rfl, look_int rfl (by rw [wrap64 (by omega) (by omega)]; rfl), trivial⟩, by (try dsimp only); omega⟩
              · skip
                have hin : i = a.list.length := by have := of_decide_eq_false hb6; (try simp only [List.length_map] at this); omega
                refine aw_exit ?_
                refine exit_thn ?_
                refine exit_thn ?_
                refine exit_blk ?_
                refine normal_thn ?_
                refine aw_seq ?_
                refine aw_region ?_
                refine g_u (s_fieldAddr rfl rfl fa76_5 rfl) ?_
                refine g_u (s_load_imm rfl rfl rfl tA27 tS27 rfl rfl) ?_
                refine g_u (s_fieldAddr rfl rfl fa76_5 rfl) ?_
                refine g_u (s_load_imm rfl rfl rfl tA27 tS27 rfl rfl) ?_
                refine g_u (s_call1 (ihm) rfl rfl) ?_
                refine g_u (s_as_imm rfl rfl) ?_
                refine g_nil ?_
                refine normal_thn ?_
                refine aw_ret ?_
                exact ⟨⟨(rfl : toAV (Al.look _ _) = some _).trans (congrArg some (by (exact congrArg bv (by first | exact (sameV_ne (fun e => q (by rw [e]))).symm | exact sameV_map e1 e2 e3 e4 (ext_nth v0 e5 (fun j hj => h2 j (by omega))))))), rfl⟩, trivial⟩

theorem rsameV_c (a : GV) : a.wt ≤ 1000000000 → ∀ b : GV, PCall Tryd.prog Γ0 88 [a.av, b.av] [bv (sameV a b)] := by
  refine GV.ind (P := fun a => a.wt ≤ 1000000000 → ∀ b : GV, PCall Tryd.prog Γ0 88 [a.av, b.av] [bv (sameV a b)]) ?_ a
  intro a h1 h2 hw b
  have ek := a.wt_eq
  have la := len_wtAs a.map
  have lv := len_wtVs a.list
  exact rsameV_st a b (by omega) (fun x hx => h1 x hx (by have := wtVs_mem hx; omega)) (rsameAs_st a.map b.map (by omega) fun x hx => h2 x hx (by have := wtAs_mem hx; have := x.wt_eq; omega))
theorem rsameAs_c (a b : List GA) (hw : wtAs a ≤ 1000000000) : PCall Tryd.prog Γ0 45 [.sl 7 (a.map avA), .sl 7 (b.map avA)] [bv (sameAs a b)] := by
  have la := len_wtAs a
  exact rsameAs_st a b (by omega) fun x hx => rsameV_c x.val (by have := wtAs_mem hx; have := x.wt_eq; omega)

set_option maxHeartbeats 400000 in
theorem checkAs_c (l : List GA) (ho : ∀ a ∈ l, a.ok) (hw : wtAs l ≤ 1000000) : PCall Tryd.prog Γ0 56 [(.sl 7 (l.map avA))] [iv (attrsC l)] := by
  have hl := len_wtAs l
  refine pcall_of Tryd.func56 rfl Tryd.ntmps56 (by kernel_rfl) rfl fun w0 I0 G0 => ?_
  refine aw_seq ?_
  refine aw_region ?_
  refine g_u (s_as_imm rfl rfl) ?_
  refine g_nil ?_
  refine normal_thn ?_
  refine aw_seq ?_
  refine aw_seq ?_
  refine aw_region ?_
  refine g_u (s_mv_imm rfl rfl) ?_
  refine g_u (s_lenL rfl rfl Tryd.underlying27) ?_
  refine g_u (s_gtI rfl rfl rfl) ?_
  refine g_nil ?_
  refine normal_thn ?_
  refine aw_cond rfl (fun hb1 => ?_) (fun hb1 => ?_)
  · skip
    have q : (l.length : Int) > 32 := by have e := of_decide_eq_true hb1; simp only [List.length_map] at e; omega
    refine aw_seq ?_
    refine aw_region ?_
    refine g_u (s_as_imm rfl rfl) ?_
    refine g_nil ?_
    refine normal_thn ?_
    refine aw_ret ?_
    refine ret_thn ?_
    exact ⟨⟨(rfl : toAV (Al.look _ _) = some _).trans (congrArg some (by (exact congrArg iv (by first | (rw [h2, hin, List.drop_length]; rfl) | (rw [h2, textsC_drop hi, if_pos (by omega)]; done) | (unfold attrsC; rw [if_pos (by omega)]; done) | (unfold attrsC; rw [if_neg (by omega), orC_pos _ _ (by omega)]; done))))), rfl⟩, trivial⟩
  · skip
    have q : ¬ (l.length : Int) > 32 := by have e := of_decide_eq_false hb1; simp only [List.length_map] at e; omega
    refine aw_skip ?_
    refine normal_thn ?_
    refine aw_seq ?_
    refine aw_seq ?_
    refine aw_region ?_
    refine g_u (s_mv_imm rfl rfl) ?_
    refine g_u (s_call1 (entC_c l 0 ⟨by omega, by omega⟩) rfl rfl) ?_
    refine g_u (s_as_imm rfl rfl) ?_
    refine g_nil ?_
    refine normal_thn ?_
    refine aw_seq ?_
    refine aw_region ?_
    refine g_u (s_mv_imm rfl rfl) ?_
    refine g_u (s_neI rfl rfl rfl) ?_
    refine g_nil ?_
    refine normal_thn ?_
    refine aw_cond rfl (fun hb2 => ?_) (fun hb2 => ?_)
    · skip
      have q := bne_iff_ne.1 hb2
      refine aw_seq ?_
      refine aw_region ?_
      refine g_u (s_mv_imm rfl rfl) ?_
      refine g_u (s_as_imm rfl rfl) ?_
      refine g_nil ?_
      refine normal_thn ?_
      refine aw_ret ?_
      refine ret_thn ?_
      exact ⟨⟨(rfl : toAV (Al.look _ _) = some _).trans (congrArg some (by (exact congrArg iv (by first | (rw [h2, hin, List.drop_length]; rfl) | (rw [h2, textsC_drop hi, if_pos (by omega)]; done) | (unfold attrsC; rw [if_pos (by omega)]; done) | (unfold attrsC; rw [if_neg (by omega), orC_pos _ _ (by omega)]; done))))), rfl⟩, trivial⟩
    · skip
      have q := bne_eq_false_iff_eq.1 hb2
      refine aw_skip ?_
      refine normal_thn ?_
      refine aw_seq ?_
      refine aw_seq ?_
      refine aw_region ?_
      refine g_u (s_mv_imm rfl rfl) ?_
      refine g_u (s_lenL rfl rfl Tryd.underlying27) ?_
      refine g_u (s_mv_imm rfl rfl) ?_
      refine g_nil ?_
      refine normal_thn ?_
      refine aw_block ?_
      refine aw_loop' (fun i : Nat => [(14, .imm (.sl 7 (l.map avA))), (15, .imm (iv (l.length : Int))), (16, .imm (iv (i : Int)))]) (fun i => i ≤ l.length ∧ attrsC l = textsC (l.drop i)) (fun i => l.length - i) (0) ?_ ⟨rfl, look_int rfl (by rw [List.length_map]), rfl, trivial⟩ ?_
      · exact ⟨Nat.zero_le _, by unfold attrsC; rw [if_neg (by omega), orC_zero _ _ (by omega)]; rfl⟩
      · rintro i ⟨h1, h2⟩; (try dsimp only at h1 h2)
        refine aw_seq ?_
        refine aw_region ?_
        refine g_u (s_ltI rfl rfl rfl) ?_
        refine g_nil ?_
        refine normal_thn ?_
        refine aw_seq ?_
        refine aw_cond rfl (fun hb3 => ?_) (fun hb3 => ?_)
        · skip
          have hi : i < l.length := by have := of_decide_eq_true hb3; (try simp only [List.length_map] at this); omega
          have gov : (nthA l i).val.ok := ((GA.ok_iff _).1 (ho _ (nthA_mem hi))).2
          have gow : (nthA l i).val.wt ≤ 10000000 := by have h1 := wtAs_mem (nthA_mem hi); have h2 := (nthA l i).wt_eq; omega
          refine aw_skip ?_
          refine normal_thn ?_
          refine aw_seq ?_
          refine aw_block ?_
          refine aw_seq ?_
          refine aw_region ?_
          refine g_u (s_indexAddr rfl rfl rfl Tryd.underlying27 tS78 (by omega) (ixA hi)) ?_
          refine g_u (s_load_cp rfl rfl tA78 tS78 rfl rfl) ?_
          refine g_uG (s_alloc' 1005 rfl rfl rfl tZ78) rfl ?_
          refine g_u (s_store_imm rfl rfl rfl tS78 rfl rfl) ?_
          refine g_nil ?_
          refine normal_thn ?_
          refine aw_seq ?_
          refine aw_region ?_
          refine g_u (s_fieldAddr rfl rfl fa78_1 rfl) ?_
          refine g_u (s_load_imm rfl rfl rfl tA76 tS76 rfl rfl) ?_
          refine g_u (s_call1 (text_c _ gov gow) rfl rfl) ?_
          refine g_u (s_lenS rfl rfl Tryd.underlying9) ?_
          refine g_u (s_gtI rfl rfl rfl) ?_
          refine g_nil ?_
          refine normal_thn ?_
          refine aw_cond rfl (fun hb4 => ?_) (fun hb4 => ?_)
          · skip
            have q := of_decide_eq_true hb4
            refine aw_seq ?_
            refine aw_region ?_
            refine g_u (s_as_imm rfl rfl) ?_
            refine g_nil ?_
            refine normal_thn ?_
            refine aw_ret ?_
            refine ret_blk ?_
            refine ret_thn ?_
            refine ret_thn ?_
            refine ret_blk ?_
            refine ret_thn ?_
            exact ⟨⟨(rfl : toAV (Al.look _ _) = some _).trans (congrArg some (by (exact congrArg iv (by first | (rw [h2, hin, List.drop_length]; rfl) | (rw [h2, textsC_drop hi, if_pos (by omega)]; done) | (unfold attrsC; rw [if_pos (by omega)]; done) | (unfold attrsC; rw [if_neg (by omega), orC_pos _ _ (by omega)]; done))))), rfl⟩, trivial⟩
          · skip
            have q := of_decide_eq_false hb4
            refine aw_skip ?_
            refine normal_blk ?_
            refine normal_thn ?_
            refine aw_region ?_
            refine g_u (s_add rfl rfl rfl) ?_
            refine g_u (s_mv_imm rfl rfl) ?_
            refine g_nil ?_
            refine normal_thn ?_
            refine ⟨i + 1, ⟨hi, by (try dsimp only); rw [h2, textsC_drop hi, if_neg (by omega)]⟩, ⟨rfl, rfl, look_int rfl (by rw [wrap64 (by omega) (by omega)]; rfl), trivial⟩, by (try dsimp only); omega⟩
        · skip
          have hin : i = l.length := by have := of_decide_eq_false hb3; (try simp only [List.length_map] at this); omega
          refine aw_exit ?_
          refine exit_thn ?_
          refine exit_thn ?_
          refine exit_blk ?_
          refine normal_thn ?_
          refine aw_seq ?_
          refine aw_region ?_
          refine g_u (s_as_imm rfl rfl) ?_
          refine g_nil ?_
          refine normal_thn ?_
          refine aw_ret ?_
          exact ⟨⟨(rfl : toAV (Al.look _ _) = some _).trans (congrArg some (by (exact congrArg iv (by first | (rw [h2, hin, List.drop_length]; rfl) | (rw [h2, textsC_drop hi, if_pos (by omega)]; done) | (unfold attrsC; rw [if_pos (by omega)]; done) | (unfold attrsC; rw [if_neg (by omega), orC_pos _ _ (by omega)]; done))))), rfl⟩, trivial⟩

end Go.Proofs

namespace Go.Proofs
open Go Go.Al
set_option maxRecDepth 10000
end Go.Proofs

namespace Go.Proofs
open Go Go.Al

structure Rg where
  lo : Int
  hi : Int
def Rg.av (r : Rg) : AV := .agg [.v (.int .u64 r.lo), .v (.int .u64 r.hi)]

def rgCheckM (r : Rg) : Int := if r.hi > 9223372036854775807 ∨ r.lo > r.hi then 11 else 0
def begunM (r : Rg) : Int := IntKind.u64.wrap (r.lo.tdiv 1000)
def lastsM (r : Rg) : Int := IntKind.u64.wrap ((IntKind.u64.wrap (r.hi - r.lo)).tdiv 1000)
def microsM (m : Int) (r : Rg) : Int := if rgCheckM r = 0 then IntKind.i64.wrap m else 0
def nanoV (us : Int) : Int := if us < 0 ∨ us > 9223372036854775 then 0 else IntKind.u64.wrap (IntKind.u64.wrap us * 1000)
def nanoC (us : Int) : Int := if us < 0 ∨ us > 9223372036854775 then 11 else 0
def ofBad (b l : Int) : Prop := nanoC b ≠ 0 ∨ nanoC l ≠ 0 ∨ nanoV l > IntKind.u64.wrap (9223372036854775807 - nanoV b)
instance (b l : Int) : Decidable (ofBad b l) := by unfold ofBad; infer_instance
def ofR (b l : Int) : Rg := if ofBad b l then ⟨0, 0⟩ else ⟨nanoV b, IntKind.u64.wrap (nanoV b + nanoV l)⟩
def BegunM (r : Rg) : Int := microsM (begunM r) r
def LastsM (r : Rg) : Int := microsM (lastsM r) r
def wholeM (r : Rg) : Rg := ofR (BegunM r) (LastsM r)

-- the reference
def rNanoV (us : Int) : Int := if us < 0 ∨ us > 9223372036854775 then 0 else IntKind.u64.wrap (1000 * IntKind.u64.wrap us)
def rBad (b l : Int) : Prop := nanoC b ≠ 0 ∨ nanoC l ≠ 0 ∨ rNanoV b > IntKind.u64.wrap (9223372036854775807 - rNanoV l)
instance (b l : Int) : Decidable (rBad b l) := by unfold rBad; infer_instance
end Go.Proofs

namespace Go.Proofs
open Go Go.Al

end Go.Proofs

namespace Go.Proofs
open Go Go.Al

/-! ### Whether two things are one -/
instance : DecidableEq GV := fun a b => decidable_of_iff (sameV a b = true) (sameV_iff a b)
instance : DecidableEq GA := fun a b => decidable_of_iff (sameA a b = true) (sameA_iff a b)
theorem GE.ext' {a b : GE} (h1 : a.time = b.time) (h2 : a.name = b.name) (h3 : a.attrs = b.attrs) : a = b := by cases a; cases b; simp_all
theorem GL.ext' {a b : GL} (h1 : a.trace = b.trace) (h2 : a.span = b.span) (h3 : a.state = b.state) (h4 : a.attrs = b.attrs) : a = b := by cases a; cases b; simp_all
theorem GSpan.ext' {a b : GSpan} (h1 : a.trace = b.trace) (h2 : a.id = b.id) (h3 : a.parent = b.parent) (h4 : a.state = b.state) (h5 : a.name = b.name) (h6 : a.kind = b.kind) (h7 : a.start = b.start) (h8 : a.fin = b.fin) (h9 : a.attrs = b.attrs) (h10 : a.events = b.events) (h11 : a.links = b.links) (h12 : a.code = b.code) (h13 : a.note = b.note) : a = b := by
  cases a; cases b; simp_all
theorem GScope.ext' {a b : GScope} (h1 : a.name = b.name) (h2 : a.version = b.version) (h3 : a.spans = b.spans) : a = b := by cases a; cases b; simp_all
theorem GRes.ext' {a b : GRes} (h1 : a.attrs = b.attrs) (h2 : a.scopes = b.scopes) : a = b := by cases a; cases b; simp_all
instance : DecidableEq GE := fun a b => decidable_of_iff (a.time = b.time ∧ a.name = b.name ∧ a.attrs = b.attrs) ⟨fun h => GE.ext' h.1 h.2.1 h.2.2, fun h => by rw [h]; exact ⟨rfl, rfl, rfl⟩⟩
instance : DecidableEq GL := fun a b => decidable_of_iff (a.trace = b.trace ∧ a.span = b.span ∧ a.state = b.state ∧ a.attrs = b.attrs) ⟨fun h => GL.ext' h.1 h.2.1 h.2.2.1 h.2.2.2, fun h => by rw [h]; exact ⟨rfl, rfl, rfl, rfl⟩⟩
instance : DecidableEq GSpan := fun a b => decidable_of_iff ((a.trace = b.trace ∧ a.id = b.id ∧ a.parent = b.parent ∧ a.state = b.state) ∧ (a.name = b.name ∧ a.kind = b.kind ∧ a.start = b.start ∧ a.fin = b.fin) ∧ (a.attrs = b.attrs ∧ a.events = b.events ∧ a.links = b.links) ∧ a.code = b.code ∧ a.note = b.note)
  ⟨fun h => GSpan.ext' h.1.1 h.1.2.1 h.1.2.2.1 h.1.2.2.2 h.2.1.1 h.2.1.2.1 h.2.1.2.2.1 h.2.1.2.2.2 h.2.2.1.1 h.2.2.1.2.1 h.2.2.1.2.2 h.2.2.2.1 h.2.2.2.2, fun h => by rw [h]; exact ⟨⟨rfl, rfl, rfl, rfl⟩, ⟨rfl, rfl, rfl, rfl⟩, ⟨rfl, rfl, rfl⟩, rfl, rfl⟩⟩
instance : DecidableEq GScope := fun a b => decidable_of_iff (a.name = b.name ∧ a.version = b.version ∧ a.spans = b.spans) ⟨fun h => GScope.ext' h.1 h.2.1 h.2.2, fun h => by rw [h]; exact ⟨rfl, rfl, rfl⟩⟩
instance : DecidableEq GRes := fun a b => decidable_of_iff (a.attrs = b.attrs ∧ a.scopes = b.scopes) ⟨fun h => GRes.ext' h.1 h.2, fun h => by rw [h]; exact ⟨rfl, rfl⟩⟩

/-! ### What Jaeger's format keeps -/
def k_kind : ByteArray := ⟨#[115, 112, 97, 110, 46, 107, 105, 110, 100]⟩
def k_error : ByteArray := ⟨#[101, 114, 114, 111, 114]⟩
def k_code : ByteArray := ⟨#[111, 116, 101, 108, 46, 115, 116, 97, 116, 117, 115, 95, 99, 111, 100, 101]⟩
def k_note : ByteArray := ⟨#[111, 116, 101, 108, 46, 115, 116, 97, 116, 117, 115, 95, 100, 101, 115, 99, 114, 105, 112, 116, 105, 111, 110]⟩
def k4 : List ByteArray := [k_kind, k_error, k_code, k_note]
/-! ### Sizes -/
/-! ### Places -/
end Go.Proofs

namespace Go.Proofs
open Go Go.Al
set_option maxRecDepth 10000
set_option maxHeartbeats 400000 in
theorem rgCheck_c (r : Rg) : PCall Tryd.prog Γ0 54 [r.av] [iv (rgCheckM r)] := by
  refine pcall_of Tryd.func54 rfl Tryd.ntmps54 (by kernel_rfl) rfl fun w0 I0 G0 => ?_
  refine aw_seq ?_
  refine aw_region ?_
  refine g_uG (s_box_imm 1001 rfl rfl rfl rfl) rfl ?_
  refine g_u (s_as_imm rfl rfl) ?_
  refine g_nil ?_
  refine normal_thn ?_
  refine aw_seq ?_
  refine aw_seq ?_
  refine aw_region ?_
  refine g_u (s_fieldAddr rfl rfl fa90_1 rfl) ?_
  refine g_u (s_load_imm rfl rfl rfl tA26 tS26 rfl rfl) ?_
  refine g_u (s_gtI rfl rfl rfl) ?_
  refine g_u (s_mv_imm rfl rfl) ?_
  refine g_case (t := 6) rfl ?_
  rintro (hb1 | hb1)
  · rw [hb1]
    refine g_skip rfl rfl rfl ?_
    refine g_skip rfl rfl rfl ?_
    refine g_skip rfl rfl rfl ?_
    refine g_skip rfl rfl rfl ?_
    refine g_skip rfl rfl rfl ?_
    refine g_u (s_pick_t rfl rfl rfl) ?_
    refine g_nil ?_
    refine normal_thn ?_
    refine aw_cond_true rfl ?_
    refine aw_seq ?_
    refine aw_region ?_
    refine g_u (s_as_imm rfl rfl) ?_
    refine g_nil ?_
    refine normal_thn ?_
    refine aw_ret ?_
    refine ret_thn ?_
    exact ⟨⟨(rfl : toAV (Al.look _ _) = some _).trans (congrArg some (by (simp only [decide_eq_true_eq, decide_eq_false_iff_not, bne_iff_ne, ne_eq, beq_iff_eq, bne_eq_false_iff_eq, beq_eq_false_iff_ne] at *; simp only [iv, rgCheckM]; first | rw [if_pos (by omega)] | rw [if_neg (by omega)]))), rfl⟩, trivial⟩
  · rw [hb1]
    refine g_run rfl rfl (s_fieldAddr rfl rfl fa90_0 rfl) ?_
    refine g_run rfl rfl (s_load_imm rfl rfl rfl tA26 tS26 rfl rfl) ?_
    refine g_run rfl rfl (s_fieldAddr rfl rfl fa90_1 rfl) ?_
    refine g_run rfl rfl (s_load_imm rfl rfl rfl tA26 tS26 rfl rfl) ?_
    refine g_run rfl rfl (s_gtI rfl rfl rfl) ?_
    refine g_u (s_pick_f rfl rfl rfl) ?_
    refine g_nil ?_
    refine normal_thn ?_
    refine aw_cond rfl (fun hb2 => ?_) (fun hb2 => ?_)
    · skip
      refine aw_seq ?_
      refine aw_region ?_
      refine g_u (s_as_imm rfl rfl) ?_
      refine g_nil ?_
      refine normal_thn ?_
      refine aw_ret ?_
      refine ret_thn ?_
      exact ⟨⟨(rfl : toAV (Al.look _ _) = some _).trans (congrArg some (by (simp only [decide_eq_true_eq, decide_eq_false_iff_not, bne_iff_ne, ne_eq, beq_iff_eq, bne_eq_false_iff_eq, beq_eq_false_iff_ne] at *; simp only [iv, rgCheckM]; first | rw [if_pos (by omega)] | rw [if_neg (by omega)]))), rfl⟩, trivial⟩
    · skip
      refine aw_skip ?_
      refine normal_thn ?_
      refine aw_seq ?_
      refine aw_region ?_
      refine g_u (s_as_imm rfl rfl) ?_
      refine g_nil ?_
      refine normal_thn ?_
      refine aw_ret ?_
      exact ⟨⟨(rfl : toAV (Al.look _ _) = some _).trans (congrArg some (by (simp only [decide_eq_true_eq, decide_eq_false_iff_not, bne_iff_ne, ne_eq, beq_iff_eq, bne_eq_false_iff_eq, beq_eq_false_iff_ne] at *; simp only [iv, rgCheckM]; first | rw [if_pos (by omega)] | rw [if_neg (by omega)]))), rfl⟩, trivial⟩

attribute [local irreducible] wholeM ofR

end Go.Proofs

namespace Go.Proofs
open Go Go.Al
set_option maxRecDepth 10000
end Go.Proofs

namespace Go.Proofs
open Go Go.Al

/-! ### What Jaeger's format keeps: sizes, ranges, and that it stays -/
end Go.Proofs

namespace Go.Proofs
open Go Go.Al
set_option maxRecDepth 10000
end Go.Proofs

namespace Go.Proofs
open Go Go.Al
set_option maxRecDepth 10000
theorem eq23 (a b : List UInt8) : eqV Tryd.prog 100 23 (.arr 16 a) (.arr 16 b) = some (a == b) := by kernel_rfl
theorem eq25 (a b : List UInt8) : eqV Tryd.prog 100 25 (.arr 8 a) (.arr 8 b) = some (a == b) := by kernel_rfl
theorem eq31 (c d : Int) (m n : ByteArray) : eqV Tryd.prog 100 31 (.agg [iv c, sv m]) (.agg [iv d, sv n]) = some ((c == d) && ((m.toList == n.toList) && true)) := by kernel_rfl

set_option maxHeartbeats 4000000 in
theorem rsameS_c (a b : GSpan) (hw : a.wt ≤ 1000000000) : PCall Tryd.prog Γ0 13 [a.av, b.av] [bv (decide (a = b))] := by
  have qw : a.wt = 1 + a.state.size + a.name.size + a.note.size + wtAs a.attrs + sumBy GE.wt a.events + sumBy GL.wt a.links := rfl
  have ql := sumBy_len GE.wt (fun e => by unfold GE.wt; omega) a.events
  have qm := sumBy_len GL.wt (fun e => by unfold GL.wt; omega) a.links
  refine pcall_of Tryd.func13 rfl Tryd.ntmps13 (by kernel_rfl) rfl fun w0 I0 G0 => ?_
  refine aw_seq ?_
  refine aw_region ?_
  refine g_uG (s_box_imm 1002 rfl rfl rfl rfl) rfl ?_
  refine g_uG (s_box_imm 1003 rfl rfl rfl rfl) rfl ?_
  refine g_u (s_as_imm rfl rfl) ?_
  refine g_nil ?_
  refine normal_thn ?_
  refine aw_seq ?_
  refine aw_seq ?_
  refine aw_region ?_
  refine g_u (s_fieldAddr rfl rfl fa33_0 rfl) ?_
  refine g_u (s_load_imm rfl rfl rfl tA23 tS23 rfl rfl) ?_
  refine g_u (s_fieldAddr rfl rfl fa33_0 rfl) ?_
  refine g_u (s_load_imm rfl rfl rfl tA23 tS23 rfl rfl) ?_
  refine g_u (s_neA rfl rfl rfl eg23 rfl rfl (eq23 _ _)) ?_
  refine g_u (s_mv_imm rfl rfl) ?_
  refine g_case (t := 16) rfl ?_
  rintro (hb1 | hb1)
  · rw [hb1]
    have q : ¬ a.trace = b.trace := by have e := hb1; simpa using e
    refine g_skip rfl rfl rfl ?_
    refine g_skip rfl rfl rfl ?_
    refine g_skip rfl rfl rfl ?_
    refine g_skip rfl rfl rfl ?_
    refine g_skip rfl rfl rfl ?_
    refine g_u (s_pick_t rfl rfl rfl) ?_
    refine g_u (s_mv_imm rfl rfl) ?_
    refine g_skip rfl rfl rfl ?_
    refine g_skip rfl rfl rfl ?_
    refine g_skip rfl rfl rfl ?_
    refine g_skip rfl rfl rfl ?_
    refine g_skip rfl rfl rfl ?_
    refine g_u (s_pick_t rfl rfl rfl) ?_
    refine g_u (s_mv_imm rfl rfl) ?_
    refine g_skip rfl rfl rfl ?_
    refine g_skip rfl rfl rfl ?_
    refine g_skip rfl rfl rfl ?_
    refine g_skip rfl rfl rfl ?_
    refine g_skip rfl rfl rfl ?_
    refine g_u (s_pick_t rfl rfl rfl) ?_
    refine g_u (s_mv_imm rfl rfl) ?_
    refine g_skip rfl rfl rfl ?_
    refine g_skip rfl rfl rfl ?_
    refine g_skip rfl rfl rfl ?_
    refine g_skip rfl rfl rfl ?_
    refine g_skip rfl rfl rfl ?_
    refine g_u (s_pick_t rfl rfl rfl) ?_
    refine g_u (s_mv_imm rfl rfl) ?_
    refine g_skip rfl rfl rfl ?_
    refine g_skip rfl rfl rfl ?_
    refine g_skip rfl rfl rfl ?_
    refine g_skip rfl rfl rfl ?_
    refine g_skip rfl rfl rfl ?_
    refine g_u (s_pick_t rfl rfl rfl) ?_
    refine g_u (s_mv_imm rfl rfl) ?_
    refine g_skip rfl rfl rfl ?_
    refine g_skip rfl rfl rfl ?_
    refine g_skip rfl rfl rfl ?_
    refine g_skip rfl rfl rfl ?_
    refine g_skip rfl rfl rfl ?_
    refine g_u (s_pick_t rfl rfl rfl) ?_
    refine g_u (s_mv_imm rfl rfl) ?_
    refine g_skip rfl rfl rfl ?_
    refine g_skip rfl rfl rfl ?_
    refine g_skip rfl rfl rfl ?_
    refine g_skip rfl rfl rfl ?_
    refine g_skip rfl rfl rfl ?_
    refine g_u (s_pick_t rfl rfl rfl) ?_
    refine g_u (s_mv_imm rfl rfl) ?_
    refine g_skip rfl rfl rfl ?_
    refine g_skip rfl rfl rfl ?_
    refine g_skip rfl rfl rfl ?_
    refine g_skip rfl rfl rfl ?_
    refine g_skip rfl rfl rfl ?_
    refine g_u (s_pick_t rfl rfl rfl) ?_
    refine g_nil ?_
    refine normal_thn ?_
    refine aw_cond_true rfl ?_
    refine aw_seq ?_
    refine aw_region ?_
    refine g_u (s_as_imm rfl rfl) ?_
    refine g_nil ?_
    refine normal_thn ?_
    refine aw_ret ?_
    refine ret_thn ?_
    exact ⟨⟨(rfl : toAV (Al.look _ _) = some _).trans (congrArg some (by (exact congrArg bv (by first | exact (decide_eq_false (fun e => q ⟨congrArg GSpan.code e, congrArg GSpan.note e⟩)).symm | exact (decide_eq_false (fun e => q (by rw [e]))).symm | exact (decide_eq_true (GSpan.ext' e0 e1 e2 e3 e4 e5 e6 e7 e9 (ext_nth ge0 e10 (fun j hj => hev j (by omega))) (ext_nth gl0 e11 (fun j hj => h4 j (by omega))) e8.1 e8.2)).symm)))), rfl⟩, trivial⟩
  · rw [hb1]
    have e0 : a.trace = b.trace := by have e := hb1; simpa using e
    refine g_run rfl rfl (s_fieldAddr rfl rfl fa33_1 rfl) ?_
    refine g_run rfl rfl (s_load_imm rfl rfl rfl tA25 tS25 rfl rfl) ?_
    refine g_run rfl rfl (s_fieldAddr rfl rfl fa33_1 rfl) ?_
    refine g_run rfl rfl (s_load_imm rfl rfl rfl tA25 tS25 rfl rfl) ?_
    refine g_run rfl rfl (s_neA rfl rfl rfl eg25 rfl rfl (eq25 _ _)) ?_
    refine g_u (s_pick_f rfl rfl rfl) ?_
    refine g_u (s_mv_imm rfl rfl) ?_
    refine g_case (t := 23) rfl ?_
    rintro (hb2 | hb2)
    · rw [hb2]
      have q : ¬ a.id = b.id := by have e := hb2; simpa using e
      refine g_skip rfl rfl rfl ?_
      refine g_skip rfl rfl rfl ?_
      refine g_skip rfl rfl rfl ?_
      refine g_skip rfl rfl rfl ?_
      refine g_skip rfl rfl rfl ?_
      refine g_u (s_pick_t rfl rfl rfl) ?_
      refine g_u (s_mv_imm rfl rfl) ?_
      refine g_skip rfl rfl rfl ?_
      refine g_skip rfl rfl rfl ?_
      refine g_skip rfl rfl rfl ?_
      refine g_skip rfl rfl rfl ?_
      refine g_skip rfl rfl rfl ?_
      refine g_u (s_pick_t rfl rfl rfl) ?_
      refine g_u (s_mv_imm rfl rfl) ?_
      refine g_skip rfl rfl rfl ?_
      refine g_skip rfl rfl rfl ?_
      refine g_skip rfl rfl rfl ?_
      refine g_skip rfl rfl rfl ?_
      refine g_skip rfl rfl rfl ?_
      refine g_u (s_pick_t rfl rfl rfl) ?_
      refine g_u (s_mv_imm rfl rfl) ?_
      refine g_skip rfl rfl rfl ?_
      refine g_skip rfl rfl rfl ?_
      refine g_skip rfl rfl rfl ?_
      refine g_skip rfl rfl rfl ?_
      refine g_skip rfl rfl rfl ?_
      refine g_u (s_pick_t rfl rfl rfl) ?_
      refine g_u (s_mv_imm rfl rfl) ?_
      refine g_skip rfl rfl rfl ?_
      refine g_skip rfl rfl rfl ?_
      refine g_skip rfl rfl rfl ?_
      refine g_skip rfl rfl rfl ?_
      refine g_skip rfl rfl rfl ?_
      refine g_u (s_pick_t rfl rfl rfl) ?_
      refine g_u (s_mv_imm rfl rfl) ?_
      refine g_skip rfl rfl rfl ?_
      refine g_skip rfl rfl rfl ?_
      refine g_skip rfl rfl rfl ?_
      refine g_skip rfl rfl rfl ?_
      refine g_skip rfl rfl rfl ?_
      refine g_u (s_pick_t rfl rfl rfl) ?_
      refine g_u (s_mv_imm rfl rfl) ?_
      refine g_skip rfl rfl rfl ?_
      refine g_skip rfl rfl rfl ?_
      refine g_skip rfl rfl rfl ?_
      refine g_skip rfl rfl rfl ?_
      refine g_skip rfl rfl rfl ?_
      refine g_u (s_pick_t rfl rfl rfl) ?_
      refine g_nil ?_
      refine normal_thn ?_
      refine aw_cond_true rfl ?_
      refine aw_seq ?_
      refine aw_region ?_
      refine g_u (s_as_imm rfl rfl) ?_
      refine g_nil ?_
      refine normal_thn ?_
      refine aw_ret ?_
      refine ret_thn ?_
      exact ⟨⟨(rfl : toAV (Al.look _ _) = some _).trans (congrArg some (by (exact congrArg bv (by first | exact (decide_eq_false (fun e => q ⟨congrArg GSpan.code e, congrArg GSpan.note e⟩)).symm | exact (decide_eq_false (fun e => q (by rw [e]))).symm | exact (decide_eq_true (GSpan.ext' e0 e1 e2 e3 e4 e5 e6 e7 e9 (ext_nth ge0 e10 (fun j hj => hev j (by omega))) (ext_nth gl0 e11 (fun j hj => h4 j (by omega))) e8.1 e8.2)).symm)))), rfl⟩, trivial⟩
    · rw [hb2]
      have e1 : a.id = b.id := by have e := hb2; simpa using e
      refine g_run rfl rfl (s_fieldAddr rfl rfl fa33_2 rfl) ?_
      refine g_run rfl rfl (s_load_imm rfl rfl rfl tA25 tS25 rfl rfl) ?_
      refine g_run rfl rfl (s_fieldAddr rfl rfl fa33_2 rfl) ?_
      refine g_run rfl rfl (s_load_imm rfl rfl rfl tA25 tS25 rfl rfl) ?_
      refine g_run rfl rfl (s_neA rfl rfl rfl eg25 rfl rfl (eq25 _ _)) ?_
      refine g_u (s_pick_f rfl rfl rfl) ?_
      refine g_u (s_mv_imm rfl rfl) ?_
      refine g_case (t := 30) rfl ?_
      rintro (hb3 | hb3)
      · rw [hb3]
        have q : ¬ a.parent = b.parent := by have e := hb3; simpa using e
        refine g_skip rfl rfl rfl ?_
        refine g_skip rfl rfl rfl ?_
        refine g_skip rfl rfl rfl ?_
        refine g_skip rfl rfl rfl ?_
        refine g_skip rfl rfl rfl ?_
        refine g_u (s_pick_t rfl rfl rfl) ?_
        refine g_u (s_mv_imm rfl rfl) ?_
        refine g_skip rfl rfl rfl ?_
        refine g_skip rfl rfl rfl ?_
        refine g_skip rfl rfl rfl ?_
        refine g_skip rfl rfl rfl ?_
        refine g_skip rfl rfl rfl ?_
        refine g_u (s_pick_t rfl rfl rfl) ?_
        refine g_u (s_mv_imm rfl rfl) ?_
        refine g_skip rfl rfl rfl ?_
        refine g_skip rfl rfl rfl ?_
        refine g_skip rfl rfl rfl ?_
        refine g_skip rfl rfl rfl ?_
        refine g_skip rfl rfl rfl ?_
        refine g_u (s_pick_t rfl rfl rfl) ?_
        refine g_u (s_mv_imm rfl rfl) ?_
        refine g_skip rfl rfl rfl ?_
        refine g_skip rfl rfl rfl ?_
        refine g_skip rfl rfl rfl ?_
        refine g_skip rfl rfl rfl ?_
        refine g_skip rfl rfl rfl ?_
        refine g_u (s_pick_t rfl rfl rfl) ?_
        refine g_u (s_mv_imm rfl rfl) ?_
        refine g_skip rfl rfl rfl ?_
        refine g_skip rfl rfl rfl ?_
        refine g_skip rfl rfl rfl ?_
        refine g_skip rfl rfl rfl ?_
        refine g_skip rfl rfl rfl ?_
        refine g_u (s_pick_t rfl rfl rfl) ?_
        refine g_u (s_mv_imm rfl rfl) ?_
        refine g_skip rfl rfl rfl ?_
        refine g_skip rfl rfl rfl ?_
        refine g_skip rfl rfl rfl ?_
        refine g_skip rfl rfl rfl ?_
        refine g_skip rfl rfl rfl ?_
        refine g_u (s_pick_t rfl rfl rfl) ?_
        refine g_nil ?_
        refine normal_thn ?_
        refine aw_cond_true rfl ?_
        refine aw_seq ?_
        refine aw_region ?_
        refine g_u (s_as_imm rfl rfl) ?_
        refine g_nil ?_
        refine normal_thn ?_
        refine aw_ret ?_
        refine ret_thn ?_
        exact ⟨⟨(rfl : toAV (Al.look _ _) = some _).trans (congrArg some (by (exact congrArg bv (by first | exact (decide_eq_false (fun e => q ⟨congrArg GSpan.code e, congrArg GSpan.note e⟩)).symm | exact (decide_eq_false (fun e => q (by rw [e]))).symm | exact (decide_eq_true (GSpan.ext' e0 e1 e2 e3 e4 e5 e6 e7 e9 (ext_nth ge0 e10 (fun j hj => hev j (by omega))) (ext_nth gl0 e11 (fun j hj => h4 j (by omega))) e8.1 e8.2)).symm)))), rfl⟩, trivial⟩
      · rw [hb3]
        have e2 : a.parent = b.parent := by have e := hb3; simpa using e
        refine g_run rfl rfl (s_fieldAddr rfl rfl fa33_3 rfl) ?_
        refine g_run rfl rfl (s_load_imm rfl rfl rfl tA9 tS9 rfl rfl) ?_
        refine g_run rfl rfl (s_fieldAddr rfl rfl fa33_3 rfl) ?_
        refine g_run rfl rfl (s_load_imm rfl rfl rfl tA9 tS9 rfl rfl) ?_
        refine g_run rfl rfl (s_neS rfl rfl rfl) ?_
        refine g_u (s_pick_f rfl rfl rfl) ?_
        refine g_u (s_mv_imm rfl rfl) ?_
        refine g_case (t := 37) rfl ?_
        rintro (hb4 | hb4)
        · rw [hb4]
          have q : ¬ a.state = b.state := by have e := hb4; rw [str_beq] at e; simpa using e
          refine g_skip rfl rfl rfl ?_
          refine g_skip rfl rfl rfl ?_
          refine g_skip rfl rfl rfl ?_
          refine g_skip rfl rfl rfl ?_
          refine g_skip rfl rfl rfl ?_
          refine g_u (s_pick_t rfl rfl rfl) ?_
          refine g_u (s_mv_imm rfl rfl) ?_
          refine g_skip rfl rfl rfl ?_
          refine g_skip rfl rfl rfl ?_
          refine g_skip rfl rfl rfl ?_
          refine g_skip rfl rfl rfl ?_
          refine g_skip rfl rfl rfl ?_
          refine g_u (s_pick_t rfl rfl rfl) ?_
          refine g_u (s_mv_imm rfl rfl) ?_
          refine g_skip rfl rfl rfl ?_
          refine g_skip rfl rfl rfl ?_
          refine g_skip rfl rfl rfl ?_
          refine g_skip rfl rfl rfl ?_
          refine g_skip rfl rfl rfl ?_
          refine g_u (s_pick_t rfl rfl rfl) ?_
          refine g_u (s_mv_imm rfl rfl) ?_
          refine g_skip rfl rfl rfl ?_
          refine g_skip rfl rfl rfl ?_
          refine g_skip rfl rfl rfl ?_
          refine g_skip rfl rfl rfl ?_
          refine g_skip rfl rfl rfl ?_
          refine g_u (s_pick_t rfl rfl rfl) ?_
          refine g_u (s_mv_imm rfl rfl) ?_
          refine g_skip rfl rfl rfl ?_
          refine g_skip rfl rfl rfl ?_
          refine g_skip rfl rfl rfl ?_
          refine g_skip rfl rfl rfl ?_
          refine g_skip rfl rfl rfl ?_
          refine g_u (s_pick_t rfl rfl rfl) ?_
          refine g_nil ?_
          refine normal_thn ?_
          refine aw_cond_true rfl ?_
          refine aw_seq ?_
          refine aw_region ?_
          refine g_u (s_as_imm rfl rfl) ?_
          refine g_nil ?_
          refine normal_thn ?_
          refine aw_ret ?_
          refine ret_thn ?_
          exact ⟨⟨(rfl : toAV (Al.look _ _) = some _).trans (congrArg some (by (exact congrArg bv (by first | exact (decide_eq_false (fun e => q ⟨congrArg GSpan.code e, congrArg GSpan.note e⟩)).symm | exact (decide_eq_false (fun e => q (by rw [e]))).symm | exact (decide_eq_true (GSpan.ext' e0 e1 e2 e3 e4 e5 e6 e7 e9 (ext_nth ge0 e10 (fun j hj => hev j (by omega))) (ext_nth gl0 e11 (fun j hj => h4 j (by omega))) e8.1 e8.2)).symm)))), rfl⟩, trivial⟩
        · rw [hb4]
          have e3 : a.state = b.state := by have e := hb4; rw [str_beq] at e; simpa using e
          refine g_run rfl rfl (s_fieldAddr rfl rfl fa33_4 rfl) ?_
          refine g_run rfl rfl (s_load_imm rfl rfl rfl tA9 tS9 rfl rfl) ?_
          refine g_run rfl rfl (s_fieldAddr rfl rfl fa33_4 rfl) ?_
          refine g_run rfl rfl (s_load_imm rfl rfl rfl tA9 tS9 rfl rfl) ?_
          refine g_run rfl rfl (s_neS rfl rfl rfl) ?_
          refine g_u (s_pick_f rfl rfl rfl) ?_
          refine g_u (s_mv_imm rfl rfl) ?_
          refine g_case (t := 44) rfl ?_
          rintro (hb5 | hb5)
          · rw [hb5]
            have q : ¬ a.name = b.name := by have e := hb5; rw [str_beq] at e; simpa using e
            refine g_skip rfl rfl rfl ?_
            refine g_skip rfl rfl rfl ?_
            refine g_skip rfl rfl rfl ?_
            refine g_skip rfl rfl rfl ?_
            refine g_skip rfl rfl rfl ?_
            refine g_u (s_pick_t rfl rfl rfl) ?_
            refine g_u (s_mv_imm rfl rfl) ?_
            refine g_skip rfl rfl rfl ?_
            refine g_skip rfl rfl rfl ?_
            refine g_skip rfl rfl rfl ?_
            refine g_skip rfl rfl rfl ?_
            refine g_skip rfl rfl rfl ?_
            refine g_u (s_pick_t rfl rfl rfl) ?_
            refine g_u (s_mv_imm rfl rfl) ?_
            refine g_skip rfl rfl rfl ?_
            refine g_skip rfl rfl rfl ?_
            refine g_skip rfl rfl rfl ?_
            refine g_skip rfl rfl rfl ?_
            refine g_skip rfl rfl rfl ?_
            refine g_u (s_pick_t rfl rfl rfl) ?_
            refine g_u (s_mv_imm rfl rfl) ?_
            refine g_skip rfl rfl rfl ?_
            refine g_skip rfl rfl rfl ?_
            refine g_skip rfl rfl rfl ?_
            refine g_skip rfl rfl rfl ?_
            refine g_skip rfl rfl rfl ?_
            refine g_u (s_pick_t rfl rfl rfl) ?_
            refine g_nil ?_
            refine normal_thn ?_
            refine aw_cond_true rfl ?_
            refine aw_seq ?_
            refine aw_region ?_
            refine g_u (s_as_imm rfl rfl) ?_
            refine g_nil ?_
            refine normal_thn ?_
            refine aw_ret ?_
            refine ret_thn ?_
            exact ⟨⟨(rfl : toAV (Al.look _ _) = some _).trans (congrArg some (by (exact congrArg bv (by first | exact (decide_eq_false (fun e => q ⟨congrArg GSpan.code e, congrArg GSpan.note e⟩)).symm | exact (decide_eq_false (fun e => q (by rw [e]))).symm | exact (decide_eq_true (GSpan.ext' e0 e1 e2 e3 e4 e5 e6 e7 e9 (ext_nth ge0 e10 (fun j hj => hev j (by omega))) (ext_nth gl0 e11 (fun j hj => h4 j (by omega))) e8.1 e8.2)).symm)))), rfl⟩, trivial⟩
          · rw [hb5]
            have e4 : a.name = b.name := by have e := hb5; rw [str_beq] at e; simpa using e
            refine g_run rfl rfl (s_fieldAddr rfl rfl fa33_5 rfl) ?_
            refine g_run rfl rfl (s_load_imm rfl rfl rfl tA3 tS3 rfl rfl) ?_
            refine g_run rfl rfl (s_fieldAddr rfl rfl fa33_5 rfl) ?_
            refine g_run rfl rfl (s_load_imm rfl rfl rfl tA3 tS3 rfl rfl) ?_
            refine g_run rfl rfl (s_neI rfl rfl rfl) ?_
            refine g_u (s_pick_f rfl rfl rfl) ?_
            refine g_u (s_mv_imm rfl rfl) ?_
            refine g_case (t := 51) rfl ?_
            rintro (hb6 | hb6)
            · rw [hb6]
              have q : ¬ a.kind = b.kind := bne_iff_ne.1 hb6
              refine g_skip rfl rfl rfl ?_
              refine g_skip rfl rfl rfl ?_
              refine g_skip rfl rfl rfl ?_
              refine g_skip rfl rfl rfl ?_
              refine g_skip rfl rfl rfl ?_
              refine g_u (s_pick_t rfl rfl rfl) ?_
              refine g_u (s_mv_imm rfl rfl) ?_
              refine g_skip rfl rfl rfl ?_
              refine g_skip rfl rfl rfl ?_
              refine g_skip rfl rfl rfl ?_
              refine g_skip rfl rfl rfl ?_
              refine g_skip rfl rfl rfl ?_
              refine g_u (s_pick_t rfl rfl rfl) ?_
              refine g_u (s_mv_imm rfl rfl) ?_
              refine g_skip rfl rfl rfl ?_
              refine g_skip rfl rfl rfl ?_
              refine g_skip rfl rfl rfl ?_
              refine g_skip rfl rfl rfl ?_
              refine g_skip rfl rfl rfl ?_
              refine g_u (s_pick_t rfl rfl rfl) ?_
              refine g_nil ?_
              refine normal_thn ?_
              refine aw_cond_true rfl ?_
              refine aw_seq ?_
              refine aw_region ?_
              refine g_u (s_as_imm rfl rfl) ?_
              refine g_nil ?_
              refine normal_thn ?_
              refine aw_ret ?_
              refine ret_thn ?_
              exact ⟨⟨(rfl : toAV (Al.look _ _) = some _).trans (congrArg some (by (exact congrArg bv (by first | exact (decide_eq_false (fun e => q ⟨congrArg GSpan.code e, congrArg GSpan.note e⟩)).symm | exact (decide_eq_false (fun e => q (by rw [e]))).symm | exact (decide_eq_true (GSpan.ext' e0 e1 e2 e3 e4 e5 e6 e7 e9 (ext_nth ge0 e10 (fun j hj => hev j (by omega))) (ext_nth gl0 e11 (fun j hj => h4 j (by omega))) e8.1 e8.2)).symm)))), rfl⟩, trivial⟩
            · rw [hb6]
              have e5 : a.kind = b.kind := bne_eq_false_iff_eq.1 hb6
              refine g_run rfl rfl (s_fieldAddr rfl rfl fa33_6 rfl) ?_
              refine g_run rfl rfl (s_load_imm rfl rfl rfl tA26 tS26 rfl rfl) ?_
              refine g_run rfl rfl (s_fieldAddr rfl rfl fa33_6 rfl) ?_
              refine g_run rfl rfl (s_load_imm rfl rfl rfl tA26 tS26 rfl rfl) ?_
              refine g_run rfl rfl (s_neI rfl rfl rfl) ?_
              refine g_u (s_pick_f rfl rfl rfl) ?_
              refine g_u (s_mv_imm rfl rfl) ?_
              refine g_case (t := 58) rfl ?_
              rintro (hb7 | hb7)
              · rw [hb7]
                have q : ¬ a.start = b.start := bne_iff_ne.1 hb7
                refine g_skip rfl rfl rfl ?_
                refine g_skip rfl rfl rfl ?_
                refine g_skip rfl rfl rfl ?_
                refine g_skip rfl rfl rfl ?_
                refine g_skip rfl rfl rfl ?_
                refine g_u (s_pick_t rfl rfl rfl) ?_
                refine g_u (s_mv_imm rfl rfl) ?_
                refine g_skip rfl rfl rfl ?_
                refine g_skip rfl rfl rfl ?_
                refine g_skip rfl rfl rfl ?_
                refine g_skip rfl rfl rfl ?_
                refine g_skip rfl rfl rfl ?_
                refine g_u (s_pick_t rfl rfl rfl) ?_
                refine g_nil ?_
                refine normal_thn ?_
                refine aw_cond_true rfl ?_
                refine aw_seq ?_
                refine aw_region ?_
                refine g_u (s_as_imm rfl rfl) ?_
                refine g_nil ?_
                refine normal_thn ?_
                refine aw_ret ?_
                refine ret_thn ?_
                exact ⟨⟨(rfl : toAV (Al.look _ _) = some _).trans (congrArg some (by (exact congrArg bv (by first | exact (decide_eq_false (fun e => q ⟨congrArg GSpan.code e, congrArg GSpan.note e⟩)).symm | exact (decide_eq_false (fun e => q (by rw [e]))).symm | exact (decide_eq_true (GSpan.ext' e0 e1 e2 e3 e4 e5 e6 e7 e9 (ext_nth ge0 e10 (fun j hj => hev j (by omega))) (ext_nth gl0 e11 (fun j hj => h4 j (by omega))) e8.1 e8.2)).symm)))), rfl⟩, trivial⟩
              · rw [hb7]
                have e6 : a.start = b.start := bne_eq_false_iff_eq.1 hb7
                refine g_run rfl rfl (s_fieldAddr rfl rfl fa33_7 rfl) ?_
                refine g_run rfl rfl (s_load_imm rfl rfl rfl tA26 tS26 rfl rfl) ?_
                refine g_run rfl rfl (s_fieldAddr rfl rfl fa33_7 rfl) ?_
                refine g_run rfl rfl (s_load_imm rfl rfl rfl tA26 tS26 rfl rfl) ?_
                refine g_run rfl rfl (s_neI rfl rfl rfl) ?_
                refine g_u (s_pick_f rfl rfl rfl) ?_
                refine g_u (s_mv_imm rfl rfl) ?_
                refine g_case (t := 65) rfl ?_
                rintro (hb8 | hb8)
                · rw [hb8]
                  have q : ¬ a.fin = b.fin := bne_iff_ne.1 hb8
                  refine g_skip rfl rfl rfl ?_
                  refine g_skip rfl rfl rfl ?_
                  refine g_skip rfl rfl rfl ?_
                  refine g_skip rfl rfl rfl ?_
                  refine g_skip rfl rfl rfl ?_
                  refine g_u (s_pick_t rfl rfl rfl) ?_
                  refine g_nil ?_
                  refine normal_thn ?_
                  refine aw_cond_true rfl ?_
                  refine aw_seq ?_
                  refine aw_region ?_
                  refine g_u (s_as_imm rfl rfl) ?_
                  refine g_nil ?_
                  refine normal_thn ?_
                  refine aw_ret ?_
                  refine ret_thn ?_
                  exact ⟨⟨(rfl : toAV (Al.look _ _) = some _).trans (congrArg some (by (exact congrArg bv (by first | exact (decide_eq_false (fun e => q ⟨congrArg GSpan.code e, congrArg GSpan.note e⟩)).symm | exact (decide_eq_false (fun e => q (by rw [e]))).symm | exact (decide_eq_true (GSpan.ext' e0 e1 e2 e3 e4 e5 e6 e7 e9 (ext_nth ge0 e10 (fun j hj => hev j (by omega))) (ext_nth gl0 e11 (fun j hj => h4 j (by omega))) e8.1 e8.2)).symm)))), rfl⟩, trivial⟩
                · rw [hb8]
                  have e7 : a.fin = b.fin := bne_eq_false_iff_eq.1 hb8
                  refine g_run rfl rfl (s_fieldAddr rfl rfl fa33_11 rfl) ?_
                  refine g_run rfl rfl (s_load_imm rfl rfl rfl tA31 tS31 rfl rfl) ?_
                  refine g_run rfl rfl (s_fieldAddr rfl rfl fa33_11 rfl) ?_
                  refine g_run rfl rfl (s_load_imm rfl rfl rfl tA31 tS31 rfl rfl) ?_
                  refine g_run rfl rfl (s_neA rfl rfl rfl eg31 rfl rfl (eq31 _ _ _ _)) ?_
                  refine g_u (s_pick_f rfl rfl rfl) ?_
                  refine g_nil ?_
                  refine normal_thn ?_
                  refine aw_cond rfl (fun hb9 => ?_) (fun hb9 => ?_)
                  · skip
                    have q : ¬ (a.code = b.code ∧ a.note = b.note) := fun h => by have e := hb9; rw [str_beq, h.1, h.2] at e; simp at e
                    refine aw_seq ?_
                    refine aw_region ?_
                    refine g_u (s_as_imm rfl rfl) ?_
                    refine g_nil ?_
                    refine normal_thn ?_
                    refine aw_ret ?_
                    refine ret_thn ?_
                    exact ⟨⟨(rfl : toAV (Al.look _ _) = some _).trans (congrArg some (by (exact congrArg bv (by first | exact (decide_eq_false (fun e => q ⟨congrArg GSpan.code e, congrArg GSpan.note e⟩)).symm | exact (decide_eq_false (fun e => q (by rw [e]))).symm | exact (decide_eq_true (GSpan.ext' e0 e1 e2 e3 e4 e5 e6 e7 e9 (ext_nth ge0 e10 (fun j hj => hev j (by omega))) (ext_nth gl0 e11 (fun j hj => h4 j (by omega))) e8.1 e8.2)).symm)))), rfl⟩, trivial⟩
                  · skip
                    have e8 : a.code = b.code ∧ a.note = b.note := by have e := hb9; rw [str_beq] at e; simpa using e
                    refine aw_skip ?_
                    refine normal_thn ?_
                    refine aw_seq ?_
                    refine aw_seq ?_
                    refine aw_region ?_
                    refine g_u (s_fieldAddr rfl rfl fa33_8 rfl) ?_
                    refine g_u (s_load_imm rfl rfl rfl tA27 tS27 rfl rfl) ?_
                    refine g_u (s_fieldAddr rfl rfl fa33_8 rfl) ?_
                    refine g_u (s_load_imm rfl rfl rfl tA27 tS27 rfl rfl) ?_
                    refine g_u (s_call1 (rsameAs_c _ _ (by omega)) rfl rfl) ?_
                    refine g_u (s_not rfl rfl) ?_
                    refine g_u (s_mv_imm rfl rfl) ?_
                    refine g_case (t := 78) rfl ?_
                    rintro (hb10 | hb10)
                    · rw [hb10]
                      have q : ¬ a.attrs = b.attrs := fun h => by have e := hb10; rw [h, sameAs_refl] at e; cases e
                      refine g_skip rfl rfl rfl ?_
                      refine g_skip rfl rfl rfl ?_
                      refine g_skip rfl rfl rfl ?_
                      refine g_skip rfl rfl rfl ?_
                      refine g_skip rfl rfl rfl ?_
                      refine g_skip rfl rfl rfl ?_
                      refine g_skip rfl rfl rfl ?_
                      refine g_u (s_pick_t rfl rfl rfl) ?_
                      refine g_u (s_mv_imm rfl rfl) ?_
                      refine g_skip rfl rfl rfl ?_
                      refine g_skip rfl rfl rfl ?_
                      refine g_skip rfl rfl rfl ?_
                      refine g_skip rfl rfl rfl ?_
                      refine g_skip rfl rfl rfl ?_
                      refine g_skip rfl rfl rfl ?_
                      refine g_skip rfl rfl rfl ?_
                      refine g_u (s_pick_t rfl rfl rfl) ?_
                      refine g_nil ?_
                      refine normal_thn ?_
                      refine aw_cond_true rfl ?_
                      refine aw_seq ?_
                      refine aw_region ?_
                      refine g_u (s_as_imm rfl rfl) ?_
                      refine g_nil ?_
                      refine normal_thn ?_
                      refine aw_ret ?_
                      refine ret_thn ?_
                      exact ⟨⟨(rfl : toAV (Al.look _ _) = some _).trans (congrArg some (by (exact congrArg bv (by first | exact (decide_eq_false (fun e => q ⟨congrArg GSpan.code e, congrArg GSpan.note e⟩)).symm | exact (decide_eq_false (fun e => q (by rw [e]))).symm | exact (decide_eq_true (GSpan.ext' e0 e1 e2 e3 e4 e5 e6 e7 e9 (ext_nth ge0 e10 (fun j hj => hev j (by omega))) (ext_nth gl0 e11 (fun j hj => h4 j (by omega))) e8.1 e8.2)).symm)))), rfl⟩, trivial⟩
                    · rw [hb10]
                      have e9 : a.attrs = b.attrs := (sameAs_iff _ _).1 (by have e := hb10; simpa using e)
                      refine g_run rfl rfl (s_fieldAddr rfl rfl fa33_9 rfl) ?_
                      refine g_run rfl rfl (s_load_imm rfl rfl rfl tA28 tS28 rfl rfl) ?_
                      refine g_run rfl rfl (s_lenL rfl rfl Tryd.underlying28) ?_
                      refine g_run rfl rfl (s_fieldAddr rfl rfl fa33_9 rfl) ?_
                      refine g_run rfl rfl (s_load_imm rfl rfl rfl tA28 tS28 rfl rfl) ?_
                      refine g_run rfl rfl (s_lenL rfl rfl Tryd.underlying28) ?_
                      refine g_run rfl rfl (s_neI rfl rfl rfl) ?_
                      refine g_u (s_pick_f rfl rfl rfl) ?_
                      refine g_u (s_mv_imm rfl rfl) ?_
                      refine g_case (t := 87) rfl ?_
                      rintro (hb11 | hb11)
                      · rw [hb11]
                        have q : ¬ a.events.length = b.events.length := by have e := bne_iff_ne.1 hb11; simp only [List.length_map] at e; omega
                        refine g_skip rfl rfl rfl ?_
                        refine g_skip rfl rfl rfl ?_
                        refine g_skip rfl rfl rfl ?_
                        refine g_skip rfl rfl rfl ?_
                        refine g_skip rfl rfl rfl ?_
                        refine g_skip rfl rfl rfl ?_
                        refine g_skip rfl rfl rfl ?_
                        refine g_u (s_pick_t rfl rfl rfl) ?_
                        refine g_nil ?_
                        refine normal_thn ?_
                        refine aw_cond_true rfl ?_
                        refine aw_seq ?_
                        refine aw_region ?_
                        refine g_u (s_as_imm rfl rfl) ?_
                        refine g_nil ?_
                        refine normal_thn ?_
                        refine aw_ret ?_
                        refine ret_thn ?_
                        exact ⟨⟨(rfl : toAV (Al.look _ _) = some _).trans (congrArg some (by (exact congrArg bv (by first | exact (decide_eq_false (fun e => q ⟨congrArg GSpan.code e, congrArg GSpan.note e⟩)).symm | exact (decide_eq_false (fun e => q (by rw [e]))).symm | exact (decide_eq_true (GSpan.ext' e0 e1 e2 e3 e4 e5 e6 e7 e9 (ext_nth ge0 e10 (fun j hj => hev j (by omega))) (ext_nth gl0 e11 (fun j hj => h4 j (by omega))) e8.1 e8.2)).symm)))), rfl⟩, trivial⟩
                      · rw [hb11]
                        have e10 : a.events.length = b.events.length := by have e := bne_eq_false_iff_eq.1 hb11; simp only [List.length_map] at e; omega
                        refine g_run rfl rfl (s_fieldAddr rfl rfl fa33_10 rfl) ?_
                        refine g_run rfl rfl (s_load_imm rfl rfl rfl tA29 tS29 rfl rfl) ?_
                        refine g_run rfl rfl (s_lenL rfl rfl Tryd.underlying29) ?_
                        refine g_run rfl rfl (s_fieldAddr rfl rfl fa33_10 rfl) ?_
                        refine g_run rfl rfl (s_load_imm rfl rfl rfl tA29 tS29 rfl rfl) ?_
                        refine g_run rfl rfl (s_lenL rfl rfl Tryd.underlying29) ?_
                        refine g_run rfl rfl (s_neI rfl rfl rfl) ?_
                        refine g_u (s_pick_f rfl rfl rfl) ?_
                        refine g_nil ?_
                        refine normal_thn ?_
                        refine aw_cond rfl (fun hb12 => ?_) (fun hb12 => ?_)
                        · skip
                          have q : ¬ a.links.length = b.links.length := by have e := bne_iff_ne.1 hb12; simp only [List.length_map] at e; omega
                          refine aw_seq ?_
                          refine aw_region ?_
                          refine g_u (s_as_imm rfl rfl) ?_
                          refine g_nil ?_
                          refine normal_thn ?_
                          refine aw_ret ?_
                          refine ret_thn ?_
                          exact ⟨⟨(rfl : toAV (Al.look _ _) = some _).trans (congrArg some (by (exact congrArg bv (by first | exact (decide_eq_false (fun e => q ⟨congrArg GSpan.code e, congrArg GSpan.note e⟩)).symm | exact (decide_eq_false (fun e => q (by rw [e]))).symm | exact (decide_eq_true (GSpan.ext' e0 e1 e2 e3 e4 e5 e6 e7 e9 (ext_nth ge0 e10 (fun j hj => hev j (by omega))) (ext_nth gl0 e11 (fun j hj => h4 j (by omega))) e8.1 e8.2)).symm)))), rfl⟩, trivial⟩
                        · skip
                          have e11 : a.links.length = b.links.length := by have e := bne_eq_false_iff_eq.1 hb12; simp only [List.length_map] at e; omega
                          refine aw_skip ?_
                          refine normal_thn ?_
                          refine aw_seq ?_
                          refine aw_seq ?_
                          refine aw_region ?_
                          refine g_u (s_as_imm rfl rfl) ?_
                          refine g_nil ?_
                          refine normal_thn ?_
                          refine aw_block ?_
                          refine aw_loop' (fun i : Nat => [(2, .ptr 1002 0), (1002, .box 33 (.imm a.av)), (3, .ptr 1003 0), (1003, .box 33 (.imm b.av)), (5, .imm (iv (i : Int)))]) (fun i => (i ≤ a.events.length ∧ ∀ p, p < i → nth a.events p ge0 = nth b.events p ge0)) (fun i => a.events.length - i) (0) ?_ ⟨rfl, rfl, rfl, rfl, rfl, trivial⟩ ?_
                          · exact ⟨Nat.zero_le _, fun j h => absurd h (Nat.not_lt_zero _)⟩
                          · rintro i ⟨h1, h2⟩; (try dsimp only at h1 h2)
                            refine aw_seq ?_
                            refine aw_seq ?_
                            refine aw_region ?_
                            refine g_u (s_mv_imm rfl rfl) ?_
                            refine g_u (s_fieldAddr rfl rfl fa33_9 rfl) ?_
                            refine g_u (s_load_imm rfl rfl rfl tA28 tS28 rfl rfl) ?_
                            refine g_u (s_lenL rfl rfl Tryd.underlying28) ?_
                            refine g_u (s_ltI rfl rfl rfl) ?_
                            refine g_nil ?_
                            refine normal_thn ?_
                            refine aw_cond rfl (fun hb13 => ?_) (fun hb13 => ?_)
                            · skip
                              have hi : i < a.events.length := by have := of_decide_eq_true hb13; (try simp only [List.length_map] at this); omega
                              have hib : i < b.events.length := by omega
                              have hex := sumBy_mem GE.wt (nthE_mem hi)
                              have heq : (nthE a.events i).wt = 1 + (nthE a.events i).name.size + wtAs (nthE a.events i).attrs := rfl
                              refine aw_skip ?_
                              refine normal_thn ?_
                              refine aw_seq ?_
                              refine aw_block ?_
                              refine aw_seq ?_
                              refine aw_draw mixed ?_
                              refine g_u (s_fieldAddr rfl rfl fa33_9 rfl) ?_
                              refine g_u (s_load_imm rfl rfl rfl tA28 tS28 rfl rfl) ?_
                              refine g_u (s_mv_imm rfl rfl) ?_
                              refine g_u (s_indexAddr rfl rfl rfl Tryd.underlying28 tS70 (by omega) (ixE hi)) ?_
                              refine g_u (s_load_cp rfl rfl tA70 tS70 rfl rfl) ?_
                              refine g_u (s_fieldAddr rfl rfl fa33_9 rfl) ?_
                              refine g_u (s_load_imm rfl rfl rfl tA28 tS28 rfl rfl) ?_
                              refine g_u (s_mv_imm rfl rfl) ?_
                              refine g_u (s_indexAddr rfl rfl rfl Tryd.underlying28 tS70 (by omega) (ixE hib)) ?_
                              refine g_u (s_load_cp rfl rfl tA70 tS70 rfl rfl) ?_
                              refine g_uG (s_alloc' 1006 rfl rfl rfl tZ70) rfl ?_
                              refine g_uG (s_alloc' 1007 rfl rfl rfl tZ70) rfl ?_
                              refine g_u (s_store_imm rfl rfl rfl tS70 rfl rfl) ?_
                              refine g_u (s_store_imm rfl rfl rfl tS70 rfl rfl) ?_
                              refine g_nil ⟨by kernel_rfl, ?_⟩
                              refine normal_thn ?_
                              refine aw_seq ?_
                              refine aw_region ?_
                              refine g_u (s_fieldAddr rfl rfl fa70_0 rfl) ?_
                              refine g_u (s_load_imm rfl rfl rfl tA26 tS26 rfl rfl) ?_
                              refine g_u (s_fieldAddr rfl rfl fa70_0 rfl) ?_
                              refine g_u (s_load_imm rfl rfl rfl tA26 tS26 rfl rfl) ?_
                              refine g_u (s_neI rfl rfl rfl) ?_
                              refine g_u (s_mv_imm rfl rfl) ?_
                              refine g_case (t := 118) rfl ?_
                              rintro (hb14 | hb14)
                              · rw [hb14]
                                have q : ¬ (nthE a.events i).time = (nthE b.events i).time := bne_iff_ne.1 hb14
                                refine g_skip rfl rfl rfl ?_
                                refine g_skip rfl rfl rfl ?_
                                refine g_skip rfl rfl rfl ?_
                                refine g_skip rfl rfl rfl ?_
                                refine g_skip rfl rfl rfl ?_
                                refine g_u (s_pick_t rfl rfl rfl) ?_
                                refine g_u (s_mv_imm rfl rfl) ?_
                                refine g_skip rfl rfl rfl ?_
                                refine g_skip rfl rfl rfl ?_
                                refine g_skip rfl rfl rfl ?_
                                refine g_skip rfl rfl rfl ?_
                                refine g_skip rfl rfl rfl ?_
                                refine g_skip rfl rfl rfl ?_
                                refine g_u (s_pick_t rfl rfl rfl) ?_
                                refine g_nil ?_
                                refine normal_thn ?_
                                refine aw_cond_true rfl ?_
                                refine aw_seq ?_
                                refine aw_region ?_
                                refine g_u (s_as_imm rfl rfl) ?_
                                refine g_nil ?_
                                refine normal_thn ?_
                                refine aw_ret ?_
                                refine ret_blk ?_
                                refine ret_thn ?_
                                refine ret_thn ?_
                                refine ret_blk ?_
                                refine ret_thn ?_
                                exact ⟨⟨(rfl : toAV (Al.look _ _) = some _).trans (congrArg some (by (exact congrArg bv (by first | exact (decide_eq_false (fun e => q ⟨congrArg GSpan.code e, congrArg GSpan.note e⟩)).symm | exact (decide_eq_false (fun e => q (by rw [e]))).symm | exact (decide_eq_true (GSpan.ext' e0 e1 e2 e3 e4 e5 e6 e7 e9 (ext_nth ge0 e10 (fun j hj => hev j (by omega))) (ext_nth gl0 e11 (fun j hj => h4 j (by omega))) e8.1 e8.2)).symm)))), rfl⟩, trivial⟩
                              · rw [hb14]
                                have f1 : (nthE a.events i).time = (nthE b.events i).time := bne_eq_false_iff_eq.1 hb14
                                refine g_run rfl rfl (s_fieldAddr rfl rfl fa70_1 rfl) ?_
                                refine g_run rfl rfl (s_load_imm rfl rfl rfl tA9 tS9 rfl rfl) ?_
                                refine g_run rfl rfl (s_fieldAddr rfl rfl fa70_1 rfl) ?_
                                refine g_run rfl rfl (s_load_imm rfl rfl rfl tA9 tS9 rfl rfl) ?_
                                refine g_run rfl rfl (s_neS rfl rfl rfl) ?_
                                refine g_u (s_pick_f rfl rfl rfl) ?_
                                refine g_u (s_mv_imm rfl rfl) ?_
                                refine g_case (t := 125) rfl ?_
                                rintro (hb15 | hb15)
                                · rw [hb15]
                                  have q : ¬ (nthE a.events i).name = (nthE b.events i).name := by have e := hb15; rw [str_beq] at e; simpa using e
                                  refine g_skip rfl rfl rfl ?_
                                  refine g_skip rfl rfl rfl ?_
                                  refine g_skip rfl rfl rfl ?_
                                  refine g_skip rfl rfl rfl ?_
                                  refine g_skip rfl rfl rfl ?_
                                  refine g_skip rfl rfl rfl ?_
                                  refine g_u (s_pick_t rfl rfl rfl) ?_
                                  refine g_nil ?_
                                  refine normal_thn ?_
                                  refine aw_cond_true rfl ?_
                                  refine aw_seq ?_
                                  refine aw_region ?_
                                  refine g_u (s_as_imm rfl rfl) ?_
                                  refine g_nil ?_
                                  refine normal_thn ?_
                                  refine aw_ret ?_
                                  refine ret_blk ?_
                                  refine ret_thn ?_
                                  refine ret_thn ?_
                                  refine ret_blk ?_
                                  refine ret_thn ?_
                                  exact ⟨⟨(rfl : toAV (Al.look _ _) = some _).trans (congrArg some (by (exact congrArg bv (by first | exact (decide_eq_false (fun e => q ⟨congrArg GSpan.code e, congrArg GSpan.note e⟩)).symm | exact (decide_eq_false (fun e => q (by rw [e]))).symm | exact (decide_eq_true (GSpan.ext' e0 e1 e2 e3 e4 e5 e6 e7 e9 (ext_nth ge0 e10 (fun j hj => hev j (by omega))) (ext_nth gl0 e11 (fun j hj => h4 j (by omega))) e8.1 e8.2)).symm)))), rfl⟩, trivial⟩
                                · rw [hb15]
                                  have f2 : (nthE a.events i).name = (nthE b.events i).name := by have e := hb15; rw [str_beq] at e; simpa using e
                                  refine g_run rfl rfl (s_fieldAddr rfl rfl fa70_2 rfl) ?_
                                  refine g_run rfl rfl (s_load_imm rfl rfl rfl tA27 tS27 rfl rfl) ?_
                                  refine g_run rfl rfl (s_fieldAddr rfl rfl fa70_2 rfl) ?_
                                  refine g_run rfl rfl (s_load_imm rfl rfl rfl tA27 tS27 rfl rfl) ?_
                                  refine g_run rfl rfl (s_call1 (rsameAs_c _ _ (by omega)) rfl rfl) ?_
                                  refine g_run rfl rfl (s_not rfl rfl) ?_
                                  refine g_u (s_pick_f rfl rfl rfl) ?_
                                  refine g_nil ?_
                                  refine normal_thn ?_
                                  refine aw_cond rfl (fun hb16 => ?_) (fun hb16 => ?_)
                                  · skip
                                    have q : ¬ (nthE a.events i).attrs = (nthE b.events i).attrs := fun h => by have e := hb16; rw [h, sameAs_refl] at e; cases e
                                    refine aw_seq ?_
                                    refine aw_region ?_
                                    refine g_u (s_as_imm rfl rfl) ?_
                                    refine g_nil ?_
                                    refine normal_thn ?_
                                    refine aw_ret ?_
                                    refine ret_blk ?_
                                    refine ret_thn ?_
                                    refine ret_thn ?_
                                    refine ret_blk ?_
                                    refine ret_thn ?_
                                    exact ⟨⟨(rfl : toAV (Al.look _ _) = some _).trans (congrArg some (by (exact congrArg bv (by first | exact (decide_eq_false (fun e => q ⟨congrArg GSpan.code e, congrArg GSpan.note e⟩)).symm | exact (decide_eq_false (fun e => q (by rw [e]))).symm | exact (decide_eq_true (GSpan.ext' e0 e1 e2 e3 e4 e5 e6 e7 e9 (ext_nth ge0 e10 (fun j hj => hev j (by omega))) (ext_nth gl0 e11 (fun j hj => h4 j (by omega))) e8.1 e8.2)).symm)))), rfl⟩, trivial⟩
                                  · skip
                                    have f3 : (nthE a.events i).attrs = (nthE b.events i).attrs := (sameAs_iff _ _).1 (by have e := hb16; simpa using e)
                                    refine aw_skip ?_
                                    refine normal_blk ?_
                                    refine normal_thn ?_
                                    refine aw_region ?_
                                    refine g_u (s_mv_imm rfl rfl) ?_
                                    refine g_u (s_add rfl rfl rfl) ?_
                                    refine g_u (s_as_imm rfl rfl) ?_
                                    refine g_nil ?_
                                    refine normal_thn ?_
                                    refine ⟨i + 1, ⟨hi, fun j hj => by rcases Nat.lt_or_ge j i with h | h; exact h2 j h; rw [show j = i by omega]; exact GE.ext' f1 f2 f3⟩, ⟨rfl, rfl, rfl, rfl, look_int rfl (by rw [wrap64 (by omega) (by omega)]; rfl), trivial⟩, by (try dsimp only); omega⟩
                            · skip
                              have hin : i = a.events.length := by have := of_decide_eq_false hb13; (try simp only [List.length_map] at this); omega
                              have hev : ∀ j, j < a.events.length → nth a.events j ge0 = nth b.events j ge0 := fun j hj => h2 j (by omega)
                              refine aw_exit ?_
                              refine exit_thn ?_
                              refine exit_thn ?_
                              refine exit_blk ?_
                              refine normal_thn ?_
                              refine aw_seq ?_
                              refine aw_seq ?_
                              refine aw_region ?_
                              refine g_u (s_as_imm rfl rfl) ?_
                              refine g_nil ?_
                              refine normal_thn ?_
                              refine aw_block ?_
                              refine aw_loop' (fun j : Nat => [(2, .ptr 1002 0), (1002, .box 33 (.imm a.av)), (3, .ptr 1003 0), (1003, .box 33 (.imm b.av)), (8, .imm (iv (j : Int)))]) (fun j => (j ≤ a.links.length ∧ ∀ p, p < j → nth a.links p gl0 = nth b.links p gl0)) (fun j => a.links.length - j) (0) ?_ ⟨rfl, rfl, rfl, rfl, rfl, trivial⟩ ?_
                              · exact ⟨Nat.zero_le _, fun j h => absurd h (Nat.not_lt_zero _)⟩
                              · rintro j ⟨h3, h4⟩; (try dsimp only at h3 h4)
                                refine aw_seq ?_
                                refine aw_seq ?_
                                refine aw_region ?_
                                refine g_u (s_mv_imm rfl rfl) ?_
                                refine g_u (s_fieldAddr rfl rfl fa33_10 rfl) ?_
                                refine g_u (s_load_imm rfl rfl rfl tA29 tS29 rfl rfl) ?_
                                refine g_u (s_lenL rfl rfl Tryd.underlying29) ?_
                                refine g_u (s_ltI rfl rfl rfl) ?_
                                refine g_nil ?_
                                refine normal_thn ?_
                                refine aw_cond rfl (fun hb17 => ?_) (fun hb17 => ?_)
                                · skip
                                  have hj : j < a.links.length := by have := of_decide_eq_true hb17; (try simp only [List.length_map] at this); omega
                                  have hjb : j < b.links.length := by omega
                                  have hlx := sumBy_mem GL.wt (nthL_mem hj)
                                  have hlq : (nthL a.links j).wt = 1 + (nthL a.links j).state.size + wtAs (nthL a.links j).attrs := rfl
                                  refine aw_skip ?_
                                  refine normal_thn ?_
                                  refine aw_seq ?_
                                  refine aw_block ?_
                                  refine aw_seq ?_
                                  refine aw_draw mixed ?_
                                  refine g_u (s_fieldAddr rfl rfl fa33_10 rfl) ?_
                                  refine g_u (s_load_imm rfl rfl rfl tA29 tS29 rfl rfl) ?_
                                  refine g_u (s_mv_imm rfl rfl) ?_
                                  refine g_u (s_indexAddr rfl rfl rfl Tryd.underlying29 tS72 (by omega) (ixL hj)) ?_
                                  refine g_u (s_load_cp rfl rfl tA72 tS72 rfl (by first | exact getS_w (GL.width _) rfl | rfl)) ?_
                                  refine g_u (s_fieldAddr rfl rfl fa33_10 rfl) ?_
                                  refine g_u (s_load_imm rfl rfl rfl tA29 tS29 rfl rfl) ?_
                                  refine g_u (s_mv_imm rfl rfl) ?_
                                  refine g_u (s_indexAddr rfl rfl rfl Tryd.underlying29 tS72 (by omega) (ixL hjb)) ?_
                                  refine g_u (s_load_cp rfl rfl tA72 tS72 rfl (by first | exact getS_w (GL.width _) rfl | rfl)) ?_
                                  refine g_uG (s_alloc' 1009 rfl rfl rfl tZ72) rfl ?_
                                  refine g_uG (s_alloc' 1010 rfl rfl rfl tZ72) rfl ?_
                                  refine g_u (s_store_imm rfl rfl rfl tS72 (by first | exact beqW (GL.width _) | rfl) (by first | exact setS_w (z72_w.trans (GL.width _).symm) rfl | rfl)) ?_
                                  refine g_u (s_store_imm rfl rfl rfl tS72 (by first | exact beqW (GL.width _) | rfl) (by first | exact setS_w (z72_w.trans (GL.width _).symm) rfl | rfl)) ?_
                                  refine g_nil ⟨by kernel_rfl, ?_⟩
                                  refine normal_thn ?_
                                  refine aw_seq ?_
                                  refine aw_region ?_
                                  refine g_u (s_fieldAddr rfl rfl fa72_0 rfl) ?_
                                  refine g_u (s_load_agg rfl rfl rfl tA23 tS23 rfl rfl) ?_
                                  refine g_u (s_fieldAddr rfl rfl fa72_0 rfl) ?_
                                  refine g_u (s_load_agg rfl rfl rfl tA23 tS23 rfl rfl) ?_
                                  refine g_u (s_neA rfl rfl rfl eg23 rfl rfl (eq23 _ _)) ?_
                                  refine g_u (s_mv_imm rfl rfl) ?_
                                  refine g_case (t := 155) rfl ?_
                                  rintro (hb18 | hb18)
                                  · rw [hb18]
                                    have q : ¬ (nthL a.links j).trace = (nthL b.links j).trace := by have e := hb18; simpa using e
                                    refine g_skip rfl rfl rfl ?_
                                    refine g_skip rfl rfl rfl ?_
                                    refine g_skip rfl rfl rfl ?_
                                    refine g_skip rfl rfl rfl ?_
                                    refine g_skip rfl rfl rfl ?_
                                    refine g_u (s_pick_t rfl rfl rfl) ?_
                                    refine g_u (s_mv_imm rfl rfl) ?_
                                    refine g_skip rfl rfl rfl ?_
                                    refine g_skip rfl rfl rfl ?_
                                    refine g_skip rfl rfl rfl ?_
                                    refine g_skip rfl rfl rfl ?_
                                    refine g_skip rfl rfl rfl ?_
                                    refine g_u (s_pick_t rfl rfl rfl) ?_
                                    refine g_u (s_mv_imm rfl rfl) ?_
                                    refine g_skip rfl rfl rfl ?_
                                    refine g_skip rfl rfl rfl ?_
                                    refine g_skip rfl rfl rfl ?_
                                    refine g_skip rfl rfl rfl ?_
                                    refine g_skip rfl rfl rfl ?_
                                    refine g_skip rfl rfl rfl ?_
                                    refine g_u (s_pick_t rfl rfl rfl) ?_
                                    refine g_nil ?_
                                    refine normal_thn ?_
                                    refine aw_cond_true rfl ?_
                                    refine aw_seq ?_
                                    refine aw_region ?_
                                    refine g_u (s_as_imm rfl rfl) ?_
                                    refine g_nil ?_
                                    refine normal_thn ?_
                                    refine aw_ret ?_
                                    refine ret_blk ?_
                                    refine ret_thn ?_
                                    refine ret_thn ?_
                                    refine ret_blk ?_
                                    refine ret_thn ?_
                                    exact ⟨⟨(rfl : toAV (Al.look _ _) = some _).trans (congrArg some (by (exact congrArg bv (by first | exact (decide_eq_false (fun e => q ⟨congrArg GSpan.code e, congrArg GSpan.note e⟩)).symm | exact (decide_eq_false (fun e => q (by rw [e]))).symm | exact (decide_eq_true (GSpan.ext' e0 e1 e2 e3 e4 e5 e6 e7 e9 (ext_nth ge0 e10 (fun j hj => hev j (by omega))) (ext_nth gl0 e11 (fun j hj => h4 j (by omega))) e8.1 e8.2)).symm)))), rfl⟩, trivial⟩
                                  · rw [hb18]
                                    have g1 : (nthL a.links j).trace = (nthL b.links j).trace := by have e := hb18; simpa using e
                                    refine g_run rfl rfl (s_fieldAddr rfl rfl fa72_1 rfl) ?_
                                    refine g_run rfl rfl (s_load_imm rfl rfl rfl tA25 tS25 rfl rfl) ?_
                                    refine g_run rfl rfl (s_fieldAddr rfl rfl fa72_1 rfl) ?_
                                    refine g_run rfl rfl (s_load_imm rfl rfl rfl tA25 tS25 rfl rfl) ?_
                                    refine g_run rfl rfl (s_neA rfl rfl rfl eg25 rfl rfl (eq25 _ _)) ?_
                                    refine g_u (s_pick_f rfl rfl rfl) ?_
                                    refine g_u (s_mv_imm rfl rfl) ?_
                                    refine g_case (t := 162) rfl ?_
                                    rintro (hb19 | hb19)
                                    · rw [hb19]
                                      have q : ¬ (nthL a.links j).span = (nthL b.links j).span := by have e := hb19; simpa using e
                                      refine g_skip rfl rfl rfl ?_
                                      refine g_skip rfl rfl rfl ?_
                                      refine g_skip rfl rfl rfl ?_
                                      refine g_skip rfl rfl rfl ?_
                                      refine g_skip rfl rfl rfl ?_
                                      refine g_u (s_pick_t rfl rfl rfl) ?_
                                      refine g_u (s_mv_imm rfl rfl) ?_
                                      refine g_skip rfl rfl rfl ?_
                                      refine g_skip rfl rfl rfl ?_
                                      refine g_skip rfl rfl rfl ?_
                                      refine g_skip rfl rfl rfl ?_
                                      refine g_skip rfl rfl rfl ?_
                                      refine g_skip rfl rfl rfl ?_
                                      refine g_u (s_pick_t rfl rfl rfl) ?_
                                      refine g_nil ?_
                                      refine normal_thn ?_
                                      refine aw_cond_true rfl ?_
                                      refine aw_seq ?_
                                      refine aw_region ?_
                                      refine g_u (s_as_imm rfl rfl) ?_
                                      refine g_nil ?_
                                      refine normal_thn ?_
                                      refine aw_ret ?_
                                      refine ret_blk ?_
                                      refine ret_thn ?_
                                      refine ret_thn ?_
                                      refine ret_blk ?_
                                      refine ret_thn ?_
                                      exact ⟨⟨(rfl : toAV (Al.look _ _) = some _).trans (congrArg some (by (exact congrArg bv (by first | exact (decide_eq_false (fun e => q ⟨congrArg GSpan.code e, congrArg GSpan.note e⟩)).symm | exact (decide_eq_false (fun e => q (by rw [e]))).symm | exact (decide_eq_true (GSpan.ext' e0 e1 e2 e3 e4 e5 e6 e7 e9 (ext_nth ge0 e10 (fun j hj => hev j (by omega))) (ext_nth gl0 e11 (fun j hj => h4 j (by omega))) e8.1 e8.2)).symm)))), rfl⟩, trivial⟩
                                    · rw [hb19]
                                      have g2 : (nthL a.links j).span = (nthL b.links j).span := by have e := hb19; simpa using e
                                      refine g_run rfl rfl (s_fieldAddr rfl rfl fa72_2 rfl) ?_
                                      refine g_run rfl rfl (s_load_imm rfl rfl rfl tA9 tS9 rfl rfl) ?_
                                      refine g_run rfl rfl (s_fieldAddr rfl rfl fa72_2 rfl) ?_
                                      refine g_run rfl rfl (s_load_imm rfl rfl rfl tA9 tS9 rfl rfl) ?_
                                      refine g_run rfl rfl (s_neS rfl rfl rfl) ?_
                                      refine g_u (s_pick_f rfl rfl rfl) ?_
                                      refine g_u (s_mv_imm rfl rfl) ?_
                                      refine g_case (t := 169) rfl ?_
                                      rintro (hb20 | hb20)
                                      · rw [hb20]
                                        have q : ¬ (nthL a.links j).state = (nthL b.links j).state := by have e := hb20; rw [str_beq] at e; simpa using e
                                        refine g_skip rfl rfl rfl ?_
                                        refine g_skip rfl rfl rfl ?_
                                        refine g_skip rfl rfl rfl ?_
                                        refine g_skip rfl rfl rfl ?_
                                        refine g_skip rfl rfl rfl ?_
                                        refine g_skip rfl rfl rfl ?_
                                        refine g_u (s_pick_t rfl rfl rfl) ?_
                                        refine g_nil ?_
                                        refine normal_thn ?_
                                        refine aw_cond_true rfl ?_
                                        refine aw_seq ?_
                                        refine aw_region ?_
                                        refine g_u (s_as_imm rfl rfl) ?_
                                        refine g_nil ?_
                                        refine normal_thn ?_
                                        refine aw_ret ?_
                                        refine ret_blk ?_
                                        refine ret_thn ?_
                                        refine ret_thn ?_
                                        refine ret_blk ?_
                                        refine ret_thn ?_
                                        exact ⟨⟨(rfl : toAV (Al.look _ _) = some _).trans (congrArg some (by (exact congrArg bv (by first | exact (decide_eq_false (fun e => q ⟨congrArg GSpan.code e, congrArg GSpan.note e⟩)).symm | exact (decide_eq_false (fun e => q (by rw [e]))).symm | exact (decide_eq_true (GSpan.ext' e0 e1 e2 e3 e4 e5 e6 e7 e9 (ext_nth ge0 e10 (fun j hj => hev j (by omega))) (ext_nth gl0 e11 (fun j hj => h4 j (by omega))) e8.1 e8.2)).symm)))), rfl⟩, trivial⟩
                                      · rw [hb20]
                                        have g3 : (nthL a.links j).state = (nthL b.links j).state := by have e := hb20; rw [str_beq] at e; simpa using e
                                        refine g_run rfl rfl (s_fieldAddr rfl rfl fa72_3 rfl) ?_
                                        refine g_run rfl rfl (s_load_imm rfl rfl rfl tA27 tS27 rfl rfl) ?_
                                        refine g_run rfl rfl (s_fieldAddr rfl rfl fa72_3 rfl) ?_
                                        refine g_run rfl rfl (s_load_imm rfl rfl rfl tA27 tS27 rfl rfl) ?_
                                        refine g_run rfl rfl (s_call1 (rsameAs_c _ _ (by omega)) rfl rfl) ?_
                                        refine g_run rfl rfl (s_not rfl rfl) ?_
                                        refine g_u (s_pick_f rfl rfl rfl) ?_
                                        refine g_nil ?_
                                        refine normal_thn ?_
                                        refine aw_cond rfl (fun hb21 => ?_) (fun hb21 => ?_)
                                        · skip
                                          have q : ¬ (nthL a.links j).attrs = (nthL b.links j).attrs := fun h => by have e := hb21; rw [h, sameAs_refl] at e; cases e
                                          refine aw_seq ?_
                                          refine aw_region ?_
                                          refine g_u (s_as_imm rfl rfl) ?_
                                          refine g_nil ?_
                                          refine normal_thn ?_
                                          refine aw_ret ?_
                                          refine ret_blk ?_
                                          refine ret_thn ?_
                                          refine ret_thn ?_
                                          refine ret_blk ?_
                                          refine ret_thn ?_
                                          exact ⟨⟨(rfl : toAV (Al.look _ _) = some _).trans (congrArg some (by (exact congrArg bv (by first | exact (decide_eq_false (fun e => q ⟨congrArg GSpan.code e, congrArg GSpan.note e⟩)).symm | exact (decide_eq_false (fun e => q (by rw [e]))).symm | exact (decide_eq_true (GSpan.ext' e0 e1 e2 e3 e4 e5 e6 e7 e9 (ext_nth ge0 e10 (fun j hj => hev j (by omega))) (ext_nth gl0 e11 (fun j hj => h4 j (by omega))) e8.1 e8.2)).symm)))), rfl⟩, trivial⟩
                                        · skip
                                          have g4 : (nthL a.links j).attrs = (nthL b.links j).attrs := (sameAs_iff _ _).1 (by have e := hb21; simpa using e)
                                          refine aw_skip ?_
                                          refine normal_blk ?_
                                          refine normal_thn ?_
                                          refine aw_region ?_
                                          refine g_u (s_mv_imm rfl rfl) ?_
                                          refine g_u (s_add rfl rfl rfl) ?_
                                          refine g_u (s_as_imm rfl rfl) ?_
                                          refine g_nil ?_
                                          refine normal_thn ?_
                                          refine ⟨j + 1, ⟨hj, fun p hp => by rcases Nat.lt_or_ge p j with h | h; exact h4 p h; rw [show p = j by omega]; exact GL.ext' g1 g2 g3 g4⟩, ⟨rfl, rfl, rfl, rfl, look_int rfl (by rw [wrap64 (by omega) (by omega)]; rfl), trivial⟩, by (try dsimp only); omega⟩
                                · skip
                                  have hjn : j = a.links.length := by have := of_decide_eq_false hb17; (try simp only [List.length_map] at this); omega
                                  refine aw_exit ?_
                                  refine exit_thn ?_
                                  refine exit_thn ?_
                                  refine exit_blk ?_
                                  refine normal_thn ?_
                                  refine aw_seq ?_
                                  refine aw_region ?_
                                  refine g_u (s_as_imm rfl rfl) ?_
                                  refine g_nil ?_
                                  refine normal_thn ?_
                                  refine aw_ret ?_
                                  exact ⟨⟨(rfl : toAV (Al.look _ _) = some _).trans (congrArg some (by (exact congrArg bv (by first | exact (decide_eq_false (fun e => q ⟨congrArg GSpan.code e, congrArg GSpan.note e⟩)).symm | exact (decide_eq_false (fun e => q (by rw [e]))).symm | exact (decide_eq_true (GSpan.ext' e0 e1 e2 e3 e4 e5 e6 e7 e9 (ext_nth ge0 e10 (fun j hj => hev j (by omega))) (ext_nth gl0 e11 (fun j hj => h4 j (by omega))) e8.1 e8.2)).symm)))), rfl⟩, trivial⟩

end Go.Proofs

namespace Go.Al
open Go.RowKit
/-- Bytes, one by one, are an array of bytes. -/
theorem up_bytes {l : List UInt8} {n : Nat} (h : l.length = n) : Up (.agg (bytesL l)) (.arr n l) := by
  have hw : ∀ x ∈ bytesL l, x.width = 1 := W1.bytes l
  refine ⟨rfl, ?_, fun w I c r => ?_⟩
  · have key : ∀ l : List UInt8, AV.widths (bytesL l) = l.length := by
      intro l
      induction l with
      | nil => rfl
      | cons b l ih => simp only [bytesL, List.map_cons, AV.widths, List.length_cons] at ih ⊢; rw [ih]; simp only [AV.width, byteV, Value.cells]; show 1 + _ = _; omega
    show n = AV.widths (bytesL l)
    rw [key, h]
  · simp only [RepC] at r ⊢
    exact ⟨repE_bytes_inv l c ((repCs_E (n := 1) hw).1 r), h⟩
end Go.Al

namespace Go.Proofs
open Go Go.Al
set_option maxRecDepth 10000
theorem tV23 : IsZero Tryd.prog 23 (.agg (List.replicate 16 (.v (.int .u8 0)))) := ⟨.agg #[.int .u8 0, .int .u8 0, .int .u8 0, .int .u8 0, .int .u8 0, .int .u8 0, .int .u8 0, .int .u8 0, .int .u8 0, .int .u8 0, .int .u8 0, .int .u8 0, .int .u8 0, .int .u8 0, .int .u8 0, .int .u8 0], by kernel_rfl, by kernel_rfl⟩
theorem tV25 : IsZero Tryd.prog 25 (.agg (List.replicate 8 (.v (.int .u8 0)))) := ⟨.agg #[.int .u8 0, .int .u8 0, .int .u8 0, .int .u8 0, .int .u8 0, .int .u8 0, .int .u8 0, .int .u8 0], by kernel_rfl, by kernel_rfl⟩
end Go.Proofs

namespace Go.Al
open Go.RowKit

/-! ### Maps of one's own, under texts -/

/-- What one owns, turned: its block alone. -/
theorem SimG.turnOG {C : Cx} {A : Nat → SV} {G : Gh} {a : Act} {w : World} (S : SimG C A G a w) {g : Nat} {X' : SV} {o' : Obj}
    (how : Owned C.w0 C.E w (G.blk g)) (hni : ∀ o, ¬ G.I (G.blk g) o) (hown : ownsB G g (G.blk g) (A g)) (hown' : ∀ b, ownsB G g b X' → G.blk g = b)
    (hnew : Le w G.I (setBlk w (G.blk g) o') G.I → Holds C.w0 C.E G a (setBlk w (G.blk g) o') g X') :
    SimG C (upd A [(g, X')]) G a (setBlk w (G.blk g) o') := by
  have hlt : G.blk g < w.heap.size := how.2
  have hle : Le w G.I (setBlk w (G.blk g) o') G.I := fun b o h => ⟨h, by
    have : b ≠ G.blk g := by rintro rfl; exact hni o h
    exact kp_of_block (setBlk_ne this)⟩
  have hu : ∀ k, upd A [(g, X')] k = if k = g then X' else A k := upd_one A g X'
  have conv : ∀ k b, ownsB G k b (upd A [(g, X')] k) → ownsB G k b (A k) := by
    intro k b h
    rw [hu] at h
    split at h
    · rename_i hk; subst hk; have := hown' b h; rw [← this]; exact hown
    · exact h
  refine ⟨S.os, S.tape, S.output, by rw [setBlk_size]; exact S.size, fun k h1 h2 => ?_, S.sub.trans hle, S.rel, S.glob.mono hle, S.new, fun b o h => by rw [setBlk_size]; exact S.val b o h, S.nts, S.dfs, fun k => ?_, fun k j b hkj h1 h2 => S.apart k j b hkj (conv k b h1) (conv j b h2)⟩
  · have : k ≠ G.blk g := by
      rintro rfl
      rcases how.1 with h | h
      · omega
      · exact h2 h
    rw [setBlk_ne this]; exact S.block k h1 h2
  · rw [hu]
    split
    · rename_i hk; subst hk; exact hnew hle
    · rename_i hk
      refine (S.holds k).keep hle (GRel.refl G) (noG_nil.1 _) (by rw [setBlk_size]; exact Nat.le_refl _) (fun h => ⟨h, rfl⟩) (fun _ => ⟨rfl, rfl, rfl⟩) (fun b hb => ⟨?_, fun _ h => h⟩)
      have : b ≠ G.blk g := by
        rintro rfl
        exact S.apart k g (G.blk g) hk hb hown
      exact setBlk_ne this

theorem SimG.turnO {C : Cx} {A : Nat → SV} {G : Gh} {a : Act} {w : World} (S : SimG C A G a w) {g : Nat} {X' : SV} {o' : Obj}
    (how : Owned C.w0 C.E w (G.blk g)) (hni : ∀ o, ¬ G.I (G.blk g) o) (hown : ownsB G g (G.blk g) (A g)) (hown' : ∀ b, ownsB G g b X' → G.blk g = b)
    (hnew : Le w G.I (setBlk w (G.blk g) o') G.I → Holds C.w0 C.E G a (setBlk w (G.blk g) o') g X') :
    Sim C (upd A [(g, X')]) a (setBlk w (G.blk g) o') := ⟨G, S.turnOG how hni hown hown' hnew⟩

/-- The place of a text among some. -/
def mfind : List ByteArray → ByteArray → Nat → Option Nat
  | [], _, _ => none
  | x :: xs, s, i => if s = x then some i else mfind xs s (i + 1)
def strs (l : List ByteArray) : List AV := l.map fun s => .v (.string s)
def mputK (l : List ByteArray) (s : ByteArray) : List ByteArray := match mfind l s 0 with | some _ => l | none => l ++ [s]
def mputV (l : List ByteArray) (vs : List AV) (s : ByteArray) (v : AV) : List AV := match mfind l s 0 with | some i => vs.set i v | none => vs ++ [v]

theorem mfind_lt : ∀ {l : List ByteArray} {s : ByteArray} {i j : Nat}, mfind l s i = some j → i ≤ j ∧ j < i + l.length
  | x :: xs, s, i, j, h => by
    rw [mfind] at h
    split at h
    · cases h; simp
    · have := mfind_lt h; simp; omega

theorem mfind_get : ∀ {l : List ByteArray} {s : ByteArray} {i j : Nat}, mfind l s i = some j → l[j - i]? = some s
  | x :: xs, s, i, j, h => by
    rw [mfind] at h
    split at h
    · rename_i hs; cases h; simp [hs]
    · have h1 := mfind_lt h
      have h2 := mfind_get h
      rw [show j - i = (j - (i + 1)) + 1 by omega, List.getElem?_cons_succ]; exact h2
theorem repVs_strs {w : World} {I : Nat → Nat → Prop} : ∀ {l : List ByteArray} {vs : List Value}, RepVs w I (strs l) vs → vs = l.map Value.string
  | [], vs, h => by simpa [strs, RepVs] using h
  | x :: xs, vs, h => by
    simp only [strs, List.map_cons, RepVs] at h
    obtain ⟨c, r, rfl, h1, h2⟩ := h
    simp only [RepC] at h1
    rw [repVs_strs (l := xs) h2, h1.1]
    simp [mkV, AV.isAgg, Value.cells]

theorem ba_beq (a b : ByteArray) : (a == b) = decide (a = b) := by
  rcases a with ⟨a⟩; rcases b with ⟨b⟩
  show (a == b) = _
  rw [Bool.eq_iff_iff]; simp

theorem findNow_str : ∀ (es : List MapEntry) (l : List ByteArray) (s : ByteArray) (i : Nat), es.map (·.key) = l.map Value.string →
    Instr.findNow .string (.string s) es i = some ((mfind l s i).bind fun j => (es[j - i]?).map fun e => (j, e.val))
  | [], l, s, i, h => by
    cases l with
    | nil => rfl
    | cons x l => simp at h
  | e :: es, l, s, i, h => by
    cases l with
    | nil => simp at h
    | cons x l =>
      simp only [List.map_cons, List.cons.injEq] at h
      simp only [Instr.findNow, h.1, Instr.sameNow]
      by_cases hs : s = x
      · subst hs
        simp [mfind, ba_beq]
      · have : (s == x) = false := by rw [ba_beq]; simpa using hs
        rw [this]
        simp only
        rw [findNow_str es l s (i + 1) h.2, mfind, if_neg hs]
        cases hm : mfind l s (i + 1) with
        | none => rfl
        | some j =>
          have := mfind_lt hm
          simp only [Option.bind_some]
          rw [show j - i = (j - (i + 1)) + 1 by omega, List.getElem?_cons_succ]

theorem run_checkKey {P : Program} {kt : TypeId} {s : ByteArray} (h : P.underlying kt = some .string) (b : Bool) (n : Nat) (w : World) : (Instr.checkKey b (n + 1) kt (.string s)).run P w = .ok () w := by
  simp only [Instr.checkKey, Sem.run_bind, run_underlying' h, Result.andThen_ok, Sem.run_pure]

theorem run_findKey {P : Program} {kt : TypeId} {s : ByteArray} (h : P.underlying kt = some .string) {es : List MapEntry} {l : List ByteArray} (he : es.map (·.key) = l.map Value.string) (w : World) :
    (Instr.findKey kt (.string s) es).run P w = .ok ((mfind l s 0).bind fun j => (es[j]?).map fun e => (j, e.val)) w := by
  have := findNow_str es l s 0 he
  simp only [Nat.sub_zero] at this
  simp only [Instr.findKey, Sem.run_bind, run_underlying' h, Result.andThen_ok, this, Sem.run_pure]

theorem run_getMap {P : Program} {w : World} {r : Nat} {es : Array MapEntry} {ck : Nat} (h : w.heap[r]? = some (.map es ck)) : (getObj r).run P w = .ok (.map es ck) w := by simp [getObj, Sem.run, h]
theorem run_setMap {P : Program} {w : World} {r : Nat} {es : Array MapEntry} {ck : Nat} {o' : Obj} (h : w.heap[r]? = some (.map es ck)) : (setObj r o').run P w = .ok () (setBlk w r o') := by simp [setObj, Sem.run, h, setBlk]

section
variable {C : Cx} {A : Nat → SV} {d : Nat} {ty : TypeId} {pos : String} {af : Array Edge} {gd : Option (Nat × Bool)} {x y z : Operand} {T T' : TypeId}

theorem s_makeMap (g : Nat) (hgN : Nat.ble C.N g = true) (hgK : Nat.blt g C.K = true) (hN : Nat.blt d C.N = true) :
    StepU C ⟨some d, .makeMap T none, ty, pos, af, gd⟩ [] [g] A [(g, .mpr [] []), (d, .mref g)] := by
  intro A' a w hR hF ⟨G, S⟩
  have hN' : d < C.N := by simpa [Nat.blt_eq] using hN
  have hgd : g ≠ d := by have := Nat.le_of_ble_eq_true hgN; omega
  unfold Oper.wp
  have hrun : (execOp a.eval ⟨some d, .makeMap T none, ty, pos, af, gd⟩).run C.P w = .ok (.value (.map (some w.heap.size))) (w.alloc (.map #[] 0)) := by
    simp only [execOp, Option.map_none, Instr.makeMap, Sem.run_bind, Sem.run_pure, Result.andThen_ok, run_newObj]
    rfl
  rw [hrun, Oper.upon_value]
  refine S.allocO hgd (by simpa [Nat.blt_eq] using hgK) hN' (fun _ _ h => by simpa only [ownsB] using h) (fun G' e _ hg hle hni => ?_) (fun G' e => ?_) (fun k hk => hF k hk)
  · simp only [Holds]
    refine ⟨⟨.inl (by rw [e]; exact S.size), by rw [e]; simp⟩, ⟨#[], by rw [e]; exact alloc_new, fun i h => by simp at h, by simp [RepVs], by simp [RepVs]⟩, fun o => ?_⟩
    rw [e]; exact hni o
  · exact ⟨[.map (some w.heap.size)], by simp [RepS, e], by simp [mkS, SV.isAgg]⟩

theorem repVs_set {w : World} {I : Nat → Nat → Prop} : ∀ {xs : List AV} {vs : List Value} {i : Nat} {y : AV} {v : Value}, RepVs w I xs vs → Rep w I y v → RepVs w I (xs.set i y) (vs.set i v)
  | [], vs, i, y, v, h, _ => by
    simp only [RepVs] at h; subst h; simp [RepVs]
  | x :: xs, vs, 0, y, v, h, k => by
    simp only [RepVs] at h
    obtain ⟨c, r, rfl, h1, h2⟩ := h
    obtain ⟨c', k1, k2⟩ := k
    simp only [List.set_cons_zero, RepVs]
    exact ⟨c', r, by rw [k2], k1, h2⟩
  | x :: xs, vs, i + 1, y, v, h, k => by
    simp only [RepVs] at h
    obtain ⟨c, r, rfl, h1, h2⟩ := h
    simp only [List.set_cons_succ, RepVs]
    exact ⟨c, _, rfl, h1, repVs_set h2 k⟩

theorem s_mapUpdate {g : Nat} {kt vt : TypeId} {l : List ByteArray} {vs : List AV} {s : ByteArray} {v : AV} (hx : opS A x = .mref g) (hg : A g = .mpr (strs l) vs) (hy : opV A y = some (.v (.string s))) (hz : opV A z = some v)
    (hT : C.P.underlying T = some (.map kt vt)) (hk : C.P.underlying kt = some .string) :
    StepU C ⟨none, .mapUpdate T x y z, ty, pos, af, gd⟩ (g :: (opR x ++ (opR y ++ opR z))) [] A [(g, .mpr (strs (mputK l s)) (mputV l vs s v))] := by
  intro A' a w hR hF ⟨G, S⟩
  have hgA : A' g = .mpr (strs l) vs := (hR g List.mem_cons_self).trans hg
  obtain ⟨c, hc1, hc2⟩ := S.opS ((opS_congr (fun k hk => hR k (List.mem_cons_of_mem _ (List.mem_append_left _ hk)))).trans hx) rfl
  simp only [RepS] at hc1
  have hev : a.eval x = .map (some (G.blk g)) := by rw [hc2, hc1]; rfl
  rw [← opV_congr (fun k hk => hR k (List.mem_cons_of_mem _ (List.mem_append_right _ (List.mem_append_left _ hk))))] at hy
  rw [← opV_congr (fun k hk => hR k (List.mem_cons_of_mem _ (List.mem_append_right _ (List.mem_append_right _ hk))))] at hz
  have hys := rep_str (S.opV hy)
  have hzv := S.opV hz
  have hb := S.holds g
  rw [hgA] at hb
  simp only [Holds] at hb
  obtain ⟨how, ⟨es, h1, h2, h3, h4⟩, hni⟩ := hb
  have hkeys : es.toList.map (·.key) = l.map Value.string := repVs_strs h3
  have hlen : es.size = l.length := by have := congrArg List.length hkeys; simpa using this
  have hfind := run_findKey (P := C.P) (s := s) hk hkeys w
  have hobj := run_getMap (P := C.P) h1
  unfold Oper.wp
  cases hm : mfind l s 0 with
  | some i =>
    have hi := mfind_lt hm
    have hie : i < es.size := by omega
    have hkey : es[i].key = .string s := by
      have hk2 : (es.toList.map (·.key))[i]? = (l.map Value.string)[i]? := by rw [hkeys]
      have hsl : l[i]? = some s := by
        have := mfind_get hm
        simpa using this
      simp only [List.getElem?_map, hsl, Option.map_some] at hk2
      rw [Array.getElem?_toList, Array.getElem?_eq_getElem hie] at hk2
      simpa using hk2
    have hrun : (execOp a.eval ⟨none, .mapUpdate T x y z, ty, pos, af, gd⟩).run C.P w = .ok .skip (setBlk w (G.blk g) (.map (es.modify i fun e => { e with key := .string s, val := a.eval z }) es.size)) := by
      have e1 : (es[i]?).map (·.key) = some (.string s) := by rw [Array.getElem?_eq_getElem hie]; simp [hkey]
      have e2 : (es.toList[i]?).map (fun e => (i, e.val)) = some (i, es[i].val) := by rw [Array.getElem?_toList, Array.getElem?_eq_getElem hie]; rfl
      have e3 : Instr.sameBits 10000 (.string s) (.string s) = true := by simp [Instr.sameBits, ba_beq]
      simp only [execOp, Instr.mapUpdate, Sem.run_bind, run_underlying' hT, Result.andThen_ok, hev, hobj, hys, run_checkKey hk, hfind, hm, Option.bind_some, e2, e1, Option.getD_some, Instr.keyThatStays, e3, if_true, Sem.run_pure, run_setMap h1]
    rw [hrun, Oper.upon_skip]
    have hmp : mputK l s = l ∧ mputV l vs s v = vs.set i v := by unfold mputK mputV; rw [hm]; exact ⟨rfl, rfl⟩
    rw [hmp.1, hmp.2]
    refine S.turnO how hni (by rw [hgA]; simp [ownsB]) (fun b h => by simpa only [ownsB] using h) fun hle => ?_
    simp only [Holds]
    refine ⟨⟨how.1, by rw [setBlk_size]; exact how.2⟩, ⟨es.modify i fun e => { e with key := .string s, val := a.eval z }, by rw [setBlk_get how.2]; simp, fun j hj => ?_, ?_, ?_⟩, hni⟩
    · simp only [Array.getElem_modify]
      split
      · exact h2 j (by simpa using hj)
      · exact h2 j (by simpa using hj)
    · have : ((es.modify i fun e => { e with key := .string s, val := a.eval z }).toList.map (·.key)) = es.toList.map (·.key) := by
        refine List.ext_getElem (by simp) fun j h5 h6 => ?_
        simp only [List.getElem_map, Array.getElem_toList, Array.getElem_modify]
        split
        · rename_i hij; subst hij; rw [hkey]
        · rfl
      rw [this]; exact RepVs.mono hle _ _ h3
    · have : ((es.modify i fun e => { e with key := .string s, val := a.eval z }).toList.map (·.val)) = (es.toList.map (·.val)).set i (a.eval z) := by
        refine List.ext_getElem (by simp) fun j h5 h6 => ?_
        simp only [List.getElem_map, Array.getElem_toList, Array.getElem_modify, List.getElem_set]
        split <;> rfl
      rw [this]; exact repVs_set (RepVs.mono hle _ _ h4) (hzv.mono hle)
  | none =>
    have hrun : (execOp a.eval ⟨none, .mapUpdate T x y z, ty, pos, af, gd⟩).run C.P w = .ok .skip (setBlk w (G.blk g) (.map (es.push { key := .string s, val := a.eval z, born := es.size }) (es.size + 1))) := by
      simp only [execOp, Instr.mapUpdate, Sem.run_bind, run_underlying' hT, Result.andThen_ok, hev, hobj, hys, run_checkKey hk, hfind, hm, Option.bind_none, Sem.run_pure, run_setMap h1]
    rw [hrun, Oper.upon_skip]
    have hmp : mputK l s = l ++ [s] ∧ mputV l vs s v = vs ++ [v] := by unfold mputK mputV; rw [hm]; exact ⟨rfl, rfl⟩
    rw [hmp.1, hmp.2]
    refine S.turnO how hni (by rw [hgA]; simp [ownsB]) (fun b h => by simpa only [ownsB] using h) fun hle => ?_
    simp only [Holds]
    refine ⟨⟨how.1, by rw [setBlk_size]; exact how.2⟩, ⟨es.push { key := .string s, val := a.eval z, born := es.size }, by rw [setBlk_get how.2]; simp, fun j hj => ?_, ?_, ?_⟩, hni⟩
    · simp only [Array.getElem_push]
      split
      · rename_i hj2; exact h2 j hj2
      · rename_i hj2; simp at hj; show es.size = j; omega
    · have e : strs (l ++ [s]) = strs l ++ [.v (.string s)] := by simp [strs]
      rw [e]
      simp only [Array.toList_push, List.map_append, List.map_cons, List.map_nil]
      exact repVs_append (RepVs.mono hle _ _ h3) (by simp only [RepVs]; exact ⟨[.string s], [], by simp [mkV, AV.isAgg], by simp [RepC, Value.cells, Al.plain], rfl⟩)
    · simp only [Array.toList_push, List.map_append, List.map_cons, List.map_nil]
      obtain ⟨cz, k1, k2⟩ := hzv.mono hle
      exact repVs_append (RepVs.mono hle _ _ h4) (by simp only [RepVs]; exact ⟨cz, [], by rw [k2], k1, rfl⟩)

theorem s_lookup {g : Nat} {kt vt : TypeId} {l : List ByteArray} {vs : List AV} {s : ByteArray} {v : AV} {i : Nat} (hN : Nat.blt d C.N = true) (hx : opS A x = .mref g) (hg : A g = .mpr (strs l) vs) (hy : opV A y = some (.v (.string s)))
    (hT : C.P.underlying T = some (.map kt vt)) (hk : C.P.underlying kt = some .string) (hm : mfind l s 0 = some i) (hv : vs[i]? = some v) :
    StepU C ⟨some d, .lookup T x y false, ty, pos, af, gd⟩ (g :: (opR x ++ opR y)) [] A [(d, .imm v)] := by
  refine StepU.value rfl hN fun A' G a w hR S => ?_
  have hgA : A' g = .mpr (strs l) vs := (hR g List.mem_cons_self).trans hg
  obtain ⟨c, hc1, hc2⟩ := S.opS ((opS_congr (fun k hk => hR k (List.mem_cons_of_mem _ (List.mem_append_left _ hk)))).trans hx) rfl
  simp only [RepS] at hc1
  have hev : a.eval x = .map (some (G.blk g)) := by rw [hc2, hc1]; rfl
  rw [← opV_congr (fun k hk => hR k (List.mem_cons_of_mem _ (List.mem_append_right _ hk)))] at hy
  have hys := rep_str (S.opV hy)
  have hb := S.holds g
  rw [hgA] at hb
  simp only [Holds] at hb
  obtain ⟨how, ⟨es, h1, h2, h3, h4⟩, hni⟩ := hb
  have hkeys : es.toList.map (·.key) = l.map Value.string := repVs_strs h3
  have hlen : es.size = l.length := by have := congrArg List.length hkeys; simpa using this
  have hi := mfind_lt hm
  have hie : i < es.size := by omega
  have hfind := run_findKey (P := C.P) (s := s) hk hkeys w
  have hobj := run_getMap (P := C.P) h1
  have e2 : (es.toList[i]?).map (fun e => (i, e.val)) = some (i, es[i].val) := by rw [Array.getElem?_toList, Array.getElem?_eq_getElem hie]; rfl
  obtain ⟨u, hu1, hu2⟩ := repVs_get h4 hv
  simp only [List.getElem?_map, Array.getElem?_toList, Array.getElem?_eq_getElem hie, Option.map_some, Option.some.injEq] at hu1
  refine ⟨u, ?_, valS_imm.2 hu2⟩
  simp only [execOp, Instr.lookup, Sem.run_bind, run_underlying' hT, Result.andThen_ok, hev, hobj, hys, Sem.run_pure, run_checkKey hk, hfind, hm, Option.bind_some, e2, Bool.false_eq_true, if_false, hu1]

theorem s_range {gm : Nat} (g : Nat) {kt vt : TypeId} {ks vs : List AV} (hgN : Nat.ble C.N g = true) (hgK : Nat.blt g C.K = true) (hN : Nat.blt d C.N = true) (hgm : Nat.beq g gm = false) (hx : opS A x = .mref gm) (hg : A gm = .mpr ks vs) (hT : C.P.underlying T = some (.map kt vt)) :
    StepU C ⟨some d, .range T x, ty, pos, af, gd⟩ (gm :: opR x) [g] A [(g, .itr gm ks.length []), (d, .ptr g 0)] := by
  intro A' a w hR hF ⟨G, S⟩
  have hN' : d < C.N := by simpa [Nat.blt_eq] using hN
  have hgd : g ≠ d := by have := Nat.le_of_ble_eq_true hgN; omega
  have hgne : gm ≠ g := by rintro rfl; rw [Nat.beq_refl] at hgm; cases hgm
  have hgA : A' gm = .mpr ks vs := (hR gm List.mem_cons_self).trans hg
  obtain ⟨c, hc1, hc2⟩ := S.opS ((opS_congr (fun k hk => hR k (List.mem_cons_of_mem _ hk))).trans hx) rfl
  simp only [RepS] at hc1
  have hev : a.eval x = .map (some (G.blk gm)) := by rw [hc2, hc1]; rfl
  have hb := S.holds gm
  rw [hgA] at hb
  simp only [Holds] at hb
  obtain ⟨how, ⟨es, h1, h2, h3, h4⟩, hni⟩ := hb
  have hlen : es.size = ks.length := by have := repVs_len h3; simpa using this
  unfold Oper.wp
  have hrun : (execOp a.eval ⟨some d, .range T x, ty, pos, af, gd⟩).run C.P w = .ok (.value (.pointer (some ⟨w.heap.size, 0, none⟩))) (w.alloc (.mapIter (some (G.blk gm)) es.size #[] es.size)) := by
    simp only [execOp, Instr.range, Sem.run_bind, run_underlying' hT, Result.andThen_ok, hev, run_getMap h1, Sem.run_pure, run_newObj]
    rfl
  rw [hrun, Oper.upon_value]
  refine S.allocO hgd (by simpa [Nat.blt_eq] using hgK) hN' (fun _ _ h => by simpa only [ownsB] using h) (fun G' e hother hg hle hni => ?_) (fun G' e => ?_) (fun k hk => hF k hk)
  · simp only [Holds]
    refine ⟨⟨.inl (by rw [e]; exact S.size), by rw [e]; simp⟩, ?_, fun o => ?_⟩
    · rw [e, hother gm hgne, ← hlen]; exact alloc_new
    · rw [e]; exact hni o
  · exact ⟨[.pointer (some ⟨w.heap.size, 0, none⟩)], by simp [RepS, e], by simp [mkS, SV.isAgg]⟩
end
end Go.Al

