/- Texts that the proofs of this claim share, part 6: the abstract logic, plain Lean on values and batches, and walks. No condition but those typed in each lemma. -/
import Derived.Test.YtmjlfkmgamlpcaaDoorP5
set_option linter.unusedSimpArgs false
set_option linter.unusedVariables false
namespace Go.Proofs
open Go Go.Al
set_option maxRecDepth 10000
set_option maxHeartbeats 400000 in
theorem keyP_c (k : ByteArray) (hk : k.size < 9223372036854775808) : PCall Tryd.prog Γ0 120 [sv k] [iv (keyC k)] := by
  have cr := check_range k
  refine pcall_of Tryd.func120 rfl Tryd.ntmps120 (by kernel_rfl) rfl fun w0 I0 G0 => ?_
  refine aw_seq ?_
  refine aw_region ?_
  refine g_u (s_as_imm rfl rfl) ?_
  refine g_nil ?_
  refine normal_thn ?_
  refine aw_seq ?_
  refine aw_block ?_
  refine aw_seq ?_
  refine aw_region ?_
  refine g_u (s_mv_imm rfl rfl) ?_
  refine g_u (s_eqS rfl rfl rfl) ?_
  refine g_u (s_as_imm rfl rfl) ?_
  refine g_nil ?_
  refine normal_thn ?_
  refine aw_cond rfl (fun hb1 => ?_) (fun hb1 => ?_)
  · skip
    have q : k.size = 0 := by have e := hb1; rw [str_beq] at e; exact (size0 k).1 (of_decide_eq_true e)
    refine aw_seq ?_
    refine aw_region ?_
    refine g_u (s_as_imm rfl rfl) ?_
    refine g_nil ?_
    refine normal_thn ?_
    refine aw_ret ?_
    refine ret_blk ?_
    refine ret_thn ?_
    exact ⟨⟨(rfl : toAV (Al.look _ _) = some _).trans (congrArg some (by (exact congrArg iv (by unfold keyC; (repeat' split) <;> first | rfl | omega)))), rfl⟩, trivial⟩
  · skip
    have q : ¬ k.size = 0 := by have e := hb1; rw [str_beq] at e; exact fun h => of_decide_eq_false e ((size0 k).2 h)
    refine aw_seq ?_
    refine aw_region ?_
    refine g_u (s_mv_imm rfl rfl) ?_
    refine g_u (s_call1 (check_c _ (by omega)) rfl rfl) ?_
    refine g_u (s_geI rfl rfl rfl) ?_
    refine g_u (s_as_imm rfl rfl) ?_
    refine g_nil ?_
    refine normal_thn ?_
    refine aw_cond rfl (fun hb2 => ?_) (fun hb2 => ?_)
    · skip
      have q := of_decide_eq_true hb2
      refine aw_seq ?_
      refine aw_region ?_
      refine g_u (s_as_imm rfl rfl) ?_
      refine g_nil ?_
      refine normal_thn ?_
      refine aw_ret ?_
      refine ret_blk ?_
      refine ret_thn ?_
      exact ⟨⟨(rfl : toAV (Al.look _ _) = some _).trans (congrArg some (by (exact congrArg iv (by unfold keyC; (repeat' split) <;> first | rfl | omega)))), rfl⟩, trivial⟩
    · skip
      have q := of_decide_eq_false hb2
      refine aw_seq ?_
      refine aw_region ?_
      refine g_u (s_mv_imm rfl rfl) ?_
      refine g_u (s_lenS rfl rfl Tryd.underlying9) ?_
      refine g_u (s_gtI rfl rfl rfl) ?_
      refine g_u (s_as_imm rfl rfl) ?_
      refine g_nil ?_
      refine normal_thn ?_
      refine aw_cond rfl (fun hb3 => ?_) (fun hb3 => ?_)
      · skip
        have q := of_decide_eq_true hb3
        refine aw_seq ?_
        refine aw_region ?_
        refine g_u (s_as_imm rfl rfl) ?_
        refine g_nil ?_
        refine normal_thn ?_
        refine aw_ret ?_
        refine ret_blk ?_
        refine ret_thn ?_
        exact ⟨⟨(rfl : toAV (Al.look _ _) = some _).trans (congrArg some (by (exact congrArg iv (by unfold keyC; (repeat' split) <;> first | rfl | omega)))), rfl⟩, trivial⟩
      · skip
        have q := of_decide_eq_false hb3
        refine aw_skip ?_
        refine normal_blk ?_
        refine normal_thn ?_
        refine aw_seq ?_
        refine aw_region ?_
        refine g_u (s_as_imm rfl rfl) ?_
        refine g_nil ?_
        refine normal_thn ?_
        refine aw_ret ?_
        exact ⟨⟨(rfl : toAV (Al.look _ _) = some _).trans (congrArg some (by (exact congrArg iv (by unfold keyC; (repeat' split) <;> first | rfl | omega)))), rfl⟩, trivial⟩

set_option maxHeartbeats 400000 in
theorem rkeyP_c (k : ByteArray) (hk : k.size < 9223372036854775808) : PCall Tryd.prog Γ0 122 [sv k] [iv (keyC k)] := by
  have cr := check_range k
  have ce := check_eq k
  refine pcall_of Tryd.func122 rfl Tryd.ntmps122 (by kernel_rfl) rfl fun w0 I0 G0 => ?_
  refine aw_seq ?_
  refine aw_region ?_
  refine g_u (s_as_imm rfl rfl) ?_
  refine g_nil ?_
  refine normal_thn ?_
  refine aw_seq ?_
  refine aw_seq ?_
  refine aw_region ?_
  refine g_u (s_mv_imm rfl rfl) ?_
  refine g_u (s_eqS rfl rfl rfl) ?_
  refine g_nil ?_
  refine normal_thn ?_
  refine aw_cond rfl (fun hb1 => ?_) (fun hb1 => ?_)
  · skip
    have q : k.size = 0 := by have e := hb1; rw [str_beq] at e; exact (size0 k).1 (of_decide_eq_true e)
    refine aw_seq ?_
    refine aw_region ?_
    refine g_u (s_as_imm rfl rfl) ?_
    refine g_nil ?_
    refine normal_thn ?_
    refine aw_ret ?_
    refine ret_thn ?_
    exact ⟨⟨(rfl : toAV (Al.look _ _) = some _).trans (congrArg some (by (exact congrArg iv (by unfold keyC; (repeat' split) <;> first | rfl | omega)))), rfl⟩, trivial⟩
  · skip
    have q : ¬ k.size = 0 := by have e := hb1; rw [str_beq] at e; exact fun h => of_decide_eq_false e ((size0 k).2 h)
    refine aw_skip ?_
    refine normal_thn ?_
    refine aw_seq ?_
    refine aw_seq ?_
    refine aw_region ?_
    refine g_u (s_mv_imm rfl rfl) ?_
    refine g_u (s_call1 (rcheck_c _ (by omega)) rfl rfl) ?_
    refine g_u (s_neI rfl rfl rfl) ?_
    refine g_nil ?_
    refine normal_thn ?_
    refine aw_cond rfl (fun hb2 => ?_) (fun hb2 => ?_)
    · skip
      have q := bne_iff_ne.1 hb2
      refine aw_seq ?_
      refine aw_region ?_
      refine g_u (s_as_imm rfl rfl) ?_
      refine g_nil ?_
      refine normal_thn ?_
      refine aw_ret ?_
      refine ret_thn ?_
      exact ⟨⟨(rfl : toAV (Al.look _ _) = some _).trans (congrArg some (by (exact congrArg iv (by unfold keyC; (repeat' split) <;> first | rfl | omega)))), rfl⟩, trivial⟩
    · skip
      have q := bne_eq_false_iff_eq.1 hb2
      refine aw_skip ?_
      refine normal_thn ?_
      refine aw_seq ?_
      refine aw_seq ?_
      refine aw_region ?_
      refine g_u (s_mv_imm rfl rfl) ?_
      refine g_u (s_lenS rfl rfl Tryd.underlying9) ?_
      refine g_u (s_gtI rfl rfl rfl) ?_
      refine g_nil ?_
      refine normal_thn ?_
      refine aw_cond rfl (fun hb3 => ?_) (fun hb3 => ?_)
      · skip
        have q := of_decide_eq_true hb3
        refine aw_seq ?_
        refine aw_region ?_
        refine g_u (s_as_imm rfl rfl) ?_
        refine g_nil ?_
        refine normal_thn ?_
        refine aw_ret ?_
        refine ret_thn ?_
        exact ⟨⟨(rfl : toAV (Al.look _ _) = some _).trans (congrArg some (by (exact congrArg iv (by unfold keyC; (repeat' split) <;> first | rfl | omega)))), rfl⟩, trivial⟩
      · skip
        have q := of_decide_eq_false hb3
        refine aw_skip ?_
        refine normal_thn ?_
        refine aw_seq ?_
        refine aw_region ?_
        refine g_u (s_as_imm rfl rfl) ?_
        refine g_nil ?_
        refine normal_thn ?_
        refine aw_ret ?_
        exact ⟨⟨(rfl : toAV (Al.look _ _) = some _).trans (congrArg some (by (exact congrArg iv (by unfold keyC; (repeat' split) <;> first | rfl | omega)))), rfl⟩, trivial⟩

set_option maxHeartbeats 2000000 in
theorem bare_c (v : GV) : PCall Tryd.prog Γ0 191 [v.av] [(bareV v).av] := by
  refine pcall_of Tryd.func191 rfl Tryd.ntmps191 (by kernel_rfl) rfl fun w0 I0 G0 => ?_
  refine aw_seq ?_
  refine aw_region ?_
  refine g_uG (s_box_imm 1001 rfl rfl rfl rfl) rfl ?_
  refine g_uG (s_alloc' 1002 rfl rfl rfl tZ67) rfl ?_
  refine g_nil ?_
  refine normal_thn ?_
  refine aw_seq ?_
  refine aw_region ?_
  refine g_u (s_fieldAddr rfl rfl fa67_0 rfl) ?_
  refine g_u (s_load_imm rfl rfl rfl tA5 tS5 rfl rfl) ?_
  refine g_u (s_build rfl tU67 us67 pl67 rfl rfl rfl rfl) ?_
  refine g_uG (s_alloc' 1003 rfl rfl rfl tZ67) rfl ?_
  refine g_u (s_store_imm rfl rfl rfl tS67 rfl rfl) ?_
  refine g_nil ?_
  refine normal_thn ?_
  refine aw_seq ?_
  refine aw_seq ?_
  refine aw_region ?_
  refine g_u (s_fieldAddr rfl rfl fa67_0 rfl) ?_
  refine g_u (s_load_imm rfl rfl rfl tA5 tS5 rfl rfl) ?_
  refine g_nil ?_
  refine normal_thn ?_
  refine aw_block ?_
  refine aw_seq ?_
  refine aw_seq ?_
  refine aw_region ?_
  refine g_u (s_eqI rfl rfl rfl) ?_
  refine g_u (s_as_imm rfl rfl) ?_
  refine g_nil ?_
  refine normal_thn ?_
  refine aw_cond rfl (fun hb1 => ?_) (fun hb1 => ?_)
  · skip
    have q := beq_iff_eq.1 hb1
    refine aw_skip ?_
    refine normal_thn ?_
    refine aw_cond rfl (fun hb2 => ?_) (fun hb2 => ?_)
    · skip
      have q := beq_iff_eq.1 hb2
      refine aw_region ?_
      refine g_u (s_fieldAddr rfl rfl fa67_1 rfl) ?_
      refine g_u (s_load_imm rfl rfl rfl tA9 tS9 rfl rfl) ?_
      refine g_u (s_fieldAddr rfl rfl fa67_1 rfl) ?_
      refine g_u (s_store_imm rfl rfl rfl tS9 rfl rfl) ?_
      refine g_nil ?_
      refine normal_blk ?_
      refine normal_thn ?_
      refine aw_seq ?_
      refine aw_region ?_
      refine g_u (s_load_agg rfl rfl rfl tA67 tS67 rfl rfl) ?_
      refine g_u (s_store_imm rfl rfl rfl tS67 rfl rfl) ?_
      refine g_nil ?_
      refine normal_thn ?_
      refine aw_ret ?_
      exact ⟨⟨_, _, _, _, _, _, _, rfl, rfl, tA67, tS67, rfl, rfl, (rfl : toAV _ = some _).trans (congrArg some (by (first | (exfalso; omega) | (rw [show bareV v = .mk v.kind v.text 0 0 [] [] from by unfold bareV; rw [if_pos (by omega), if_neg (by omega), if_neg (by omega), if_neg (by omega), if_neg (by omega)]]; rfl) | (rw [show bareV v = .mk v.kind ⟨#[]⟩ v.num 0 [] [] from by unfold bareV; rw [if_neg (by omega), if_pos (by omega), if_neg (by omega), if_neg (by omega), if_neg (by omega)]]; rfl) | (rw [show bareV v = .mk v.kind ⟨#[]⟩ 0 v.bits [] [] from by unfold bareV; rw [if_neg (by omega), if_neg (by omega), if_pos (by omega), if_neg (by omega), if_neg (by omega)]]; rfl) | (rw [show bareV v = .mk v.kind ⟨#[]⟩ 0 0 v.list [] from by unfold bareV; rw [if_neg (by omega), if_neg (by omega), if_neg (by omega), if_pos (by omega), if_neg (by omega)]]; rfl) | (rw [show bareV v = .mk v.kind ⟨#[]⟩ 0 0 [] v.map from by unfold bareV; rw [if_neg (by omega), if_neg (by omega), if_neg (by omega), if_neg (by omega), if_pos (by omega)]]; rfl) | (rw [show bareV v = .mk v.kind ⟨#[]⟩ 0 0 [] [] from by unfold bareV; rw [if_neg (by omega), if_neg (by omega), if_neg (by omega), if_neg (by omega), if_neg (by omega)]]; rfl))))⟩, trivial⟩
    · skip
      have q := beq_eq_false_iff_ne.1 hb2
      refine aw_seq ?_
      refine aw_seq ?_
      refine aw_region ?_
      refine g_u (s_eqI rfl rfl rfl) ?_
      refine g_u (s_as_imm rfl rfl) ?_
      refine g_nil ?_
      refine normal_thn ?_
      refine aw_cond rfl (fun hb3 => ?_) (fun hb3 => ?_)
      · skip
        have q := beq_iff_eq.1 hb3
        refine aw_skip ?_
        refine normal_thn ?_
        refine aw_cond rfl (fun hb4 => ?_) (fun hb4 => ?_)
        · skip
          have q := beq_iff_eq.1 hb4
          refine aw_region ?_
          refine g_u (s_fieldAddr rfl rfl fa67_2 rfl) ?_
          refine g_u (s_load_imm rfl rfl rfl tA3 tS3 rfl rfl) ?_
          refine g_u (s_fieldAddr rfl rfl fa67_2 rfl) ?_
          refine g_u (s_store_imm rfl rfl rfl tS3 rfl rfl) ?_
          refine g_nil ?_
          refine normal_blk ?_
          refine normal_thn ?_
          refine aw_seq ?_
          refine aw_region ?_
          refine g_u (s_load_agg rfl rfl rfl tA67 tS67 rfl rfl) ?_
          refine g_u (s_store_imm rfl rfl rfl tS67 rfl rfl) ?_
          refine g_nil ?_
          refine normal_thn ?_
          refine aw_ret ?_
          exact ⟨⟨_, _, _, _, _, _, _, rfl, rfl, tA67, tS67, rfl, rfl, (rfl : toAV _ = some _).trans (congrArg some (by (first | (exfalso; omega) | (rw [show bareV v = .mk v.kind v.text 0 0 [] [] from by unfold bareV; rw [if_pos (by omega), if_neg (by omega), if_neg (by omega), if_neg (by omega), if_neg (by omega)]]; rfl) | (rw [show bareV v = .mk v.kind ⟨#[]⟩ v.num 0 [] [] from by unfold bareV; rw [if_neg (by omega), if_pos (by omega), if_neg (by omega), if_neg (by omega), if_neg (by omega)]]; rfl) | (rw [show bareV v = .mk v.kind ⟨#[]⟩ 0 v.bits [] [] from by unfold bareV; rw [if_neg (by omega), if_neg (by omega), if_pos (by omega), if_neg (by omega), if_neg (by omega)]]; rfl) | (rw [show bareV v = .mk v.kind ⟨#[]⟩ 0 0 v.list [] from by unfold bareV; rw [if_neg (by omega), if_neg (by omega), if_neg (by omega), if_pos (by omega), if_neg (by omega)]]; rfl) | (rw [show bareV v = .mk v.kind ⟨#[]⟩ 0 0 [] v.map from by unfold bareV; rw [if_neg (by omega), if_neg (by omega), if_neg (by omega), if_neg (by omega), if_pos (by omega)]]; rfl) | (rw [show bareV v = .mk v.kind ⟨#[]⟩ 0 0 [] [] from by unfold bareV; rw [if_neg (by omega), if_neg (by omega), if_neg (by omega), if_neg (by omega), if_neg (by omega)]]; rfl))))⟩, trivial⟩
        · skip
          have q := beq_eq_false_iff_ne.1 hb4
          refine aw_seq ?_
          refine aw_region ?_
          refine g_u (s_eqI rfl rfl rfl) ?_
          refine g_u (s_as_imm rfl rfl) ?_
          refine g_nil ?_
          refine normal_thn ?_
          refine aw_cond rfl (fun hb5 => ?_) (fun hb5 => ?_)
          · skip
            have q := beq_iff_eq.1 hb5
            refine aw_region ?_
            refine g_u (s_fieldAddr rfl rfl fa67_3 rfl) ?_
            refine g_u (s_load_imm rfl rfl rfl tA29 tS29 rfl rfl) ?_
            refine g_u (s_fieldAddr rfl rfl fa67_3 rfl) ?_
            refine g_u (s_store_imm rfl rfl rfl tS29 rfl rfl) ?_
            refine g_nil ?_
            refine normal_blk ?_
            refine normal_thn ?_
            refine aw_seq ?_
            refine aw_region ?_
            refine g_u (s_load_agg rfl rfl rfl tA67 tS67 rfl rfl) ?_
            refine g_u (s_store_imm rfl rfl rfl tS67 rfl rfl) ?_
            refine g_nil ?_
            refine normal_thn ?_
            refine aw_ret ?_
            exact ⟨⟨_, _, _, _, _, _, _, rfl, rfl, tA67, tS67, rfl, rfl, (rfl : toAV _ = some _).trans (congrArg some (by (first | (exfalso; omega) | (rw [show bareV v = .mk v.kind v.text 0 0 [] [] from by unfold bareV; rw [if_pos (by omega), if_neg (by omega), if_neg (by omega), if_neg (by omega), if_neg (by omega)]]; rfl) | (rw [show bareV v = .mk v.kind ⟨#[]⟩ v.num 0 [] [] from by unfold bareV; rw [if_neg (by omega), if_pos (by omega), if_neg (by omega), if_neg (by omega), if_neg (by omega)]]; rfl) | (rw [show bareV v = .mk v.kind ⟨#[]⟩ 0 v.bits [] [] from by unfold bareV; rw [if_neg (by omega), if_neg (by omega), if_pos (by omega), if_neg (by omega), if_neg (by omega)]]; rfl) | (rw [show bareV v = .mk v.kind ⟨#[]⟩ 0 0 v.list [] from by unfold bareV; rw [if_neg (by omega), if_neg (by omega), if_neg (by omega), if_pos (by omega), if_neg (by omega)]]; rfl) | (rw [show bareV v = .mk v.kind ⟨#[]⟩ 0 0 [] v.map from by unfold bareV; rw [if_neg (by omega), if_neg (by omega), if_neg (by omega), if_neg (by omega), if_pos (by omega)]]; rfl) | (rw [show bareV v = .mk v.kind ⟨#[]⟩ 0 0 [] [] from by unfold bareV; rw [if_neg (by omega), if_neg (by omega), if_neg (by omega), if_neg (by omega), if_neg (by omega)]]; rfl))))⟩, trivial⟩
          · skip
            have q := beq_eq_false_iff_ne.1 hb5
            refine aw_seq ?_
            refine aw_region ?_
            refine g_u (s_eqI rfl rfl rfl) ?_
            refine g_u (s_as_imm rfl rfl) ?_
            refine g_nil ?_
            refine normal_thn ?_
            refine aw_cond rfl (fun hb6 => ?_) (fun hb6 => ?_)
            · skip
              have q := beq_iff_eq.1 hb6
              refine aw_region ?_
              refine g_u (s_fieldAddr rfl rfl fa67_4 rfl) ?_
              refine g_u (s_load_imm rfl rfl rfl tA65 tS65 rfl rfl) ?_
              refine g_u (s_fieldAddr rfl rfl fa67_4 rfl) ?_
              refine g_u (s_store_imm rfl rfl rfl tS65 rfl rfl) ?_
              refine g_nil ?_
              refine normal_blk ?_
              refine normal_thn ?_
              refine aw_seq ?_
              refine aw_region ?_
              refine g_u (s_load_agg rfl rfl rfl tA67 tS67 rfl rfl) ?_
              refine g_u (s_store_imm rfl rfl rfl tS67 rfl rfl) ?_
              refine g_nil ?_
              refine normal_thn ?_
              refine aw_ret ?_
              exact ⟨⟨_, _, _, _, _, _, _, rfl, rfl, tA67, tS67, rfl, rfl, (rfl : toAV _ = some _).trans (congrArg some (by (first | (exfalso; omega) | (rw [show bareV v = .mk v.kind v.text 0 0 [] [] from by unfold bareV; rw [if_pos (by omega), if_neg (by omega), if_neg (by omega), if_neg (by omega), if_neg (by omega)]]; rfl) | (rw [show bareV v = .mk v.kind ⟨#[]⟩ v.num 0 [] [] from by unfold bareV; rw [if_neg (by omega), if_pos (by omega), if_neg (by omega), if_neg (by omega), if_neg (by omega)]]; rfl) | (rw [show bareV v = .mk v.kind ⟨#[]⟩ 0 v.bits [] [] from by unfold bareV; rw [if_neg (by omega), if_neg (by omega), if_pos (by omega), if_neg (by omega), if_neg (by omega)]]; rfl) | (rw [show bareV v = .mk v.kind ⟨#[]⟩ 0 0 v.list [] from by unfold bareV; rw [if_neg (by omega), if_neg (by omega), if_neg (by omega), if_pos (by omega), if_neg (by omega)]]; rfl) | (rw [show bareV v = .mk v.kind ⟨#[]⟩ 0 0 [] v.map from by unfold bareV; rw [if_neg (by omega), if_neg (by omega), if_neg (by omega), if_neg (by omega), if_pos (by omega)]]; rfl) | (rw [show bareV v = .mk v.kind ⟨#[]⟩ 0 0 [] [] from by unfold bareV; rw [if_neg (by omega), if_neg (by omega), if_neg (by omega), if_neg (by omega), if_neg (by omega)]]; rfl))))⟩, trivial⟩
            · skip
              have q := beq_eq_false_iff_ne.1 hb6
              refine aw_seq ?_
              refine aw_region ?_
              refine g_u (s_eqI rfl rfl rfl) ?_
              refine g_u (s_as_imm rfl rfl) ?_
              refine g_nil ?_
              refine normal_thn ?_
              refine aw_cond rfl (fun hb7 => ?_) (fun hb7 => ?_)
              · skip
                have q := beq_iff_eq.1 hb7
                refine aw_region ?_
                refine g_u (s_fieldAddr rfl rfl fa67_5 rfl) ?_
                refine g_u (s_load_imm rfl rfl rfl tA30 tS30 rfl rfl) ?_
                refine g_u (s_fieldAddr rfl rfl fa67_5 rfl) ?_
                refine g_u (s_store_imm rfl rfl rfl tS30 rfl rfl) ?_
                refine g_nil ?_
                refine normal_blk ?_
                refine normal_thn ?_
                refine aw_seq ?_
                refine aw_region ?_
                refine g_u (s_load_agg rfl rfl rfl tA67 tS67 rfl rfl) ?_
                refine g_u (s_store_imm rfl rfl rfl tS67 rfl rfl) ?_
                refine g_nil ?_
                refine normal_thn ?_
                refine aw_ret ?_
                exact ⟨⟨_, _, _, _, _, _, _, rfl, rfl, tA67, tS67, rfl, rfl, (rfl : toAV _ = some _).trans (congrArg some (by (first | (exfalso; omega) | (rw [show bareV v = .mk v.kind v.text 0 0 [] [] from by unfold bareV; rw [if_pos (by omega), if_neg (by omega), if_neg (by omega), if_neg (by omega), if_neg (by omega)]]; rfl) | (rw [show bareV v = .mk v.kind ⟨#[]⟩ v.num 0 [] [] from by unfold bareV; rw [if_neg (by omega), if_pos (by omega), if_neg (by omega), if_neg (by omega), if_neg (by omega)]]; rfl) | (rw [show bareV v = .mk v.kind ⟨#[]⟩ 0 v.bits [] [] from by unfold bareV; rw [if_neg (by omega), if_neg (by omega), if_pos (by omega), if_neg (by omega), if_neg (by omega)]]; rfl) | (rw [show bareV v = .mk v.kind ⟨#[]⟩ 0 0 v.list [] from by unfold bareV; rw [if_neg (by omega), if_neg (by omega), if_neg (by omega), if_pos (by omega), if_neg (by omega)]]; rfl) | (rw [show bareV v = .mk v.kind ⟨#[]⟩ 0 0 [] v.map from by unfold bareV; rw [if_neg (by omega), if_neg (by omega), if_neg (by omega), if_neg (by omega), if_pos (by omega)]]; rfl) | (rw [show bareV v = .mk v.kind ⟨#[]⟩ 0 0 [] [] from by unfold bareV; rw [if_neg (by omega), if_neg (by omega), if_neg (by omega), if_neg (by omega), if_neg (by omega)]]; rfl))))⟩, trivial⟩
              · skip
                have q := beq_eq_false_iff_ne.1 hb7
                refine aw_skip ?_
                refine normal_blk ?_
                refine normal_thn ?_
                refine aw_seq ?_
                refine aw_region ?_
                refine g_u (s_load_agg rfl rfl rfl tA67 tS67 rfl rfl) ?_
                refine g_u (s_store_imm rfl rfl rfl tS67 rfl rfl) ?_
                refine g_nil ?_
                refine normal_thn ?_
                refine aw_ret ?_
                exact ⟨⟨_, _, _, _, _, _, _, rfl, rfl, tA67, tS67, rfl, rfl, (rfl : toAV _ = some _).trans (congrArg some (by (first | (exfalso; omega) | (rw [show bareV v = .mk v.kind v.text 0 0 [] [] from by unfold bareV; rw [if_pos (by omega), if_neg (by omega), if_neg (by omega), if_neg (by omega), if_neg (by omega)]]; rfl) | (rw [show bareV v = .mk v.kind ⟨#[]⟩ v.num 0 [] [] from by unfold bareV; rw [if_neg (by omega), if_pos (by omega), if_neg (by omega), if_neg (by omega), if_neg (by omega)]]; rfl) | (rw [show bareV v = .mk v.kind ⟨#[]⟩ 0 v.bits [] [] from by unfold bareV; rw [if_neg (by omega), if_neg (by omega), if_pos (by omega), if_neg (by omega), if_neg (by omega)]]; rfl) | (rw [show bareV v = .mk v.kind ⟨#[]⟩ 0 0 v.list [] from by unfold bareV; rw [if_neg (by omega), if_neg (by omega), if_neg (by omega), if_pos (by omega), if_neg (by omega)]]; rfl) | (rw [show bareV v = .mk v.kind ⟨#[]⟩ 0 0 [] v.map from by unfold bareV; rw [if_neg (by omega), if_neg (by omega), if_neg (by omega), if_neg (by omega), if_pos (by omega)]]; rfl) | (rw [show bareV v = .mk v.kind ⟨#[]⟩ 0 0 [] [] from by unfold bareV; rw [if_neg (by omega), if_neg (by omega), if_neg (by omega), if_neg (by omega), if_neg (by omega)]]; rfl))))⟩, trivial⟩
      · skip
        have q := beq_eq_false_iff_ne.1 hb3
        refine aw_region ?_
        refine g_u (s_eqI rfl rfl rfl) ?_
        refine g_u (s_as_imm rfl rfl) ?_
        refine g_nil ?_
        refine normal_thn ?_
        refine aw_cond rfl (fun hb8 => ?_) (fun hb8 => ?_)
        · skip
          have q := beq_iff_eq.1 hb8
          refine aw_region ?_
          refine g_u (s_fieldAddr rfl rfl fa67_2 rfl) ?_
          refine g_u (s_load_imm rfl rfl rfl tA3 tS3 rfl rfl) ?_
          refine g_u (s_fieldAddr rfl rfl fa67_2 rfl) ?_
          refine g_u (s_store_imm rfl rfl rfl tS3 rfl rfl) ?_
          refine g_nil ?_
          refine normal_blk ?_
          refine normal_thn ?_
          refine aw_seq ?_
          refine aw_region ?_
          refine g_u (s_load_agg rfl rfl rfl tA67 tS67 rfl rfl) ?_
          refine g_u (s_store_imm rfl rfl rfl tS67 rfl rfl) ?_
          refine g_nil ?_
          refine normal_thn ?_
          refine aw_ret ?_
          exact ⟨⟨_, _, _, _, _, _, _, rfl, rfl, tA67, tS67, rfl, rfl, (rfl : toAV _ = some _).trans (congrArg some (by (first | (exfalso; omega) | (rw [show bareV v = .mk v.kind v.text 0 0 [] [] from by unfold bareV; rw [if_pos (by omega), if_neg (by omega), if_neg (by omega), if_neg (by omega), if_neg (by omega)]]; rfl) | (rw [show bareV v = .mk v.kind ⟨#[]⟩ v.num 0 [] [] from by unfold bareV; rw [if_neg (by omega), if_pos (by omega), if_neg (by omega), if_neg (by omega), if_neg (by omega)]]; rfl) | (rw [show bareV v = .mk v.kind ⟨#[]⟩ 0 v.bits [] [] from by unfold bareV; rw [if_neg (by omega), if_neg (by omega), if_pos (by omega), if_neg (by omega), if_neg (by omega)]]; rfl) | (rw [show bareV v = .mk v.kind ⟨#[]⟩ 0 0 v.list [] from by unfold bareV; rw [if_neg (by omega), if_neg (by omega), if_neg (by omega), if_pos (by omega), if_neg (by omega)]]; rfl) | (rw [show bareV v = .mk v.kind ⟨#[]⟩ 0 0 [] v.map from by unfold bareV; rw [if_neg (by omega), if_neg (by omega), if_neg (by omega), if_neg (by omega), if_pos (by omega)]]; rfl) | (rw [show bareV v = .mk v.kind ⟨#[]⟩ 0 0 [] [] from by unfold bareV; rw [if_neg (by omega), if_neg (by omega), if_neg (by omega), if_neg (by omega), if_neg (by omega)]]; rfl))))⟩, trivial⟩
        · skip
          have q := beq_eq_false_iff_ne.1 hb8
          refine aw_seq ?_
          refine aw_region ?_
          refine g_u (s_eqI rfl rfl rfl) ?_
          refine g_u (s_as_imm rfl rfl) ?_
          refine g_nil ?_
          refine normal_thn ?_
          refine aw_cond rfl (fun hb9 => ?_) (fun hb9 => ?_)
          · skip
            have q := beq_iff_eq.1 hb9
            refine aw_region ?_
            refine g_u (s_fieldAddr rfl rfl fa67_3 rfl) ?_
            refine g_u (s_load_imm rfl rfl rfl tA29 tS29 rfl rfl) ?_
            refine g_u (s_fieldAddr rfl rfl fa67_3 rfl) ?_
            refine g_u (s_store_imm rfl rfl rfl tS29 rfl rfl) ?_
            refine g_nil ?_
            refine normal_blk ?_
            refine normal_thn ?_
            refine aw_seq ?_
            refine aw_region ?_
            refine g_u (s_load_agg rfl rfl rfl tA67 tS67 rfl rfl) ?_
            refine g_u (s_store_imm rfl rfl rfl tS67 rfl rfl) ?_
            refine g_nil ?_
            refine normal_thn ?_
            refine aw_ret ?_
            exact ⟨⟨_, _, _, _, _, _, _, rfl, rfl, tA67, tS67, rfl, rfl, (rfl : toAV _ = some _).trans (congrArg some (by (first | (exfalso; omega) | (rw [show bareV v = .mk v.kind v.text 0 0 [] [] from by unfold bareV; rw [if_pos (by omega), if_neg (by omega), if_neg (by omega), if_neg (by omega), if_neg (by omega)]]; rfl) | (rw [show bareV v = .mk v.kind ⟨#[]⟩ v.num 0 [] [] from by unfold bareV; rw [if_neg (by omega), if_pos (by omega), if_neg (by omega), if_neg (by omega), if_neg (by omega)]]; rfl) | (rw [show bareV v = .mk v.kind ⟨#[]⟩ 0 v.bits [] [] from by unfold bareV; rw [if_neg (by omega), if_neg (by omega), if_pos (by omega), if_neg (by omega), if_neg (by omega)]]; rfl) | (rw [show bareV v = .mk v.kind ⟨#[]⟩ 0 0 v.list [] from by unfold bareV; rw [if_neg (by omega), if_neg (by omega), if_neg (by omega), if_pos (by omega), if_neg (by omega)]]; rfl) | (rw [show bareV v = .mk v.kind ⟨#[]⟩ 0 0 [] v.map from by unfold bareV; rw [if_neg (by omega), if_neg (by omega), if_neg (by omega), if_neg (by omega), if_pos (by omega)]]; rfl) | (rw [show bareV v = .mk v.kind ⟨#[]⟩ 0 0 [] [] from by unfold bareV; rw [if_neg (by omega), if_neg (by omega), if_neg (by omega), if_neg (by omega), if_neg (by omega)]]; rfl))))⟩, trivial⟩
          · skip
            have q := beq_eq_false_iff_ne.1 hb9
            refine aw_seq ?_
            refine aw_region ?_
            refine g_u (s_eqI rfl rfl rfl) ?_
            refine g_u (s_as_imm rfl rfl) ?_
            refine g_nil ?_
            refine normal_thn ?_
            refine aw_cond rfl (fun hb10 => ?_) (fun hb10 => ?_)
            · skip
              have q := beq_iff_eq.1 hb10
              refine aw_region ?_
              refine g_u (s_fieldAddr rfl rfl fa67_4 rfl) ?_
              refine g_u (s_load_imm rfl rfl rfl tA65 tS65 rfl rfl) ?_
              refine g_u (s_fieldAddr rfl rfl fa67_4 rfl) ?_
              refine g_u (s_store_imm rfl rfl rfl tS65 rfl rfl) ?_
              refine g_nil ?_
              refine normal_blk ?_
              refine normal_thn ?_
              refine aw_seq ?_
              refine aw_region ?_
              refine g_u (s_load_agg rfl rfl rfl tA67 tS67 rfl rfl) ?_
              refine g_u (s_store_imm rfl rfl rfl tS67 rfl rfl) ?_
              refine g_nil ?_
              refine normal_thn ?_
              refine aw_ret ?_
              exact ⟨⟨_, _, _, _, _, _, _, rfl, rfl, tA67, tS67, rfl, rfl, (rfl : toAV _ = some _).trans (congrArg some (by (first | (exfalso; omega) | (rw [show bareV v = .mk v.kind v.text 0 0 [] [] from by unfold bareV; rw [if_pos (by omega), if_neg (by omega), if_neg (by omega), if_neg (by omega), if_neg (by omega)]]; rfl) | (rw [show bareV v = .mk v.kind ⟨#[]⟩ v.num 0 [] [] from by unfold bareV; rw [if_neg (by omega), if_pos (by omega), if_neg (by omega), if_neg (by omega), if_neg (by omega)]]; rfl) | (rw [show bareV v = .mk v.kind ⟨#[]⟩ 0 v.bits [] [] from by unfold bareV; rw [if_neg (by omega), if_neg (by omega), if_pos (by omega), if_neg (by omega), if_neg (by omega)]]; rfl) | (rw [show bareV v = .mk v.kind ⟨#[]⟩ 0 0 v.list [] from by unfold bareV; rw [if_neg (by omega), if_neg (by omega), if_neg (by omega), if_pos (by omega), if_neg (by omega)]]; rfl) | (rw [show bareV v = .mk v.kind ⟨#[]⟩ 0 0 [] v.map from by unfold bareV; rw [if_neg (by omega), if_neg (by omega), if_neg (by omega), if_neg (by omega), if_pos (by omega)]]; rfl) | (rw [show bareV v = .mk v.kind ⟨#[]⟩ 0 0 [] [] from by unfold bareV; rw [if_neg (by omega), if_neg (by omega), if_neg (by omega), if_neg (by omega), if_neg (by omega)]]; rfl))))⟩, trivial⟩
            · skip
              have q := beq_eq_false_iff_ne.1 hb10
              refine aw_seq ?_
              refine aw_region ?_
              refine g_u (s_eqI rfl rfl rfl) ?_
              refine g_u (s_as_imm rfl rfl) ?_
              refine g_nil ?_
              refine normal_thn ?_
              refine aw_cond rfl (fun hb11 => ?_) (fun hb11 => ?_)
              · skip
                have q := beq_iff_eq.1 hb11
                refine aw_region ?_
                refine g_u (s_fieldAddr rfl rfl fa67_5 rfl) ?_
                refine g_u (s_load_imm rfl rfl rfl tA30 tS30 rfl rfl) ?_
                refine g_u (s_fieldAddr rfl rfl fa67_5 rfl) ?_
                refine g_u (s_store_imm rfl rfl rfl tS30 rfl rfl) ?_
                refine g_nil ?_
                refine normal_blk ?_
                refine normal_thn ?_
                refine aw_seq ?_
                refine aw_region ?_
                refine g_u (s_load_agg rfl rfl rfl tA67 tS67 rfl rfl) ?_
                refine g_u (s_store_imm rfl rfl rfl tS67 rfl rfl) ?_
                refine g_nil ?_
                refine normal_thn ?_
                refine aw_ret ?_
                exact ⟨⟨_, _, _, _, _, _, _, rfl, rfl, tA67, tS67, rfl, rfl, (rfl : toAV _ = some _).trans (congrArg some (by (first | (exfalso; omega) | (rw [show bareV v = .mk v.kind v.text 0 0 [] [] from by unfold bareV; rw [if_pos (by omega), if_neg (by omega), if_neg (by omega), if_neg (by omega), if_neg (by omega)]]; rfl) | (rw [show bareV v = .mk v.kind ⟨#[]⟩ v.num 0 [] [] from by unfold bareV; rw [if_neg (by omega), if_pos (by omega), if_neg (by omega), if_neg (by omega), if_neg (by omega)]]; rfl) | (rw [show bareV v = .mk v.kind ⟨#[]⟩ 0 v.bits [] [] from by unfold bareV; rw [if_neg (by omega), if_neg (by omega), if_pos (by omega), if_neg (by omega), if_neg (by omega)]]; rfl) | (rw [show bareV v = .mk v.kind ⟨#[]⟩ 0 0 v.list [] from by unfold bareV; rw [if_neg (by omega), if_neg (by omega), if_neg (by omega), if_pos (by omega), if_neg (by omega)]]; rfl) | (rw [show bareV v = .mk v.kind ⟨#[]⟩ 0 0 [] v.map from by unfold bareV; rw [if_neg (by omega), if_neg (by omega), if_neg (by omega), if_neg (by omega), if_pos (by omega)]]; rfl) | (rw [show bareV v = .mk v.kind ⟨#[]⟩ 0 0 [] [] from by unfold bareV; rw [if_neg (by omega), if_neg (by omega), if_neg (by omega), if_neg (by omega), if_neg (by omega)]]; rfl))))⟩, trivial⟩
              · skip
                have q := beq_eq_false_iff_ne.1 hb11
                refine aw_skip ?_
                refine normal_blk ?_
                refine normal_thn ?_
                refine aw_seq ?_
                refine aw_region ?_
                refine g_u (s_load_agg rfl rfl rfl tA67 tS67 rfl rfl) ?_
                refine g_u (s_store_imm rfl rfl rfl tS67 rfl rfl) ?_
                refine g_nil ?_
                refine normal_thn ?_
                refine aw_ret ?_
                exact ⟨⟨_, _, _, _, _, _, _, rfl, rfl, tA67, tS67, rfl, rfl, (rfl : toAV _ = some _).trans (congrArg some (by (first | (exfalso; omega) | (rw [show bareV v = .mk v.kind v.text 0 0 [] [] from by unfold bareV; rw [if_pos (by omega), if_neg (by omega), if_neg (by omega), if_neg (by omega), if_neg (by omega)]]; rfl) | (rw [show bareV v = .mk v.kind ⟨#[]⟩ v.num 0 [] [] from by unfold bareV; rw [if_neg (by omega), if_pos (by omega), if_neg (by omega), if_neg (by omega), if_neg (by omega)]]; rfl) | (rw [show bareV v = .mk v.kind ⟨#[]⟩ 0 v.bits [] [] from by unfold bareV; rw [if_neg (by omega), if_neg (by omega), if_pos (by omega), if_neg (by omega), if_neg (by omega)]]; rfl) | (rw [show bareV v = .mk v.kind ⟨#[]⟩ 0 0 v.list [] from by unfold bareV; rw [if_neg (by omega), if_neg (by omega), if_neg (by omega), if_pos (by omega), if_neg (by omega)]]; rfl) | (rw [show bareV v = .mk v.kind ⟨#[]⟩ 0 0 [] v.map from by unfold bareV; rw [if_neg (by omega), if_neg (by omega), if_neg (by omega), if_neg (by omega), if_pos (by omega)]]; rfl) | (rw [show bareV v = .mk v.kind ⟨#[]⟩ 0 0 [] [] from by unfold bareV; rw [if_neg (by omega), if_neg (by omega), if_neg (by omega), if_neg (by omega), if_neg (by omega)]]; rfl))))⟩, trivial⟩
  · skip
    have q := beq_eq_false_iff_ne.1 hb1
    refine aw_region ?_
    refine g_u (s_eqI rfl rfl rfl) ?_
    refine g_u (s_as_imm rfl rfl) ?_
    refine g_nil ?_
    refine normal_thn ?_
    refine aw_cond rfl (fun hb12 => ?_) (fun hb12 => ?_)
    · skip
      have q := beq_iff_eq.1 hb12
      refine aw_region ?_
      refine g_u (s_fieldAddr rfl rfl fa67_1 rfl) ?_
      refine g_u (s_load_imm rfl rfl rfl tA9 tS9 rfl rfl) ?_
      refine g_u (s_fieldAddr rfl rfl fa67_1 rfl) ?_
      refine g_u (s_store_imm rfl rfl rfl tS9 rfl rfl) ?_
      refine g_nil ?_
      refine normal_blk ?_
      refine normal_thn ?_
      refine aw_seq ?_
      refine aw_region ?_
      refine g_u (s_load_agg rfl rfl rfl tA67 tS67 rfl rfl) ?_
      refine g_u (s_store_imm rfl rfl rfl tS67 rfl rfl) ?_
      refine g_nil ?_
      refine normal_thn ?_
      refine aw_ret ?_
      exact ⟨⟨_, _, _, _, _, _, _, rfl, rfl, tA67, tS67, rfl, rfl, (rfl : toAV _ = some _).trans (congrArg some (by (first | (exfalso; omega) | (rw [show bareV v = .mk v.kind v.text 0 0 [] [] from by unfold bareV; rw [if_pos (by omega), if_neg (by omega), if_neg (by omega), if_neg (by omega), if_neg (by omega)]]; rfl) | (rw [show bareV v = .mk v.kind ⟨#[]⟩ v.num 0 [] [] from by unfold bareV; rw [if_neg (by omega), if_pos (by omega), if_neg (by omega), if_neg (by omega), if_neg (by omega)]]; rfl) | (rw [show bareV v = .mk v.kind ⟨#[]⟩ 0 v.bits [] [] from by unfold bareV; rw [if_neg (by omega), if_neg (by omega), if_pos (by omega), if_neg (by omega), if_neg (by omega)]]; rfl) | (rw [show bareV v = .mk v.kind ⟨#[]⟩ 0 0 v.list [] from by unfold bareV; rw [if_neg (by omega), if_neg (by omega), if_neg (by omega), if_pos (by omega), if_neg (by omega)]]; rfl) | (rw [show bareV v = .mk v.kind ⟨#[]⟩ 0 0 [] v.map from by unfold bareV; rw [if_neg (by omega), if_neg (by omega), if_neg (by omega), if_neg (by omega), if_pos (by omega)]]; rfl) | (rw [show bareV v = .mk v.kind ⟨#[]⟩ 0 0 [] [] from by unfold bareV; rw [if_neg (by omega), if_neg (by omega), if_neg (by omega), if_neg (by omega), if_neg (by omega)]]; rfl))))⟩, trivial⟩
    · skip
      have q := beq_eq_false_iff_ne.1 hb12
      refine aw_seq ?_
      refine aw_seq ?_
      refine aw_region ?_
      refine g_u (s_eqI rfl rfl rfl) ?_
      refine g_u (s_as_imm rfl rfl) ?_
      refine g_nil ?_
      refine normal_thn ?_
      refine aw_cond rfl (fun hb13 => ?_) (fun hb13 => ?_)
      · skip
        have q := beq_iff_eq.1 hb13
        refine aw_skip ?_
        refine normal_thn ?_
        refine aw_cond rfl (fun hb14 => ?_) (fun hb14 => ?_)
        · skip
          have q := beq_iff_eq.1 hb14
          refine aw_region ?_
          refine g_u (s_fieldAddr rfl rfl fa67_2 rfl) ?_
          refine g_u (s_load_imm rfl rfl rfl tA3 tS3 rfl rfl) ?_
          refine g_u (s_fieldAddr rfl rfl fa67_2 rfl) ?_
          refine g_u (s_store_imm rfl rfl rfl tS3 rfl rfl) ?_
          refine g_nil ?_
          refine normal_blk ?_
          refine normal_thn ?_
          refine aw_seq ?_
          refine aw_region ?_
          refine g_u (s_load_agg rfl rfl rfl tA67 tS67 rfl rfl) ?_
          refine g_u (s_store_imm rfl rfl rfl tS67 rfl rfl) ?_
          refine g_nil ?_
          refine normal_thn ?_
          refine aw_ret ?_
          exact ⟨⟨_, _, _, _, _, _, _, rfl, rfl, tA67, tS67, rfl, rfl, (rfl : toAV _ = some _).trans (congrArg some (by (first | (exfalso; omega) | (rw [show bareV v = .mk v.kind v.text 0 0 [] [] from by unfold bareV; rw [if_pos (by omega), if_neg (by omega), if_neg (by omega), if_neg (by omega), if_neg (by omega)]]; rfl) | (rw [show bareV v = .mk v.kind ⟨#[]⟩ v.num 0 [] [] from by unfold bareV; rw [if_neg (by omega), if_pos (by omega), if_neg (by omega), if_neg (by omega), if_neg (by omega)]]; rfl) | (rw [show bareV v = .mk v.kind ⟨#[]⟩ 0 v.bits [] [] from by unfold bareV; rw [if_neg (by omega), if_neg (by omega), if_pos (by omega), if_neg (by omega), if_neg (by omega)]]; rfl) | (rw [show bareV v = .mk v.kind ⟨#[]⟩ 0 0 v.list [] from by unfold bareV; rw [if_neg (by omega), if_neg (by omega), if_neg (by omega), if_pos (by omega), if_neg (by omega)]]; rfl) | (rw [show bareV v = .mk v.kind ⟨#[]⟩ 0 0 [] v.map from by unfold bareV; rw [if_neg (by omega), if_neg (by omega), if_neg (by omega), if_neg (by omega), if_pos (by omega)]]; rfl) | (rw [show bareV v = .mk v.kind ⟨#[]⟩ 0 0 [] [] from by unfold bareV; rw [if_neg (by omega), if_neg (by omega), if_neg (by omega), if_neg (by omega), if_neg (by omega)]]; rfl))))⟩, trivial⟩
        · skip
          have q := beq_eq_false_iff_ne.1 hb14
          refine aw_seq ?_
          refine aw_region ?_
          refine g_u (s_eqI rfl rfl rfl) ?_
          refine g_u (s_as_imm rfl rfl) ?_
          refine g_nil ?_
          refine normal_thn ?_
          refine aw_cond rfl (fun hb15 => ?_) (fun hb15 => ?_)
          · skip
            have q := beq_iff_eq.1 hb15
            refine aw_region ?_
            refine g_u (s_fieldAddr rfl rfl fa67_3 rfl) ?_
            refine g_u (s_load_imm rfl rfl rfl tA29 tS29 rfl rfl) ?_
            refine g_u (s_fieldAddr rfl rfl fa67_3 rfl) ?_
            refine g_u (s_store_imm rfl rfl rfl tS29 rfl rfl) ?_
            refine g_nil ?_
            refine normal_blk ?_
            refine normal_thn ?_
            refine aw_seq ?_
            refine aw_region ?_
            refine g_u (s_load_agg rfl rfl rfl tA67 tS67 rfl rfl) ?_
            refine g_u (s_store_imm rfl rfl rfl tS67 rfl rfl) ?_
            refine g_nil ?_
            refine normal_thn ?_
            refine aw_ret ?_
            exact ⟨⟨_, _, _, _, _, _, _, rfl, rfl, tA67, tS67, rfl, rfl, (rfl : toAV _ = some _).trans (congrArg some (by (first | (exfalso; omega) | (rw [show bareV v = .mk v.kind v.text 0 0 [] [] from by unfold bareV; rw [if_pos (by omega), if_neg (by omega), if_neg (by omega), if_neg (by omega), if_neg (by omega)]]; rfl) | (rw [show bareV v = .mk v.kind ⟨#[]⟩ v.num 0 [] [] from by unfold bareV; rw [if_neg (by omega), if_pos (by omega), if_neg (by omega), if_neg (by omega), if_neg (by omega)]]; rfl) | (rw [show bareV v = .mk v.kind ⟨#[]⟩ 0 v.bits [] [] from by unfold bareV; rw [if_neg (by omega), if_neg (by omega), if_pos (by omega), if_neg (by omega), if_neg (by omega)]]; rfl) | (rw [show bareV v = .mk v.kind ⟨#[]⟩ 0 0 v.list [] from by unfold bareV; rw [if_neg (by omega), if_neg (by omega), if_neg (by omega), if_pos (by omega), if_neg (by omega)]]; rfl) | (rw [show bareV v = .mk v.kind ⟨#[]⟩ 0 0 [] v.map from by unfold bareV; rw [if_neg (by omega), if_neg (by omega), if_neg (by omega), if_neg (by omega), if_pos (by omega)]]; rfl) | (rw [show bareV v = .mk v.kind ⟨#[]⟩ 0 0 [] [] from by unfold bareV; rw [if_neg (by omega), if_neg (by omega), if_neg (by omega), if_neg (by omega), if_neg (by omega)]]; rfl))))⟩, trivial⟩
          · skip
            have q := beq_eq_false_iff_ne.1 hb15
            refine aw_seq ?_
            refine aw_region ?_
            refine g_u (s_eqI rfl rfl rfl) ?_
            refine g_u (s_as_imm rfl rfl) ?_
            refine g_nil ?_
            refine normal_thn ?_
            refine aw_cond rfl (fun hb16 => ?_) (fun hb16 => ?_)
            · skip
              have q := beq_iff_eq.1 hb16
              refine aw_region ?_
              refine g_u (s_fieldAddr rfl rfl fa67_4 rfl) ?_
              refine g_u (s_load_imm rfl rfl rfl tA65 tS65 rfl rfl) ?_
              refine g_u (s_fieldAddr rfl rfl fa67_4 rfl) ?_
              refine g_u (s_store_imm rfl rfl rfl tS65 rfl rfl) ?_
              refine g_nil ?_
              refine normal_blk ?_
              refine normal_thn ?_
              refine aw_seq ?_
              refine aw_region ?_
              refine g_u (s_load_agg rfl rfl rfl tA67 tS67 rfl rfl) ?_
              refine g_u (s_store_imm rfl rfl rfl tS67 rfl rfl) ?_
              refine g_nil ?_
              refine normal_thn ?_
              refine aw_ret ?_
              exact ⟨⟨_, _, _, _, _, _, _, rfl, rfl, tA67, tS67, rfl, rfl, (rfl : toAV _ = some _).trans (congrArg some (by (first | (exfalso; omega) | (rw [show bareV v = .mk v.kind v.text 0 0 [] [] from by unfold bareV; rw [if_pos (by omega), if_neg (by omega), if_neg (by omega), if_neg (by omega), if_neg (by omega)]]; rfl) | (rw [show bareV v = .mk v.kind ⟨#[]⟩ v.num 0 [] [] from by unfold bareV; rw [if_neg (by omega), if_pos (by omega), if_neg (by omega), if_neg (by omega), if_neg (by omega)]]; rfl) | (rw [show bareV v = .mk v.kind ⟨#[]⟩ 0 v.bits [] [] from by unfold bareV; rw [if_neg (by omega), if_neg (by omega), if_pos (by omega), if_neg (by omega), if_neg (by omega)]]; rfl) | (rw [show bareV v = .mk v.kind ⟨#[]⟩ 0 0 v.list [] from by unfold bareV; rw [if_neg (by omega), if_neg (by omega), if_neg (by omega), if_pos (by omega), if_neg (by omega)]]; rfl) | (rw [show bareV v = .mk v.kind ⟨#[]⟩ 0 0 [] v.map from by unfold bareV; rw [if_neg (by omega), if_neg (by omega), if_neg (by omega), if_neg (by omega), if_pos (by omega)]]; rfl) | (rw [show bareV v = .mk v.kind ⟨#[]⟩ 0 0 [] [] from by unfold bareV; rw [if_neg (by omega), if_neg (by omega), if_neg (by omega), if_neg (by omega), if_neg (by omega)]]; rfl))))⟩, trivial⟩
            · skip
              have q := beq_eq_false_iff_ne.1 hb16
              refine aw_seq ?_
              refine aw_region ?_
              refine g_u (s_eqI rfl rfl rfl) ?_
              refine g_u (s_as_imm rfl rfl) ?_
              refine g_nil ?_
              refine normal_thn ?_
              refine aw_cond rfl (fun hb17 => ?_) (fun hb17 => ?_)
              · skip
                have q := beq_iff_eq.1 hb17
                refine aw_region ?_
                refine g_u (s_fieldAddr rfl rfl fa67_5 rfl) ?_
                refine g_u (s_load_imm rfl rfl rfl tA30 tS30 rfl rfl) ?_
                refine g_u (s_fieldAddr rfl rfl fa67_5 rfl) ?_
                refine g_u (s_store_imm rfl rfl rfl tS30 rfl rfl) ?_
                refine g_nil ?_
                refine normal_blk ?_
                refine normal_thn ?_
                refine aw_seq ?_
                refine aw_region ?_
                refine g_u (s_load_agg rfl rfl rfl tA67 tS67 rfl rfl) ?_
                refine g_u (s_store_imm rfl rfl rfl tS67 rfl rfl) ?_
                refine g_nil ?_
                refine normal_thn ?_
                refine aw_ret ?_
                exact ⟨⟨_, _, _, _, _, _, _, rfl, rfl, tA67, tS67, rfl, rfl, (rfl : toAV _ = some _).trans (congrArg some (by (first | (exfalso; omega) | (rw [show bareV v = .mk v.kind v.text 0 0 [] [] from by unfold bareV; rw [if_pos (by omega), if_neg (by omega), if_neg (by omega), if_neg (by omega), if_neg (by omega)]]; rfl) | (rw [show bareV v = .mk v.kind ⟨#[]⟩ v.num 0 [] [] from by unfold bareV; rw [if_neg (by omega), if_pos (by omega), if_neg (by omega), if_neg (by omega), if_neg (by omega)]]; rfl) | (rw [show bareV v = .mk v.kind ⟨#[]⟩ 0 v.bits [] [] from by unfold bareV; rw [if_neg (by omega), if_neg (by omega), if_pos (by omega), if_neg (by omega), if_neg (by omega)]]; rfl) | (rw [show bareV v = .mk v.kind ⟨#[]⟩ 0 0 v.list [] from by unfold bareV; rw [if_neg (by omega), if_neg (by omega), if_neg (by omega), if_pos (by omega), if_neg (by omega)]]; rfl) | (rw [show bareV v = .mk v.kind ⟨#[]⟩ 0 0 [] v.map from by unfold bareV; rw [if_neg (by omega), if_neg (by omega), if_neg (by omega), if_neg (by omega), if_pos (by omega)]]; rfl) | (rw [show bareV v = .mk v.kind ⟨#[]⟩ 0 0 [] [] from by unfold bareV; rw [if_neg (by omega), if_neg (by omega), if_neg (by omega), if_neg (by omega), if_neg (by omega)]]; rfl))))⟩, trivial⟩
              · skip
                have q := beq_eq_false_iff_ne.1 hb17
                refine aw_skip ?_
                refine normal_blk ?_
                refine normal_thn ?_
                refine aw_seq ?_
                refine aw_region ?_
                refine g_u (s_load_agg rfl rfl rfl tA67 tS67 rfl rfl) ?_
                refine g_u (s_store_imm rfl rfl rfl tS67 rfl rfl) ?_
                refine g_nil ?_
                refine normal_thn ?_
                refine aw_ret ?_
                exact ⟨⟨_, _, _, _, _, _, _, rfl, rfl, tA67, tS67, rfl, rfl, (rfl : toAV _ = some _).trans (congrArg some (by (first | (exfalso; omega) | (rw [show bareV v = .mk v.kind v.text 0 0 [] [] from by unfold bareV; rw [if_pos (by omega), if_neg (by omega), if_neg (by omega), if_neg (by omega), if_neg (by omega)]]; rfl) | (rw [show bareV v = .mk v.kind ⟨#[]⟩ v.num 0 [] [] from by unfold bareV; rw [if_neg (by omega), if_pos (by omega), if_neg (by omega), if_neg (by omega), if_neg (by omega)]]; rfl) | (rw [show bareV v = .mk v.kind ⟨#[]⟩ 0 v.bits [] [] from by unfold bareV; rw [if_neg (by omega), if_neg (by omega), if_pos (by omega), if_neg (by omega), if_neg (by omega)]]; rfl) | (rw [show bareV v = .mk v.kind ⟨#[]⟩ 0 0 v.list [] from by unfold bareV; rw [if_neg (by omega), if_neg (by omega), if_neg (by omega), if_pos (by omega), if_neg (by omega)]]; rfl) | (rw [show bareV v = .mk v.kind ⟨#[]⟩ 0 0 [] v.map from by unfold bareV; rw [if_neg (by omega), if_neg (by omega), if_neg (by omega), if_neg (by omega), if_pos (by omega)]]; rfl) | (rw [show bareV v = .mk v.kind ⟨#[]⟩ 0 0 [] [] from by unfold bareV; rw [if_neg (by omega), if_neg (by omega), if_neg (by omega), if_neg (by omega), if_neg (by omega)]]; rfl))))⟩, trivial⟩
      · skip
        have q := beq_eq_false_iff_ne.1 hb13
        refine aw_region ?_
        refine g_u (s_eqI rfl rfl rfl) ?_
        refine g_u (s_as_imm rfl rfl) ?_
        refine g_nil ?_
        refine normal_thn ?_
        refine aw_cond rfl (fun hb18 => ?_) (fun hb18 => ?_)
        · skip
          have q := beq_iff_eq.1 hb18
          refine aw_region ?_
          refine g_u (s_fieldAddr rfl rfl fa67_2 rfl) ?_
          refine g_u (s_load_imm rfl rfl rfl tA3 tS3 rfl rfl) ?_
          refine g_u (s_fieldAddr rfl rfl fa67_2 rfl) ?_
          refine g_u (s_store_imm rfl rfl rfl tS3 rfl rfl) ?_
          refine g_nil ?_
          refine normal_blk ?_
          refine normal_thn ?_
          refine aw_seq ?_
          refine aw_region ?_
          refine g_u (s_load_agg rfl rfl rfl tA67 tS67 rfl rfl) ?_
          refine g_u (s_store_imm rfl rfl rfl tS67 rfl rfl) ?_
          refine g_nil ?_
          refine normal_thn ?_
          refine aw_ret ?_
          exact ⟨⟨_, _, _, _, _, _, _, rfl, rfl, tA67, tS67, rfl, rfl, (rfl : toAV _ = some _).trans (congrArg some (by (first | (exfalso; omega) | (rw [show bareV v = .mk v.kind v.text 0 0 [] [] from by unfold bareV; rw [if_pos (by omega), if_neg (by omega), if_neg (by omega), if_neg (by omega), if_neg (by omega)]]; rfl) | (rw [show bareV v = .mk v.kind ⟨#[]⟩ v.num 0 [] [] from by unfold bareV; rw [if_neg (by omega), if_pos (by omega), if_neg (by omega), if_neg (by omega), if_neg (by omega)]]; rfl) | (rw [show bareV v = .mk v.kind ⟨#[]⟩ 0 v.bits [] [] from by unfold bareV; rw [if_neg (by omega), if_neg (by omega), if_pos (by omega), if_neg (by omega), if_neg (by omega)]]; rfl) | (rw [show bareV v = .mk v.kind ⟨#[]⟩ 0 0 v.list [] from by unfold bareV; rw [if_neg (by omega), if_neg (by omega), if_neg (by omega), if_pos (by omega), if_neg (by omega)]]; rfl) | (rw [show bareV v = .mk v.kind ⟨#[]⟩ 0 0 [] v.map from by unfold bareV; rw [if_neg (by omega), if_neg (by omega), if_neg (by omega), if_neg (by omega), if_pos (by omega)]]; rfl) | (rw [show bareV v = .mk v.kind ⟨#[]⟩ 0 0 [] [] from by unfold bareV; rw [if_neg (by omega), if_neg (by omega), if_neg (by omega), if_neg (by omega), if_neg (by omega)]]; rfl))))⟩, trivial⟩
        · skip
          have q := beq_eq_false_iff_ne.1 hb18
          refine aw_seq ?_
          refine aw_region ?_
          refine g_u (s_eqI rfl rfl rfl) ?_
          refine g_u (s_as_imm rfl rfl) ?_
          refine g_nil ?_
          refine normal_thn ?_
          refine aw_cond rfl (fun hb19 => ?_) (fun hb19 => ?_)
          · skip
            have q := beq_iff_eq.1 hb19
            refine aw_region ?_
            refine g_u (s_fieldAddr rfl rfl fa67_3 rfl) ?_
            refine g_u (s_load_imm rfl rfl rfl tA29 tS29 rfl rfl) ?_
            refine g_u (s_fieldAddr rfl rfl fa67_3 rfl) ?_
            refine g_u (s_store_imm rfl rfl rfl tS29 rfl rfl) ?_
            refine g_nil ?_
            refine normal_blk ?_
            refine normal_thn ?_
            refine aw_seq ?_
            refine aw_region ?_
            refine g_u (s_load_agg rfl rfl rfl tA67 tS67 rfl rfl) ?_
            refine g_u (s_store_imm rfl rfl rfl tS67 rfl rfl) ?_
            refine g_nil ?_
            refine normal_thn ?_
            refine aw_ret ?_
            exact ⟨⟨_, _, _, _, _, _, _, rfl, rfl, tA67, tS67, rfl, rfl, (rfl : toAV _ = some _).trans (congrArg some (by (first | (exfalso; omega) | (rw [show bareV v = .mk v.kind v.text 0 0 [] [] from by unfold bareV; rw [if_pos (by omega), if_neg (by omega), if_neg (by omega), if_neg (by omega), if_neg (by omega)]]; rfl) | (rw [show bareV v = .mk v.kind ⟨#[]⟩ v.num 0 [] [] from by unfold bareV; rw [if_neg (by omega), if_pos (by omega), if_neg (by omega), if_neg (by omega), if_neg (by omega)]]; rfl) | (rw [show bareV v = .mk v.kind ⟨#[]⟩ 0 v.bits [] [] from by unfold bareV; rw [if_neg (by omega), if_neg (by omega), if_pos (by omega), if_neg (by omega), if_neg (by omega)]]; rfl) | (rw [show bareV v = .mk v.kind ⟨#[]⟩ 0 0 v.list [] from by unfold bareV; rw [if_neg (by omega), if_neg (by omega), if_neg (by omega), if_pos (by omega), if_neg (by omega)]]; rfl) | (rw [show bareV v = .mk v.kind ⟨#[]⟩ 0 0 [] v.map from by unfold bareV; rw [if_neg (by omega), if_neg (by omega), if_neg (by omega), if_neg (by omega), if_pos (by omega)]]; rfl) | (rw [show bareV v = .mk v.kind ⟨#[]⟩ 0 0 [] [] from by unfold bareV; rw [if_neg (by omega), if_neg (by omega), if_neg (by omega), if_neg (by omega), if_neg (by omega)]]; rfl))))⟩, trivial⟩
          · skip
            have q := beq_eq_false_iff_ne.1 hb19
            refine aw_seq ?_
            refine aw_region ?_
            refine g_u (s_eqI rfl rfl rfl) ?_
            refine g_u (s_as_imm rfl rfl) ?_
            refine g_nil ?_
            refine normal_thn ?_
            refine aw_cond rfl (fun hb20 => ?_) (fun hb20 => ?_)
            · skip
              have q := beq_iff_eq.1 hb20
              refine aw_region ?_
              refine g_u (s_fieldAddr rfl rfl fa67_4 rfl) ?_
              refine g_u (s_load_imm rfl rfl rfl tA65 tS65 rfl rfl) ?_
              refine g_u (s_fieldAddr rfl rfl fa67_4 rfl) ?_
              refine g_u (s_store_imm rfl rfl rfl tS65 rfl rfl) ?_
              refine g_nil ?_
              refine normal_blk ?_
              refine normal_thn ?_
              refine aw_seq ?_
              refine aw_region ?_
              refine g_u (s_load_agg rfl rfl rfl tA67 tS67 rfl rfl) ?_
              refine g_u (s_store_imm rfl rfl rfl tS67 rfl rfl) ?_
              refine g_nil ?_
              refine normal_thn ?_
              refine aw_ret ?_
              exact ⟨⟨_, _, _, _, _, _, _, rfl, rfl, tA67, tS67, rfl, rfl, (rfl : toAV _ = some _).trans (congrArg some (by (first | (exfalso; omega) | (rw [show bareV v = .mk v.kind v.text 0 0 [] [] from by unfold bareV; rw [if_pos (by omega), if_neg (by omega), if_neg (by omega), if_neg (by omega), if_neg (by omega)]]; rfl) | (rw [show bareV v = .mk v.kind ⟨#[]⟩ v.num 0 [] [] from by unfold bareV; rw [if_neg (by omega), if_pos (by omega), if_neg (by omega), if_neg (by omega), if_neg (by omega)]]; rfl) | (rw [show bareV v = .mk v.kind ⟨#[]⟩ 0 v.bits [] [] from by unfold bareV; rw [if_neg (by omega), if_neg (by omega), if_pos (by omega), if_neg (by omega), if_neg (by omega)]]; rfl) | (rw [show bareV v = .mk v.kind ⟨#[]⟩ 0 0 v.list [] from by unfold bareV; rw [if_neg (by omega), if_neg (by omega), if_neg (by omega), if_pos (by omega), if_neg (by omega)]]; rfl) | (rw [show bareV v = .mk v.kind ⟨#[]⟩ 0 0 [] v.map from by unfold bareV; rw [if_neg (by omega), if_neg (by omega), if_neg (by omega), if_neg (by omega), if_pos (by omega)]]; rfl) | (rw [show bareV v = .mk v.kind ⟨#[]⟩ 0 0 [] [] from by unfold bareV; rw [if_neg (by omega), if_neg (by omega), if_neg (by omega), if_neg (by omega), if_neg (by omega)]]; rfl))))⟩, trivial⟩
            · skip
              have q := beq_eq_false_iff_ne.1 hb20
              refine aw_seq ?_
              refine aw_region ?_
              refine g_u (s_eqI rfl rfl rfl) ?_
              refine g_u (s_as_imm rfl rfl) ?_
              refine g_nil ?_
              refine normal_thn ?_
              refine aw_cond rfl (fun hb21 => ?_) (fun hb21 => ?_)
              · skip
                have q := beq_iff_eq.1 hb21
                refine aw_region ?_
                refine g_u (s_fieldAddr rfl rfl fa67_5 rfl) ?_
                refine g_u (s_load_imm rfl rfl rfl tA30 tS30 rfl rfl) ?_
                refine g_u (s_fieldAddr rfl rfl fa67_5 rfl) ?_
                refine g_u (s_store_imm rfl rfl rfl tS30 rfl rfl) ?_
                refine g_nil ?_
                refine normal_blk ?_
                refine normal_thn ?_
                refine aw_seq ?_
                refine aw_region ?_
                refine g_u (s_load_agg rfl rfl rfl tA67 tS67 rfl rfl) ?_
                refine g_u (s_store_imm rfl rfl rfl tS67 rfl rfl) ?_
                refine g_nil ?_
                refine normal_thn ?_
                refine aw_ret ?_
                exact ⟨⟨_, _, _, _, _, _, _, rfl, rfl, tA67, tS67, rfl, rfl, (rfl : toAV _ = some _).trans (congrArg some (by (first | (exfalso; omega) | (rw [show bareV v = .mk v.kind v.text 0 0 [] [] from by unfold bareV; rw [if_pos (by omega), if_neg (by omega), if_neg (by omega), if_neg (by omega), if_neg (by omega)]]; rfl) | (rw [show bareV v = .mk v.kind ⟨#[]⟩ v.num 0 [] [] from by unfold bareV; rw [if_neg (by omega), if_pos (by omega), if_neg (by omega), if_neg (by omega), if_neg (by omega)]]; rfl) | (rw [show bareV v = .mk v.kind ⟨#[]⟩ 0 v.bits [] [] from by unfold bareV; rw [if_neg (by omega), if_neg (by omega), if_pos (by omega), if_neg (by omega), if_neg (by omega)]]; rfl) | (rw [show bareV v = .mk v.kind ⟨#[]⟩ 0 0 v.list [] from by unfold bareV; rw [if_neg (by omega), if_neg (by omega), if_neg (by omega), if_pos (by omega), if_neg (by omega)]]; rfl) | (rw [show bareV v = .mk v.kind ⟨#[]⟩ 0 0 [] v.map from by unfold bareV; rw [if_neg (by omega), if_neg (by omega), if_neg (by omega), if_neg (by omega), if_pos (by omega)]]; rfl) | (rw [show bareV v = .mk v.kind ⟨#[]⟩ 0 0 [] [] from by unfold bareV; rw [if_neg (by omega), if_neg (by omega), if_neg (by omega), if_neg (by omega), if_neg (by omega)]]; rfl))))⟩, trivial⟩
              · skip
                have q := beq_eq_false_iff_ne.1 hb21
                refine aw_skip ?_
                refine normal_blk ?_
                refine normal_thn ?_
                refine aw_seq ?_
                refine aw_region ?_
                refine g_u (s_load_agg rfl rfl rfl tA67 tS67 rfl rfl) ?_
                refine g_u (s_store_imm rfl rfl rfl tS67 rfl rfl) ?_
                refine g_nil ?_
                refine normal_thn ?_
                refine aw_ret ?_
                exact ⟨⟨_, _, _, _, _, _, _, rfl, rfl, tA67, tS67, rfl, rfl, (rfl : toAV _ = some _).trans (congrArg some (by (first | (exfalso; omega) | (rw [show bareV v = .mk v.kind v.text 0 0 [] [] from by unfold bareV; rw [if_pos (by omega), if_neg (by omega), if_neg (by omega), if_neg (by omega), if_neg (by omega)]]; rfl) | (rw [show bareV v = .mk v.kind ⟨#[]⟩ v.num 0 [] [] from by unfold bareV; rw [if_neg (by omega), if_pos (by omega), if_neg (by omega), if_neg (by omega), if_neg (by omega)]]; rfl) | (rw [show bareV v = .mk v.kind ⟨#[]⟩ 0 v.bits [] [] from by unfold bareV; rw [if_neg (by omega), if_neg (by omega), if_pos (by omega), if_neg (by omega), if_neg (by omega)]]; rfl) | (rw [show bareV v = .mk v.kind ⟨#[]⟩ 0 0 v.list [] from by unfold bareV; rw [if_neg (by omega), if_neg (by omega), if_neg (by omega), if_pos (by omega), if_neg (by omega)]]; rfl) | (rw [show bareV v = .mk v.kind ⟨#[]⟩ 0 0 [] v.map from by unfold bareV; rw [if_neg (by omega), if_neg (by omega), if_neg (by omega), if_neg (by omega), if_pos (by omega)]]; rfl) | (rw [show bareV v = .mk v.kind ⟨#[]⟩ 0 0 [] [] from by unfold bareV; rw [if_neg (by omega), if_neg (by omega), if_neg (by omega), if_neg (by omega), if_neg (by omega)]]; rfl))))⟩, trivial⟩

set_option maxHeartbeats 400000 in
theorem more_c (v : GV) : PCall Tryd.prog Γ0 169 [v.av] [bv (!emptyV v)] := by
  refine pcall_of Tryd.func169 rfl Tryd.ntmps169 (by kernel_rfl) rfl fun w0 I0 G0 => ?_
  refine aw_seq ?_
  refine aw_region ?_
  refine g_uG (s_box_imm 1001 rfl rfl rfl rfl) rfl ?_
  refine g_u (s_as_imm rfl rfl) ?_
  refine g_nil ?_
  refine normal_thn ?_
  refine aw_seq ?_
  refine aw_region ?_
  refine g_u (s_load_imm rfl rfl rfl tA67 tS67 rfl rfl) ?_
  refine g_u (s_call1 (bare_c _) rfl rfl) ?_
  refine g_uG (s_alloc' 1003 rfl rfl rfl tZ67) rfl ?_
  refine g_u (s_store_imm rfl rfl rfl tS67 rfl rfl) ?_
  refine g_nil ?_
  refine normal_thn ?_
  refine aw_seq ?_
  refine aw_region ?_
  refine g_u (s_fieldAddr rfl rfl fa67_1 rfl) ?_
  refine g_u (s_load_imm rfl rfl rfl tA9 tS9 rfl rfl) ?_
  refine g_u (s_fieldAddr rfl rfl fa67_1 rfl) ?_
  refine g_u (s_load_imm rfl rfl rfl tA9 tS9 rfl rfl) ?_
  refine g_u (s_neS rfl rfl rfl) ?_
  refine g_u (s_mv_imm rfl rfl) ?_
  refine g_case (t := 11) rfl ?_
  rintro (hb1 | hb1)
  · rw [hb1]
    refine g_skip rfl rfl rfl ?_
    refine g_skip rfl rfl rfl ?_
    refine g_skip rfl rfl rfl ?_
    refine g_skip rfl rfl rfl ?_
    refine g_skip rfl rfl rfl ?_
    refine g_u (s_pick_t rfl rfl rfl) ?_
    refine g_u (s_mv_imm rfl rfl) ?_
    refine g_skip rfl rfl rfl ?_
    refine g_skip rfl rfl rfl ?_
    refine g_skip rfl rfl rfl ?_
    refine g_skip rfl rfl rfl ?_
    refine g_skip rfl rfl rfl ?_
    refine g_u (s_pick_t rfl rfl rfl) ?_
    refine g_u (s_mv_imm rfl rfl) ?_
    refine g_skip rfl rfl rfl ?_
    refine g_skip rfl rfl rfl ?_
    refine g_skip rfl rfl rfl ?_
    refine g_skip rfl rfl rfl ?_
    refine g_skip rfl rfl rfl ?_
    refine g_skip rfl rfl rfl ?_
    refine g_skip rfl rfl rfl ?_
    refine g_u (s_pick_t rfl rfl rfl) ?_
    refine g_u (s_mv_imm rfl rfl) ?_
    refine g_skip rfl rfl rfl ?_
    refine g_skip rfl rfl rfl ?_
    refine g_skip rfl rfl rfl ?_
    refine g_skip rfl rfl rfl ?_
    refine g_skip rfl rfl rfl ?_
    refine g_skip rfl rfl rfl ?_
    refine g_skip rfl rfl rfl ?_
    refine g_u (s_pick_t rfl rfl rfl) ?_
    refine g_u (s_as_imm rfl rfl) ?_
    refine g_nil ?_
    refine normal_thn ?_
    refine aw_ret ?_
    exact ⟨⟨(rfl : toAV (Al.look _ _) = some _).trans (congrArg some (by (exact congrArg bv (by (try simp only [List.length_map] at *); rw [← more_eq]; unfold moreM; simp [*])))), rfl⟩, trivial⟩
  · rw [hb1]
    refine g_run rfl rfl (s_fieldAddr rfl rfl fa67_2 rfl) ?_
    refine g_run rfl rfl (s_load_imm rfl rfl rfl tA3 tS3 rfl rfl) ?_
    refine g_run rfl rfl (s_fieldAddr rfl rfl fa67_2 rfl) ?_
    refine g_run rfl rfl (s_load_imm rfl rfl rfl tA3 tS3 rfl rfl) ?_
    refine g_run rfl rfl (s_neI rfl rfl rfl) ?_
    refine g_u (s_pick_f rfl rfl rfl) ?_
    refine g_u (s_mv_imm rfl rfl) ?_
    refine g_case (t := 18) rfl ?_
    rintro (hb2 | hb2)
    · rw [hb2]
      refine g_skip rfl rfl rfl ?_
      refine g_skip rfl rfl rfl ?_
      refine g_skip rfl rfl rfl ?_
      refine g_skip rfl rfl rfl ?_
      refine g_skip rfl rfl rfl ?_
      refine g_u (s_pick_t rfl rfl rfl) ?_
      refine g_u (s_mv_imm rfl rfl) ?_
      refine g_skip rfl rfl rfl ?_
      refine g_skip rfl rfl rfl ?_
      refine g_skip rfl rfl rfl ?_
      refine g_skip rfl rfl rfl ?_
      refine g_skip rfl rfl rfl ?_
      refine g_skip rfl rfl rfl ?_
      refine g_skip rfl rfl rfl ?_
      refine g_u (s_pick_t rfl rfl rfl) ?_
      refine g_u (s_mv_imm rfl rfl) ?_
      refine g_skip rfl rfl rfl ?_
      refine g_skip rfl rfl rfl ?_
      refine g_skip rfl rfl rfl ?_
      refine g_skip rfl rfl rfl ?_
      refine g_skip rfl rfl rfl ?_
      refine g_skip rfl rfl rfl ?_
      refine g_skip rfl rfl rfl ?_
      refine g_u (s_pick_t rfl rfl rfl) ?_
      refine g_u (s_as_imm rfl rfl) ?_
      refine g_nil ?_
      refine normal_thn ?_
      refine aw_ret ?_
      exact ⟨⟨(rfl : toAV (Al.look _ _) = some _).trans (congrArg some (by (exact congrArg bv (by (try simp only [List.length_map] at *); rw [← more_eq]; unfold moreM; simp [*])))), rfl⟩, trivial⟩
    · rw [hb2]
      refine g_run rfl rfl (s_fieldAddr rfl rfl fa67_3 rfl) ?_
      refine g_run rfl rfl (s_load_imm rfl rfl rfl tA29 tS29 rfl rfl) ?_
      refine g_run rfl rfl (s_fieldAddr rfl rfl fa67_3 rfl) ?_
      refine g_run rfl rfl (s_load_imm rfl rfl rfl tA29 tS29 rfl rfl) ?_
      refine g_run rfl rfl (s_neI rfl rfl rfl) ?_
      refine g_u (s_pick_f rfl rfl rfl) ?_
      refine g_u (s_mv_imm rfl rfl) ?_
      refine g_case (t := 25) rfl ?_
      rintro (hb3 | hb3)
      · rw [hb3]
        refine g_skip rfl rfl rfl ?_
        refine g_skip rfl rfl rfl ?_
        refine g_skip rfl rfl rfl ?_
        refine g_skip rfl rfl rfl ?_
        refine g_skip rfl rfl rfl ?_
        refine g_skip rfl rfl rfl ?_
        refine g_skip rfl rfl rfl ?_
        refine g_u (s_pick_t rfl rfl rfl) ?_
        refine g_u (s_mv_imm rfl rfl) ?_
        refine g_skip rfl rfl rfl ?_
        refine g_skip rfl rfl rfl ?_
        refine g_skip rfl rfl rfl ?_
        refine g_skip rfl rfl rfl ?_
        refine g_skip rfl rfl rfl ?_
        refine g_skip rfl rfl rfl ?_
        refine g_skip rfl rfl rfl ?_
        refine g_u (s_pick_t rfl rfl rfl) ?_
        refine g_u (s_as_imm rfl rfl) ?_
        refine g_nil ?_
        refine normal_thn ?_
        refine aw_ret ?_
        exact ⟨⟨(rfl : toAV (Al.look _ _) = some _).trans (congrArg some (by (exact congrArg bv (by (try simp only [List.length_map] at *); rw [← more_eq]; unfold moreM; simp [*])))), rfl⟩, trivial⟩
      · rw [hb3]
        refine g_run rfl rfl (s_fieldAddr rfl rfl fa67_4 rfl) ?_
        refine g_run rfl rfl (s_load_imm rfl rfl rfl tA65 tS65 rfl rfl) ?_
        refine g_run rfl rfl (s_lenL rfl rfl Tryd.underlying65) ?_
        refine g_run rfl rfl (s_fieldAddr rfl rfl fa67_4 rfl) ?_
        refine g_run rfl rfl (s_load_imm rfl rfl rfl tA65 tS65 rfl rfl) ?_
        refine g_run rfl rfl (s_lenL rfl rfl Tryd.underlying65) ?_
        refine g_run rfl rfl (s_neI rfl rfl rfl) ?_
        refine g_u (s_pick_f rfl rfl rfl) ?_
        refine g_u (s_mv_imm rfl rfl) ?_
        refine g_case (t := 34) rfl ?_
        rintro (hb4 | hb4)
        · rw [hb4]
          refine g_skip rfl rfl rfl ?_
          refine g_skip rfl rfl rfl ?_
          refine g_skip rfl rfl rfl ?_
          refine g_skip rfl rfl rfl ?_
          refine g_skip rfl rfl rfl ?_
          refine g_skip rfl rfl rfl ?_
          refine g_skip rfl rfl rfl ?_
          refine g_u (s_pick_t rfl rfl rfl) ?_
          refine g_u (s_as_imm rfl rfl) ?_
          refine g_nil ?_
          refine normal_thn ?_
          refine aw_ret ?_
          exact ⟨⟨(rfl : toAV (Al.look _ _) = some _).trans (congrArg some (by (exact congrArg bv (by (try simp only [List.length_map] at *); rw [← more_eq]; unfold moreM; simp [*])))), rfl⟩, trivial⟩
        · rw [hb4]
          refine g_run rfl rfl (s_fieldAddr rfl rfl fa67_5 rfl) ?_
          refine g_run rfl rfl (s_load_imm rfl rfl rfl tA30 tS30 rfl rfl) ?_
          refine g_run rfl rfl (s_lenL rfl rfl Tryd.underlying30) ?_
          refine g_run rfl rfl (s_fieldAddr rfl rfl fa67_5 rfl) ?_
          refine g_run rfl rfl (s_load_imm rfl rfl rfl tA30 tS30 rfl rfl) ?_
          refine g_run rfl rfl (s_lenL rfl rfl Tryd.underlying30) ?_
          refine g_run rfl rfl (s_neI rfl rfl rfl) ?_
          refine g_u (s_pick_f rfl rfl rfl) ?_
          refine g_u (s_as_imm rfl rfl) ?_
          refine g_nil ?_
          refine normal_thn ?_
          refine aw_ret ?_
          exact ⟨⟨(rfl : toAV (Al.look _ _) = some _).trans (congrArg some (by (exact congrArg bv (by (try simp only [List.length_map] at *); rw [← more_eq]; unfold moreM; simp [*])))), rfl⟩, trivial⟩

set_option maxHeartbeats 400000 in
theorem holds_c (v : GV) : PCall Tryd.prog Γ0 170 [v.av] [bv (v.kind == 6 || v.kind == 7)] := by
  refine pcall_of Tryd.func170 rfl Tryd.ntmps170 (by kernel_rfl) rfl fun w0 I0 G0 => ?_
  refine aw_seq ?_
  refine aw_region ?_
  refine g_uG (s_box_imm 1001 rfl rfl rfl rfl) rfl ?_
  refine g_u (s_as_imm rfl rfl) ?_
  refine g_nil ?_
  refine normal_thn ?_
  refine aw_seq ?_
  refine aw_region ?_
  refine g_u (s_fieldAddr rfl rfl fa67_0 rfl) ?_
  refine g_u (s_load_imm rfl rfl rfl tA5 tS5 rfl rfl) ?_
  refine g_u (s_eqI rfl rfl rfl) ?_
  refine g_u (s_mv_imm rfl rfl) ?_
  refine g_case (t := 6) rfl ?_
  rintro (hb1 | hb1)
  · rw [hb1]
    refine g_skip rfl rfl rfl ?_
    refine g_skip rfl rfl rfl ?_
    refine g_skip rfl rfl rfl ?_
    refine g_u (s_pick_t rfl rfl rfl) ?_
    refine g_u (s_as_imm rfl rfl) ?_
    refine g_nil ?_
    refine normal_thn ?_
    refine aw_ret ?_
    exact ⟨⟨(rfl : toAV (Al.look _ _) = some _).trans (congrArg some (by (exact congrArg bv (by simp [*])))), rfl⟩, trivial⟩
  · rw [hb1]
    refine g_run rfl rfl (s_fieldAddr rfl rfl fa67_0 rfl) ?_
    refine g_run rfl rfl (s_load_imm rfl rfl rfl tA5 tS5 rfl rfl) ?_
    refine g_run rfl rfl (s_eqI rfl rfl rfl) ?_
    refine g_u (s_pick_f rfl rfl rfl) ?_
    refine g_u (s_as_imm rfl rfl) ?_
    refine g_nil ?_
    refine normal_thn ?_
    refine aw_ret ?_
    exact ⟨⟨(rfl : toAV (Al.look _ _) = some _).trans (congrArg some (by (exact congrArg bv (by simp [*])))), rfl⟩, trivial⟩

set_option maxHeartbeats 2000000 in
theorem entC_st (l : List GA) (d : Int) (hd : 0 ≤ d ∧ d + wtAs l ≤ 1000000000) (ih : ∀ a ∈ l, ∀ d : Int, 0 ≤ d ∧ d + a.val.wt ≤ 1000000000 → PCall Tryd.prog Γ0 121 [a.val.av, iv d] [iv (checkV d a.val)]) : PCall Tryd.prog Γ0 82 [.sl 7 (l.map avA), iv d] [iv (entC d none l)] := by
  refine pcall_of Tryd.func82 rfl Tryd.ntmps82 (by kernel_rfl) rfl fun w0 I0 G0 => ?_
  refine aw_seq ?_
  refine aw_region ?_
  refine g_u (s_as_imm rfl rfl) ?_
  refine g_nil ?_
  refine normal_thn ?_
  refine aw_seq ?_
  refine aw_seq ?_
  refine aw_region ?_
  refine g_u (s_mv_imm rfl rfl) ?_
  refine g_u (s_lenL rfl rfl Tryd.underlying30) ?_
  refine g_u (s_mv_imm rfl rfl) ?_
  refine g_nil ?_
  refine normal_thn ?_
  refine aw_block ?_
  refine aw_loop' (fun i : Nat => [(0, .imm (.sl 7 (l.map avA))), (1, .imm (iv d)), (8, .imm (.sl 7 (l.map avA))), (9, .imm (iv (l.length : Int))), (10, .imm (iv (i : Int)))]) (fun i => i ≤ l.length ∧ entC d none l = entC d (prevOf l i) (l.drop i)) (fun i => l.length - i) (0) ?_ ⟨rfl, rfl, rfl, look_int rfl (by rw [List.length_map]), rfl, trivial⟩ ?_
  · exact ⟨Nat.zero_le _, rfl⟩
  · rintro i ⟨h1, h2⟩; (try dsimp only at h1 h2)
    refine aw_seq ?_
    refine aw_region ?_
    refine g_u (s_ltI rfl rfl rfl) ?_
    refine g_nil ?_
    refine normal_thn ?_
    refine aw_seq ?_
    refine aw_cond rfl (fun hb1 => ?_) (fun hb1 => ?_)
    · skip
      have hi : i < l.length := by have := of_decide_eq_true hb1; (try simp only [List.length_map] at this); omega
      have hw1 := wtAs_mem (nthA_mem hi)
      have hw2 := (nthA l i).wt_eq
      have E := entC_drop d hi
      have ll := len_wtAs l
      refine aw_skip ?_
      refine normal_thn ?_
      refine aw_seq ?_
      refine aw_block ?_
      refine aw_seq ?_
      refine aw_region ?_
      refine g_u (s_mv_imm rfl rfl) ?_
      refine g_u (s_indexAddr rfl rfl rfl Tryd.underlying30 tS76 (by omega) (ixA hi)) ?_
      refine g_u (s_load_cp rfl rfl tA76 tS76 rfl rfl) ?_
      refine g_uG (s_alloc' 1006 rfl rfl rfl tZ76) rfl ?_
      refine g_u (s_as_imm rfl rfl) ?_
      refine g_u (s_store_imm rfl rfl rfl tS76 rfl rfl) ?_
      refine g_nil ?_
      refine normal_thn ?_
      refine aw_seq ?_
      refine aw_region ?_
      refine g_u (s_fieldAddr rfl rfl fa76_0 rfl) ?_
      refine g_u (s_load_imm rfl rfl rfl tA9 tS9 rfl rfl) ?_
      refine g_u (s_call1 (keyP_c _ (by omega)) rfl rfl) ?_
      refine g_u (s_as_imm rfl rfl) ?_
      refine g_nil ?_
      refine normal_thn ?_
      refine aw_seq ?_
      refine aw_seq ?_
      refine aw_draw mixed ?_
      refine g_u (s_mv_imm rfl rfl) ?_
      refine g_u (s_eqI rfl rfl rfl) ?_
      refine g_u (s_mv_imm rfl rfl) ?_
      refine g_case (t := 20) rfl ?_
      rintro (hb2 | hb2)
      · rw [hb2]
        have q := beq_iff_eq.1 hb2
        refine g_run rfl rfl (s_mv_imm rfl rfl) ?_
        refine g_run rfl rfl (s_gtI rfl rfl rfl) ?_
        refine g_u (s_pick_t rfl rfl rfl) ?_
        refine g_u (s_mv_imm rfl rfl) ?_
        refine g_case (t := 24) rfl ?_
        rintro (hb3 | hb3)
        · rw [hb3]
          have hi0 : i ≠ 0 := by have := of_decide_eq_true hb3; omega
          have hm : i - 1 < l.length := by omega
          have em : IntKind.i64.wrap ((i : Int) - 1) = ((i - 1 : Nat) : Int) := by rw [wrap64 (by omega) (by omega)]; omega
          refine g_run rfl rfl (s_mv_imm rfl rfl) ?_
          refine g_run rfl rfl (s_mv_imm rfl rfl) ?_
          refine g_run rfl rfl (s_sub rfl rfl rfl) ?_
          refine g_run rfl rfl (s_indexAddr rfl rfl rfl Tryd.underlying30 tS76 (by rw [em]; omega) ((congrArg (fun z : Int => (l.map avA)[z.toNat]?) em).trans (ixA hm))) ?_
          refine g_run rfl rfl (s_fieldAddr_cp rfl rfl fa76_0 rfl rfl) ?_
          refine g_run rfl rfl (s_load_cp rfl rfl tA9 tS9 rfl rfl) ?_
          refine g_run rfl rfl (s_fieldAddr rfl rfl fa76_0 rfl) ?_
          refine g_run rfl rfl (s_load_imm rfl rfl rfl tA9 tS9 rfl rfl) ?_
          refine g_run rfl rfl (s_geS rfl rfl rfl) ?_
          refine g_u (s_pick_t rfl rfl rfl) ?_
          refine g_nil ⟨by kernel_rfl, ?_⟩
          refine normal_thn ?_
          refine aw_cond rfl (fun hb4 => ?_) (fun hb4 => ?_)
          · skip
            have pb : prevBad (prevOf l i) (nthA l i).key = true := by rw [prevBad_pos hi0, ← less_eq]; exact hb4
            refine aw_region ?_
            refine g_u (s_as_imm rfl rfl) ?_
            refine g_nil ?_
            refine normal_thn ?_
            refine aw_seq ?_
            refine aw_seq ?_
            refine aw_region ?_
            refine g_u (s_mv_imm rfl rfl) ?_
            refine g_u (s_eqI rfl rfl rfl) ?_
            refine g_nil ?_
            refine normal_thn ?_
            refine aw_cond rfl (fun hb5 => ?_) (fun hb5 => ?_)
            · skip
              have q := beq_iff_eq.1 hb5
              refine aw_region ?_
              refine g_u (s_fieldAddr rfl rfl fa76_1 rfl) ?_
              refine g_u (s_load_imm rfl rfl rfl tA67 tS67 rfl rfl) ?_
              refine g_u (s_mv_imm rfl rfl) ?_
              refine g_u (s_call1 (ih _ (nthA_mem hi) d ⟨by omega, by omega⟩) rfl rfl) ?_
              refine g_u (s_as_imm rfl rfl) ?_
              refine g_nil ?_
              refine normal_thn ?_
              refine aw_seq ?_
              refine aw_region ?_
              refine g_u (s_mv_imm rfl rfl) ?_
              refine g_u (s_neI rfl rfl rfl) ?_
              refine g_nil ?_
              refine normal_thn ?_
              refine aw_cond rfl (fun hb6 => ?_) (fun hb6 => ?_)
              · skip
                have q := bne_iff_ne.1 hb6
                refine aw_seq ?_
                refine aw_region ?_
                refine g_u (s_mv_imm rfl rfl) ?_
                refine g_u (s_as_imm rfl rfl) ?_
                refine g_nil ?_
                refine normal_thn ?_
                refine aw_ret ?_
                refine ret_blk ?_
                refine ret_thn ?_
                refine ret_thn ?_
                refine ret_blk ?_
                refine ret_thn ?_
                exact ⟨⟨(rfl : toAV (Al.look _ _) = some _).trans (congrArg some (by (exact congrArg iv (by first | (exfalso; omega) | (rw [h2, hin, List.drop_length]; rfl) | (rw [h2, E, orC_pos _ _ (by omega)]; done) | (rw [h2, E, orC_zero _ _ (by omega), if_pos pb]; done) | (rw [h2, E, orC_zero _ _ (by omega), if_neg (by rw [pb]; decide), orC_pos _ _ (by omega)]; done))))), rfl⟩, trivial⟩
              · skip
                have q := bne_eq_false_iff_eq.1 hb6
                refine aw_skip ?_
                refine normal_blk ?_
                refine normal_thn ?_
                refine aw_region ?_
                refine g_u (s_add rfl rfl rfl) ?_
                refine g_u (s_mv_imm rfl rfl) ?_
                refine g_nil ?_
                refine normal_thn ?_
                first | (exfalso; omega) | refine ⟨i + 1, ⟨hi, by (try dsimp only); rw [h2, E, orC_zero _ _ (by omega), if_neg (by rw [pb]; decide), orC_zero _ _ (by omega)]⟩, ⟨rfl, rfl, rfl, rfl, look_int rfl (by rw [wrap64 (by omega) (by omega)]; rfl), trivial⟩, by (try dsimp only); omega⟩
            · skip
              have q := beq_eq_false_iff_ne.1 hb5
              refine aw_skip ?_
              refine normal_thn ?_
              refine aw_seq ?_
              refine aw_region ?_
              refine g_u (s_mv_imm rfl rfl) ?_
              refine g_u (s_neI rfl rfl rfl) ?_
              refine g_nil ?_
              refine normal_thn ?_
              refine aw_cond rfl (fun hb7 => ?_) (fun hb7 => ?_)
              · skip
                have q := bne_iff_ne.1 hb7
                refine aw_seq ?_
                refine aw_region ?_
                refine g_u (s_mv_imm rfl rfl) ?_
                refine g_u (s_as_imm rfl rfl) ?_
                refine g_nil ?_
                refine normal_thn ?_
                refine aw_ret ?_
                refine ret_blk ?_
                refine ret_thn ?_
                refine ret_thn ?_
                refine ret_blk ?_
                refine ret_thn ?_
                exact ⟨⟨(rfl : toAV (Al.look _ _) = some _).trans (congrArg some (by (exact congrArg iv (by first | (exfalso; omega) | (rw [h2, hin, List.drop_length]; rfl) | (rw [h2, E, orC_pos _ _ (by omega)]; done) | (rw [h2, E, orC_zero _ _ (by omega), if_pos pb]; done) | (rw [h2, E, orC_zero _ _ (by omega), if_neg (by rw [pb]; decide), orC_pos _ _ (by omega)]; done))))), rfl⟩, trivial⟩
              · skip
                have q := bne_eq_false_iff_eq.1 hb7
                refine aw_skip ?_
                refine normal_blk ?_
                refine normal_thn ?_
                refine aw_region ?_
                refine g_u (s_add rfl rfl rfl) ?_
                refine g_u (s_mv_imm rfl rfl) ?_
                refine g_nil ?_
                refine normal_thn ?_
                first | (exfalso; omega) | refine ⟨i + 1, ⟨hi, by (try dsimp only); rw [h2, E, orC_zero _ _ (by omega), if_neg (by rw [pb]; decide), orC_zero _ _ (by omega)]⟩, ⟨rfl, rfl, rfl, rfl, look_int rfl (by rw [wrap64 (by omega) (by omega)]; rfl), trivial⟩, by (try dsimp only); omega⟩
          · skip
            have pb : prevBad (prevOf l i) (nthA l i).key = false := by rw [prevBad_pos hi0, ← less_eq]; exact hb4
            refine aw_skip ?_
            refine normal_thn ?_
            refine aw_seq ?_
            refine aw_seq ?_
            refine aw_region ?_
            refine g_u (s_mv_imm rfl rfl) ?_
            refine g_u (s_eqI rfl rfl rfl) ?_
            refine g_nil ?_
            refine normal_thn ?_
            refine aw_cond rfl (fun hb8 => ?_) (fun hb8 => ?_)
            · skip
              have q := beq_iff_eq.1 hb8
              refine aw_region ?_
              refine g_u (s_fieldAddr rfl rfl fa76_1 rfl) ?_
              refine g_u (s_load_imm rfl rfl rfl tA67 tS67 rfl rfl) ?_
              refine g_u (s_mv_imm rfl rfl) ?_
              refine g_u (s_call1 (ih _ (nthA_mem hi) d ⟨by omega, by omega⟩) rfl rfl) ?_
              refine g_u (s_as_imm rfl rfl) ?_
              refine g_nil ?_
              refine normal_thn ?_
              refine aw_seq ?_
              refine aw_region ?_
              refine g_u (s_mv_imm rfl rfl) ?_
              refine g_u (s_neI rfl rfl rfl) ?_
              refine g_nil ?_
              refine normal_thn ?_
              refine aw_cond rfl (fun hb9 => ?_) (fun hb9 => ?_)
              · skip
                have q := bne_iff_ne.1 hb9
                refine aw_seq ?_
                refine aw_region ?_
                refine g_u (s_mv_imm rfl rfl) ?_
                refine g_u (s_as_imm rfl rfl) ?_
                refine g_nil ?_
                refine normal_thn ?_
                refine aw_ret ?_
                refine ret_blk ?_
                refine ret_thn ?_
                refine ret_thn ?_
                refine ret_blk ?_
                refine ret_thn ?_
                exact ⟨⟨(rfl : toAV (Al.look _ _) = some _).trans (congrArg some (by (exact congrArg iv (by first | (exfalso; omega) | (rw [h2, hin, List.drop_length]; rfl) | (rw [h2, E, orC_pos _ _ (by omega)]; done) | (rw [h2, E, orC_zero _ _ (by omega), if_pos pb]; done) | (rw [h2, E, orC_zero _ _ (by omega), if_neg (by rw [pb]; decide), orC_pos _ _ (by omega)]; done))))), rfl⟩, trivial⟩
              · skip
                have q := bne_eq_false_iff_eq.1 hb9
                refine aw_skip ?_
                refine normal_blk ?_
                refine normal_thn ?_
                refine aw_region ?_
                refine g_u (s_add rfl rfl rfl) ?_
                refine g_u (s_mv_imm rfl rfl) ?_
                refine g_nil ?_
                refine normal_thn ?_
                first | (exfalso; omega) | refine ⟨i + 1, ⟨hi, by (try dsimp only); rw [h2, E, orC_zero _ _ (by omega), if_neg (by rw [pb]; decide), orC_zero _ _ (by omega)]⟩, ⟨rfl, rfl, rfl, rfl, look_int rfl (by rw [wrap64 (by omega) (by omega)]; rfl), trivial⟩, by (try dsimp only); omega⟩
            · skip
              have q := beq_eq_false_iff_ne.1 hb8
              refine aw_skip ?_
              refine normal_thn ?_
              refine aw_seq ?_
              refine aw_region ?_
              refine g_u (s_mv_imm rfl rfl) ?_
              refine g_u (s_neI rfl rfl rfl) ?_
              refine g_nil ?_
              refine normal_thn ?_
              refine aw_cond rfl (fun hb10 => ?_) (fun hb10 => ?_)
              · skip
                have q := bne_iff_ne.1 hb10
                refine aw_seq ?_
                refine aw_region ?_
                refine g_u (s_mv_imm rfl rfl) ?_
                refine g_u (s_as_imm rfl rfl) ?_
                refine g_nil ?_
                refine normal_thn ?_
                refine aw_ret ?_
                refine ret_blk ?_
                refine ret_thn ?_
                refine ret_thn ?_
                refine ret_blk ?_
                refine ret_thn ?_
                exact ⟨⟨(rfl : toAV (Al.look _ _) = some _).trans (congrArg some (by (exact congrArg iv (by first | (exfalso; omega) | (rw [h2, hin, List.drop_length]; rfl) | (rw [h2, E, orC_pos _ _ (by omega)]; done) | (rw [h2, E, orC_zero _ _ (by omega), if_pos pb]; done) | (rw [h2, E, orC_zero _ _ (by omega), if_neg (by rw [pb]; decide), orC_pos _ _ (by omega)]; done))))), rfl⟩, trivial⟩
              · skip
                have q := bne_eq_false_iff_eq.1 hb10
                refine aw_skip ?_
                refine normal_blk ?_
                refine normal_thn ?_
                refine aw_region ?_
                refine g_u (s_add rfl rfl rfl) ?_
                refine g_u (s_mv_imm rfl rfl) ?_
                refine g_nil ?_
                refine normal_thn ?_
                first | (exfalso; omega) | refine ⟨i + 1, ⟨hi, by (try dsimp only); rw [h2, E, orC_zero _ _ (by omega), if_neg (by rw [pb]; decide), orC_zero _ _ (by omega)]⟩, ⟨rfl, rfl, rfl, rfl, look_int rfl (by rw [wrap64 (by omega) (by omega)]; rfl), trivial⟩, by (try dsimp only); omega⟩
        · rw [hb3]
          have hi0 : i = 0 := by have := of_decide_eq_false hb3; omega
          have pb : prevBad (prevOf l i) (nthA l i).key = false := by unfold prevOf; rw [if_pos hi0]; rfl
          refine g_skip rfl rfl rfl ?_
          refine g_skip rfl rfl rfl ?_
          refine g_skip rfl rfl rfl ?_
          refine g_skip rfl rfl rfl ?_
          refine g_skip rfl rfl rfl ?_
          refine g_skip rfl rfl rfl ?_
          refine g_skip rfl rfl rfl ?_
          refine g_skip rfl rfl rfl ?_
          refine g_skip rfl rfl rfl ?_
          refine g_u (s_pick_f rfl rfl rfl) ?_
          refine g_nil ⟨by kernel_rfl, ?_⟩
          refine normal_thn ?_
          refine aw_cond_false rfl ?_
          refine aw_skip ?_
          refine normal_thn ?_
          refine aw_seq ?_
          refine aw_seq ?_
          refine aw_region ?_
          refine g_u (s_mv_imm rfl rfl) ?_
          refine g_u (s_eqI rfl rfl rfl) ?_
          refine g_nil ?_
          refine normal_thn ?_
          refine aw_cond rfl (fun hb11 => ?_) (fun hb11 => ?_)
          · skip
            have q := beq_iff_eq.1 hb11
            refine aw_region ?_
            refine g_u (s_fieldAddr rfl rfl fa76_1 rfl) ?_
            refine g_u (s_load_imm rfl rfl rfl tA67 tS67 rfl rfl) ?_
            refine g_u (s_mv_imm rfl rfl) ?_
            refine g_u (s_call1 (ih _ (nthA_mem hi) d ⟨by omega, by omega⟩) rfl rfl) ?_
            refine g_u (s_as_imm rfl rfl) ?_
            refine g_nil ?_
            refine normal_thn ?_
            refine aw_seq ?_
            refine aw_region ?_
            refine g_u (s_mv_imm rfl rfl) ?_
            refine g_u (s_neI rfl rfl rfl) ?_
            refine g_nil ?_
            refine normal_thn ?_
            refine aw_cond rfl (fun hb12 => ?_) (fun hb12 => ?_)
            · skip
              have q := bne_iff_ne.1 hb12
              refine aw_seq ?_
              refine aw_region ?_
              refine g_u (s_mv_imm rfl rfl) ?_
              refine g_u (s_as_imm rfl rfl) ?_
              refine g_nil ?_
              refine normal_thn ?_
              refine aw_ret ?_
              refine ret_blk ?_
              refine ret_thn ?_
              refine ret_thn ?_
              refine ret_blk ?_
              refine ret_thn ?_
              exact ⟨⟨(rfl : toAV (Al.look _ _) = some _).trans (congrArg some (by (exact congrArg iv (by first | (exfalso; omega) | (rw [h2, hin, List.drop_length]; rfl) | (rw [h2, E, orC_pos _ _ (by omega)]; done) | (rw [h2, E, orC_zero _ _ (by omega), if_pos pb]; done) | (rw [h2, E, orC_zero _ _ (by omega), if_neg (by rw [pb]; decide), orC_pos _ _ (by omega)]; done))))), rfl⟩, trivial⟩
            · skip
              have q := bne_eq_false_iff_eq.1 hb12
              refine aw_skip ?_
              refine normal_blk ?_
              refine normal_thn ?_
              refine aw_region ?_
              refine g_u (s_add rfl rfl rfl) ?_
              refine g_u (s_mv_imm rfl rfl) ?_
              refine g_nil ?_
              refine normal_thn ?_
              first | (exfalso; omega) | refine ⟨i + 1, ⟨hi, by (try dsimp only); rw [h2, E, orC_zero _ _ (by omega), if_neg (by rw [pb]; decide), orC_zero _ _ (by omega)]⟩, ⟨rfl, rfl, rfl, rfl, look_int rfl (by rw [wrap64 (by omega) (by omega)]; rfl), trivial⟩, by (try dsimp only); omega⟩
          · skip
            have q := beq_eq_false_iff_ne.1 hb11
            refine aw_skip ?_
            refine normal_thn ?_
            refine aw_seq ?_
            refine aw_region ?_
            refine g_u (s_mv_imm rfl rfl) ?_
            refine g_u (s_neI rfl rfl rfl) ?_
            refine g_nil ?_
            refine normal_thn ?_
            refine aw_cond rfl (fun hb13 => ?_) (fun hb13 => ?_)
            · skip
              have q := bne_iff_ne.1 hb13
              refine aw_seq ?_
              refine aw_region ?_
              refine g_u (s_mv_imm rfl rfl) ?_
              refine g_u (s_as_imm rfl rfl) ?_
              refine g_nil ?_
              refine normal_thn ?_
              refine aw_ret ?_
              refine ret_blk ?_
              refine ret_thn ?_
              refine ret_thn ?_
              refine ret_blk ?_
              refine ret_thn ?_
              exact ⟨⟨(rfl : toAV (Al.look _ _) = some _).trans (congrArg some (by (exact congrArg iv (by first | (exfalso; omega) | (rw [h2, hin, List.drop_length]; rfl) | (rw [h2, E, orC_pos _ _ (by omega)]; done) | (rw [h2, E, orC_zero _ _ (by omega), if_pos pb]; done) | (rw [h2, E, orC_zero _ _ (by omega), if_neg (by rw [pb]; decide), orC_pos _ _ (by omega)]; done))))), rfl⟩, trivial⟩
            · skip
              have q := bne_eq_false_iff_eq.1 hb13
              refine aw_skip ?_
              refine normal_blk ?_
              refine normal_thn ?_
              refine aw_region ?_
              refine g_u (s_add rfl rfl rfl) ?_
              refine g_u (s_mv_imm rfl rfl) ?_
              refine g_nil ?_
              refine normal_thn ?_
              first | (exfalso; omega) | refine ⟨i + 1, ⟨hi, by (try dsimp only); rw [h2, E, orC_zero _ _ (by omega), if_neg (by rw [pb]; decide), orC_zero _ _ (by omega)]⟩, ⟨rfl, rfl, rfl, rfl, look_int rfl (by rw [wrap64 (by omega) (by omega)]; rfl), trivial⟩, by (try dsimp only); omega⟩
      · rw [hb2]
        have q := beq_eq_false_iff_ne.1 hb2
        refine g_skip rfl rfl rfl ?_
        refine g_skip rfl rfl rfl ?_
        refine g_u (s_pick_f rfl rfl rfl) ?_
        refine g_u (s_mv_imm rfl rfl) ?_
        refine g_skip rfl rfl rfl ?_
        refine g_skip rfl rfl rfl ?_
        refine g_skip rfl rfl rfl ?_
        refine g_skip rfl rfl rfl ?_
        refine g_skip rfl rfl rfl ?_
        refine g_skip rfl rfl rfl ?_
        refine g_skip rfl rfl rfl ?_
        refine g_skip rfl rfl rfl ?_
        refine g_skip rfl rfl rfl ?_
        refine g_u (s_pick_f rfl rfl rfl) ?_
        refine g_nil ⟨by kernel_rfl, ?_⟩
        refine normal_thn ?_
        refine aw_cond_false rfl ?_
        refine aw_skip ?_
        refine normal_thn ?_
        refine aw_seq ?_
        refine aw_seq ?_
        refine aw_region ?_
        refine g_u (s_mv_imm rfl rfl) ?_
        refine g_u (s_eqI rfl rfl rfl) ?_
        refine g_nil ?_
        refine normal_thn ?_
        refine aw_cond rfl (fun hb14 => ?_) (fun hb14 => ?_)
        · skip
          have q := beq_iff_eq.1 hb14
          refine aw_region ?_
          refine g_u (s_fieldAddr rfl rfl fa76_1 rfl) ?_
          refine g_u (s_load_imm rfl rfl rfl tA67 tS67 rfl rfl) ?_
          refine g_u (s_mv_imm rfl rfl) ?_
          refine g_u (s_call1 (ih _ (nthA_mem hi) d ⟨by omega, by omega⟩) rfl rfl) ?_
          refine g_u (s_as_imm rfl rfl) ?_
          refine g_nil ?_
          refine normal_thn ?_
          refine aw_seq ?_
          refine aw_region ?_
          refine g_u (s_mv_imm rfl rfl) ?_
          refine g_u (s_neI rfl rfl rfl) ?_
          refine g_nil ?_
          refine normal_thn ?_
          refine aw_cond rfl (fun hb15 => ?_) (fun hb15 => ?_)
          · skip
            have q := bne_iff_ne.1 hb15
            refine aw_seq ?_
            refine aw_region ?_
            refine g_u (s_mv_imm rfl rfl) ?_
            refine g_u (s_as_imm rfl rfl) ?_
            refine g_nil ?_
            refine normal_thn ?_
            refine aw_ret ?_
            refine ret_blk ?_
            refine ret_thn ?_
            refine ret_thn ?_
            refine ret_blk ?_
            refine ret_thn ?_
            exact ⟨⟨(rfl : toAV (Al.look _ _) = some _).trans (congrArg some (by (exact congrArg iv (by first | (exfalso; omega) | (rw [h2, hin, List.drop_length]; rfl) | (rw [h2, E, orC_pos _ _ (by omega)]; done) | (rw [h2, E, orC_zero _ _ (by omega), if_pos pb]; done) | (rw [h2, E, orC_zero _ _ (by omega), if_neg (by rw [pb]; decide), orC_pos _ _ (by omega)]; done))))), rfl⟩, trivial⟩
          · skip
            have q := bne_eq_false_iff_eq.1 hb15
            refine aw_skip ?_
            refine normal_blk ?_
            refine normal_thn ?_
            refine aw_region ?_
            refine g_u (s_add rfl rfl rfl) ?_
            refine g_u (s_mv_imm rfl rfl) ?_
            refine g_nil ?_
            refine normal_thn ?_
            first | (exfalso; omega) | refine ⟨i + 1, ⟨hi, by (try dsimp only); rw [h2, E, orC_zero _ _ (by omega), if_neg (by rw [pb]; decide), orC_zero _ _ (by omega)]⟩, ⟨rfl, rfl, rfl, rfl, look_int rfl (by rw [wrap64 (by omega) (by omega)]; rfl), trivial⟩, by (try dsimp only); omega⟩
        · skip
          have q := beq_eq_false_iff_ne.1 hb14
          refine aw_skip ?_
          refine normal_thn ?_
          refine aw_seq ?_
          refine aw_region ?_
          refine g_u (s_mv_imm rfl rfl) ?_
          refine g_u (s_neI rfl rfl rfl) ?_
          refine g_nil ?_
          refine normal_thn ?_
          refine aw_cond rfl (fun hb16 => ?_) (fun hb16 => ?_)
          · skip
            have q := bne_iff_ne.1 hb16
            refine aw_seq ?_
            refine aw_region ?_
            refine g_u (s_mv_imm rfl rfl) ?_
            refine g_u (s_as_imm rfl rfl) ?_
            refine g_nil ?_
            refine normal_thn ?_
            refine aw_ret ?_
            refine ret_blk ?_
            refine ret_thn ?_
            refine ret_thn ?_
            refine ret_blk ?_
            refine ret_thn ?_
            exact ⟨⟨(rfl : toAV (Al.look _ _) = some _).trans (congrArg some (by (exact congrArg iv (by first | (exfalso; omega) | (rw [h2, hin, List.drop_length]; rfl) | (rw [h2, E, orC_pos _ _ (by omega)]; done) | (rw [h2, E, orC_zero _ _ (by omega), if_pos pb]; done) | (rw [h2, E, orC_zero _ _ (by omega), if_neg (by rw [pb]; decide), orC_pos _ _ (by omega)]; done))))), rfl⟩, trivial⟩
          · skip
            have q := bne_eq_false_iff_eq.1 hb16
            refine aw_skip ?_
            refine normal_blk ?_
            refine normal_thn ?_
            refine aw_region ?_
            refine g_u (s_add rfl rfl rfl) ?_
            refine g_u (s_mv_imm rfl rfl) ?_
            refine g_nil ?_
            refine normal_thn ?_
            first | (exfalso; omega) | refine ⟨i + 1, ⟨hi, by (try dsimp only); rw [h2, E, orC_zero _ _ (by omega), if_neg (by rw [pb]; decide), orC_zero _ _ (by omega)]⟩, ⟨rfl, rfl, rfl, rfl, look_int rfl (by rw [wrap64 (by omega) (by omega)]; rfl), trivial⟩, by (try dsimp only); omega⟩
    · skip
      have hin : i = l.length := by have := of_decide_eq_false hb1; (try simp only [List.length_map] at this); omega
      refine aw_exit ?_
      refine exit_thn ?_
      refine exit_thn ?_
      refine exit_blk ?_
      refine normal_thn ?_
      refine aw_seq ?_
      refine aw_region ?_
      refine g_u (s_as_imm rfl rfl) ?_
      refine g_nil ?_
      refine normal_thn ?_
      refine aw_ret ?_
      exact ⟨⟨(rfl : toAV (Al.look _ _) = some _).trans (congrArg some (by (exact congrArg iv (by first | (exfalso; omega) | (rw [h2, hin, List.drop_length]; rfl) | (rw [h2, E, orC_pos _ _ (by omega)]; done) | (rw [h2, E, orC_zero _ _ (by omega), if_pos pb]; done) | (rw [h2, E, orC_zero _ _ (by omega), if_neg (by rw [pb]; decide), orC_pos _ _ (by omega)]; done))))), rfl⟩, trivial⟩

set_option maxHeartbeats 2000000 in
theorem rentC_st (l : List GA) (d : Int) (hd : 0 ≤ d ∧ d + wtAs l ≤ 1000000000) (ih : ∀ a ∈ l, ∀ d : Int, 0 ≤ d ∧ d + a.val.wt ≤ 1000000000 → PCall Tryd.prog Γ0 123 [a.val.av, iv d] [iv (checkV d a.val)]) : PCall Tryd.prog Γ0 83 [.sl 7 (l.map avA), iv d] [iv (entC d none l)] := by
  refine pcall_of Tryd.func83 rfl Tryd.ntmps83 (by kernel_rfl) rfl fun w0 I0 G0 => ?_
  refine aw_seq ?_
  refine aw_region ?_
  refine g_u (s_as_imm rfl rfl) ?_
  refine g_nil ?_
  refine normal_thn ?_
  refine aw_seq ?_
  refine aw_seq ?_
  refine aw_region ?_
  refine g_u (s_as_imm rfl rfl) ?_
  refine g_nil ?_
  refine normal_thn ?_
  refine aw_block ?_
  refine aw_loop' (fun i : Nat => [(0, .imm (.sl 7 (l.map avA))), (1, .imm (iv d)), (5, .imm (iv (i : Int)))]) (fun i => i ≤ l.length ∧ entC d none l = entC d (prevOf l i) (l.drop i)) (fun i => l.length - i) (0) ?_ ⟨rfl, rfl, rfl, trivial⟩ ?_
  · exact ⟨Nat.zero_le _, rfl⟩
  · rintro i ⟨h1, h2⟩; (try dsimp only at h1 h2)
    refine aw_seq ?_
    refine aw_seq ?_
    refine aw_region ?_
    refine g_u (s_mv_imm rfl rfl) ?_
    refine g_u (s_mv_imm rfl rfl) ?_
    refine g_u (s_lenL rfl rfl Tryd.underlying30) ?_
    refine g_u (s_ltI rfl rfl rfl) ?_
    refine g_nil ?_
    refine normal_thn ?_
    refine aw_cond rfl (fun hb1 => ?_) (fun hb1 => ?_)
    · skip
      have hi : i < l.length := by have := of_decide_eq_true hb1; (try simp only [List.length_map] at this); omega
      have hw1 := wtAs_mem (nthA_mem hi)
      have hw2 := (nthA l i).wt_eq
      have E := entC_drop d hi
      have ll := len_wtAs l
      refine aw_skip ?_
      refine normal_thn ?_
      refine aw_seq ?_
      refine aw_block ?_
      refine aw_seq ?_
      refine aw_seq ?_
      refine aw_region ?_
      refine g_u (s_mv_imm rfl rfl) ?_
      refine g_u (s_mv_imm rfl rfl) ?_
      refine g_u (s_indexAddr rfl rfl rfl Tryd.underlying30 tS76 (by omega) (ixA hi)) ?_
      refine g_u (s_fieldAddr_cp rfl rfl fa76_0 rfl rfl) ?_
      refine g_u (s_load_cp rfl rfl tA9 tS9 rfl rfl) ?_
      refine g_u (s_call1 (rkeyP_c _ (by omega)) rfl rfl) ?_
      refine g_u (s_as_imm rfl rfl) ?_
      refine g_nil ?_
      refine normal_thn ?_
      refine aw_seq ?_
      refine aw_region ?_
      refine g_u (s_mv_imm rfl rfl) ?_
      refine g_u (s_neI rfl rfl rfl) ?_
      refine g_nil ?_
      refine normal_thn ?_
      refine aw_cond rfl (fun hb2 => ?_) (fun hb2 => ?_)
      · skip
        have q := bne_iff_ne.1 hb2
        refine aw_seq ?_
        refine aw_region ?_
        refine g_u (s_mv_imm rfl rfl) ?_
        refine g_u (s_as_imm rfl rfl) ?_
        refine g_nil ?_
        refine normal_thn ?_
        refine aw_ret ?_
        refine ret_thn ?_
        refine ret_blk ?_
        refine ret_thn ?_
        refine ret_thn ?_
        refine ret_blk ?_
        refine ret_thn ?_
        exact ⟨⟨(rfl : toAV (Al.look _ _) = some _).trans (congrArg some (by (exact congrArg iv (by first | (exfalso; omega) | (rw [h2, hin, List.drop_length]; rfl) | (rw [h2, E, orC_pos _ _ (by omega)]; done) | (rw [h2, E, orC_zero _ _ (by omega), if_pos pb]; done) | (rw [h2, E, orC_zero _ _ (by omega), if_neg (by rw [pb]; decide), orC_pos _ _ (by omega)]; done))))), rfl⟩, trivial⟩
      · skip
        have q := bne_eq_false_iff_eq.1 hb2
        refine aw_skip ?_
        refine normal_thn ?_
        refine aw_seq ?_
        refine aw_seq ?_
        refine aw_draw mixed ?_
        refine g_u (s_mv_imm rfl rfl) ?_
        refine g_u (s_gtI rfl rfl rfl) ?_
        refine g_u (s_mv_imm rfl rfl) ?_
        refine g_case (t := 25) rfl ?_
        rintro (hb3 | hb3)
        · rw [hb3]
          have hi0 : i ≠ 0 := by have := of_decide_eq_true hb3; omega
          have hm : i - 1 < l.length := by omega
          have em : IntKind.i64.wrap ((i : Int) - 1) = ((i - 1 : Nat) : Int) := by rw [wrap64 (by omega) (by omega)]; omega
          refine g_run rfl rfl (s_mv_imm rfl rfl) ?_
          refine g_run rfl rfl (s_mv_imm rfl rfl) ?_
          refine g_run rfl rfl (s_indexAddr rfl rfl rfl Tryd.underlying30 tS76 (by omega) (ixA hi)) ?_
          refine g_run rfl rfl (s_fieldAddr_cp rfl rfl fa76_0 rfl rfl) ?_
          refine g_run rfl rfl (s_load_cp rfl rfl tA9 tS9 rfl rfl) ?_
          refine g_run rfl rfl (s_mv_imm rfl rfl) ?_
          refine g_run rfl rfl (s_mv_imm rfl rfl) ?_
          refine g_run rfl rfl (s_sub rfl rfl rfl) ?_
          refine g_run rfl rfl (s_indexAddr rfl rfl rfl Tryd.underlying30 tS76 (by rw [em]; omega) ((congrArg (fun z : Int => (l.map avA)[z.toNat]?) em).trans (ixA hm))) ?_
          refine g_run rfl rfl (s_fieldAddr_cp rfl rfl fa76_0 rfl rfl) ?_
          refine g_run rfl rfl (s_load_cp rfl rfl tA9 tS9 rfl rfl) ?_
          refine g_run rfl rfl (s_leS rfl rfl rfl) ?_
          refine g_u (s_pick_t rfl rfl rfl) ?_
          refine g_nil ⟨by kernel_rfl, ?_⟩
          refine normal_thn ?_
          refine aw_cond rfl (fun hb4 => ?_) (fun hb4 => ?_)
          · skip
            have pb : prevBad (prevOf l i) (nthA l i).key = true := by rw [prevBad_pos hi0, ← leB]; exact hb4
            refine aw_seq ?_
            refine aw_region ?_
            refine g_u (s_as_imm rfl rfl) ?_
            refine g_nil ?_
            refine normal_thn ?_
            refine aw_ret ?_
            refine ret_thn ?_
            refine ret_blk ?_
            refine ret_thn ?_
            refine ret_thn ?_
            refine ret_blk ?_
            refine ret_thn ?_
            exact ⟨⟨(rfl : toAV (Al.look _ _) = some _).trans (congrArg some (by (exact congrArg iv (by first | (exfalso; omega) | (rw [h2, hin, List.drop_length]; rfl) | (rw [h2, E, orC_pos _ _ (by omega)]; done) | (rw [h2, E, orC_zero _ _ (by omega), if_pos pb]; done) | (rw [h2, E, orC_zero _ _ (by omega), if_neg (by rw [pb]; decide), orC_pos _ _ (by omega)]; done))))), rfl⟩, trivial⟩
          · skip
            have pb : prevBad (prevOf l i) (nthA l i).key = false := by rw [prevBad_pos hi0, ← leB]; exact hb4
            refine aw_skip ?_
            refine normal_thn ?_
            refine aw_seq ?_
            refine aw_region ?_
            refine g_u (s_mv_imm rfl rfl) ?_
            refine g_u (s_mv_imm rfl rfl) ?_
            refine g_u (s_indexAddr rfl rfl rfl Tryd.underlying30 tS76 (by omega) (ixA hi)) ?_
            refine g_u (s_fieldAddr_cp rfl rfl fa76_1 rfl rfl) ?_
            refine g_u (s_load_cp rfl rfl tA67 tS67 rfl rfl) ?_
            refine g_u (s_mv_imm rfl rfl) ?_
            refine g_u (s_call1 (ih _ (nthA_mem hi) d ⟨by omega, by omega⟩) rfl rfl) ?_
            refine g_u (s_as_imm rfl rfl) ?_
            refine g_nil ?_
            refine normal_thn ?_
            refine aw_seq ?_
            refine aw_region ?_
            refine g_u (s_mv_imm rfl rfl) ?_
            refine g_u (s_neI rfl rfl rfl) ?_
            refine g_nil ?_
            refine normal_thn ?_
            refine aw_cond rfl (fun hb5 => ?_) (fun hb5 => ?_)
            · skip
              have q := bne_iff_ne.1 hb5
              refine aw_seq ?_
              refine aw_region ?_
              refine g_u (s_mv_imm rfl rfl) ?_
              refine g_u (s_as_imm rfl rfl) ?_
              refine g_nil ?_
              refine normal_thn ?_
              refine aw_ret ?_
              refine ret_blk ?_
              refine ret_thn ?_
              refine ret_thn ?_
              refine ret_blk ?_
              refine ret_thn ?_
              exact ⟨⟨(rfl : toAV (Al.look _ _) = some _).trans (congrArg some (by (exact congrArg iv (by first | (exfalso; omega) | (rw [h2, hin, List.drop_length]; rfl) | (rw [h2, E, orC_pos _ _ (by omega)]; done) | (rw [h2, E, orC_zero _ _ (by omega), if_pos pb]; done) | (rw [h2, E, orC_zero _ _ (by omega), if_neg (by rw [pb]; decide), orC_pos _ _ (by omega)]; done))))), rfl⟩, trivial⟩
            · skip
              have q := bne_eq_false_iff_eq.1 hb5
              refine aw_skip ?_
              refine normal_blk ?_
              refine normal_thn ?_
              refine aw_region ?_
              refine g_u (s_mv_imm rfl rfl) ?_
              refine g_u (s_add rfl rfl rfl) ?_
              refine g_u (s_as_imm rfl rfl) ?_
              refine g_nil ?_
              refine normal_thn ?_
              first | (exfalso; omega) | refine ⟨i + 1, ⟨hi, by (try dsimp only); rw [h2, E, orC_zero _ _ (by omega), if_neg (by rw [pb]; decide), orC_zero _ _ (by omega)]⟩, ⟨rfl, rfl, look_int rfl (by rw [wrap64 (by omega) (by omega)]; rfl), trivial⟩, by (try dsimp only); omega⟩
        · rw [hb3]
          have hi0 : i = 0 := by have := of_decide_eq_false hb3; omega
          have pb : prevBad (prevOf l i) (nthA l i).key = false := by unfold prevOf; rw [if_pos hi0]; rfl
          refine g_skip rfl rfl rfl ?_
          refine g_skip rfl rfl rfl ?_
          refine g_skip rfl rfl rfl ?_
          refine g_skip rfl rfl rfl ?_
          refine g_skip rfl rfl rfl ?_
          refine g_skip rfl rfl rfl ?_
          refine g_skip rfl rfl rfl ?_
          refine g_skip rfl rfl rfl ?_
          refine g_skip rfl rfl rfl ?_
          refine g_skip rfl rfl rfl ?_
          refine g_skip rfl rfl rfl ?_
          refine g_skip rfl rfl rfl ?_
          refine g_u (s_pick_f rfl rfl rfl) ?_
          refine g_nil ⟨by kernel_rfl, ?_⟩
          refine normal_thn ?_
          refine aw_cond_false rfl ?_
          refine aw_skip ?_
          refine normal_thn ?_
          refine aw_seq ?_
          refine aw_region ?_
          refine g_u (s_mv_imm rfl rfl) ?_
          refine g_u (s_mv_imm rfl rfl) ?_
          refine g_u (s_indexAddr rfl rfl rfl Tryd.underlying30 tS76 (by omega) (ixA hi)) ?_
          refine g_u (s_fieldAddr_cp rfl rfl fa76_1 rfl rfl) ?_
          refine g_u (s_load_cp rfl rfl tA67 tS67 rfl rfl) ?_
          refine g_u (s_mv_imm rfl rfl) ?_
          refine g_u (s_call1 (ih _ (nthA_mem hi) d ⟨by omega, by omega⟩) rfl rfl) ?_
          refine g_u (s_as_imm rfl rfl) ?_
          refine g_nil ?_
          refine normal_thn ?_
          refine aw_seq ?_
          refine aw_region ?_
          refine g_u (s_mv_imm rfl rfl) ?_
          refine g_u (s_neI rfl rfl rfl) ?_
          refine g_nil ?_
          refine normal_thn ?_
          refine aw_cond rfl (fun hb6 => ?_) (fun hb6 => ?_)
          · skip
            have q := bne_iff_ne.1 hb6
            refine aw_seq ?_
            refine aw_region ?_
            refine g_u (s_mv_imm rfl rfl) ?_
            refine g_u (s_as_imm rfl rfl) ?_
            refine g_nil ?_
            refine normal_thn ?_
            refine aw_ret ?_
            refine ret_blk ?_
            refine ret_thn ?_
            refine ret_thn ?_
            refine ret_blk ?_
            refine ret_thn ?_
            exact ⟨⟨(rfl : toAV (Al.look _ _) = some _).trans (congrArg some (by (exact congrArg iv (by first | (exfalso; omega) | (rw [h2, hin, List.drop_length]; rfl) | (rw [h2, E, orC_pos _ _ (by omega)]; done) | (rw [h2, E, orC_zero _ _ (by omega), if_pos pb]; done) | (rw [h2, E, orC_zero _ _ (by omega), if_neg (by rw [pb]; decide), orC_pos _ _ (by omega)]; done))))), rfl⟩, trivial⟩
          · skip
            have q := bne_eq_false_iff_eq.1 hb6
            refine aw_skip ?_
            refine normal_blk ?_
            refine normal_thn ?_
            refine aw_region ?_
            refine g_u (s_mv_imm rfl rfl) ?_
            refine g_u (s_add rfl rfl rfl) ?_
            refine g_u (s_as_imm rfl rfl) ?_
            refine g_nil ?_
            refine normal_thn ?_
            first | (exfalso; omega) | refine ⟨i + 1, ⟨hi, by (try dsimp only); rw [h2, E, orC_zero _ _ (by omega), if_neg (by rw [pb]; decide), orC_zero _ _ (by omega)]⟩, ⟨rfl, rfl, look_int rfl (by rw [wrap64 (by omega) (by omega)]; rfl), trivial⟩, by (try dsimp only); omega⟩
    · skip
      have hin : i = l.length := by have := of_decide_eq_false hb1; (try simp only [List.length_map] at this); omega
      refine aw_exit ?_
      refine exit_thn ?_
      refine exit_thn ?_
      refine exit_blk ?_
      refine normal_thn ?_
      refine aw_seq ?_
      refine aw_region ?_
      refine g_u (s_as_imm rfl rfl) ?_
      refine g_nil ?_
      refine normal_thn ?_
      refine aw_ret ?_
      exact ⟨⟨(rfl : toAV (Al.look _ _) = some _).trans (congrArg some (by (exact congrArg iv (by first | (exfalso; omega) | (rw [h2, hin, List.drop_length]; rfl) | (rw [h2, E, orC_pos _ _ (by omega)]; done) | (rw [h2, E, orC_zero _ _ (by omega), if_pos pb]; done) | (rw [h2, E, orC_zero _ _ (by omega), if_neg (by rw [pb]; decide), orC_pos _ _ (by omega)]; done))))), rfl⟩, trivial⟩

set_option maxHeartbeats 2000000 in
theorem contentV_st (v : GV) (d : Int) (hd : 0 ≤ d ∧ d + v.wt ≤ 1000000000) (ih : ∀ y ∈ v.list, ∀ d : Int, 0 ≤ d ∧ d + y.wt ≤ 1000000000 → PCall Tryd.prog Γ0 121 [y.av, iv d] [iv (checkV d y)]) (ihm : ∀ d : Int, 0 ≤ d ∧ d + wtAs v.map ≤ 1000000000 → PCall Tryd.prog Γ0 82 [.sl 7 (v.map.map avA), iv d] [iv (entC d none v.map)]) : PCall Tryd.prog Γ0 171 [v.av, iv d] [iv (contentM d v)] := by
  have ek := v.wt_eq
  have e1 : IntKind.i64.wrap (d + 1) = d + 1 := wrap64 (by omega) (by omega)
  have lv := len_wtVs v.list
  have cr := check_range v.text
  have ce := check_eq v.text
  refine pcall_of Tryd.func171 rfl Tryd.ntmps171 (by kernel_rfl) rfl fun w0 I0 G0 => ?_
  refine aw_seq ?_
  refine aw_region ?_
  refine g_uG (s_box_imm 1002 rfl rfl rfl rfl) rfl ?_
  refine g_u (s_as_imm rfl rfl) ?_
  refine g_nil ?_
  refine normal_thn ?_
  refine aw_seq ?_
  refine aw_seq ?_
  refine aw_region ?_
  refine g_u (s_fieldAddr rfl rfl fa67_0 rfl) ?_
  refine g_u (s_load_imm rfl rfl rfl tA5 tS5 rfl rfl) ?_
  refine g_nil ?_
  refine normal_thn ?_
  refine aw_block ?_
  refine aw_seq ?_
  refine aw_region ?_
  refine g_u (s_eqI rfl rfl rfl) ?_
  refine g_u (s_as_imm rfl rfl) ?_
  refine g_nil ?_
  refine normal_thn ?_
  refine aw_cond rfl (fun hb1 => ?_) (fun hb1 => ?_)
  · skip
    have q := beq_iff_eq.1 hb1
    refine aw_seq ?_
    refine aw_region ?_
    refine g_u (s_fieldAddr rfl rfl fa67_1 rfl) ?_
    refine g_u (s_load_imm rfl rfl rfl tA9 tS9 rfl rfl) ?_
    refine g_u (s_call1 (check_c _ (by omega)) rfl rfl) ?_
    refine g_u (s_geI rfl rfl rfl) ?_
    refine g_nil ?_
    refine normal_thn ?_
    refine aw_cond rfl (fun hb2 => ?_) (fun hb2 => ?_)
    · skip
      have q := of_decide_eq_true hb2
      refine aw_seq ?_
      refine aw_region ?_
      refine g_u (s_as_imm rfl rfl) ?_
      refine g_nil ?_
      refine normal_thn ?_
      refine aw_ret ?_
      refine ret_blk ?_
      refine ret_thn ?_
      exact ⟨⟨(rfl : toAV (Al.look _ _) = some _).trans (congrArg some (by (exact congrArg iv (by unfold contentM; first | (exfalso; omega) | (rw [if_pos (by omega), if_pos (by omega)]; done) | (rw [if_pos (by omega), if_neg (by omega)]; done) | (rw [if_neg (by omega), if_pos (by omega), if_pos (by omega)]; done) | (rw [if_neg (by omega), if_pos (by omega), if_neg (by omega)]; done) | (rw [if_neg (by omega), if_neg (by omega), if_pos (by omega), h2, E, orC_pos _ _ (by omega)]; done) | (rw [if_neg (by omega), if_neg (by omega), if_pos (by omega), h2, hin, List.drop_length]; rfl) | (rw [if_neg (by omega), if_neg (by omega), if_neg (by omega), if_pos (by omega)]; done) | (rw [if_neg (by omega), if_neg (by omega), if_neg (by omega), if_neg (by omega)]; done))))), rfl⟩, trivial⟩
    · skip
      have q := of_decide_eq_false hb2
      refine aw_skip ?_
      refine normal_blk ?_
      refine normal_thn ?_
      refine aw_seq ?_
      refine aw_region ?_
      refine g_u (s_as_imm rfl rfl) ?_
      refine g_nil ?_
      refine normal_thn ?_
      refine aw_ret ?_
      exact ⟨⟨(rfl : toAV (Al.look _ _) = some _).trans (congrArg some (by (exact congrArg iv (by unfold contentM; first | (exfalso; omega) | (rw [if_pos (by omega), if_pos (by omega)]; done) | (rw [if_pos (by omega), if_neg (by omega)]; done) | (rw [if_neg (by omega), if_pos (by omega), if_pos (by omega)]; done) | (rw [if_neg (by omega), if_pos (by omega), if_neg (by omega)]; done) | (rw [if_neg (by omega), if_neg (by omega), if_pos (by omega), h2, E, orC_pos _ _ (by omega)]; done) | (rw [if_neg (by omega), if_neg (by omega), if_pos (by omega), h2, hin, List.drop_length]; rfl) | (rw [if_neg (by omega), if_neg (by omega), if_neg (by omega), if_pos (by omega)]; done) | (rw [if_neg (by omega), if_neg (by omega), if_neg (by omega), if_neg (by omega)]; done))))), rfl⟩, trivial⟩
  · skip
    have q := beq_eq_false_iff_ne.1 hb1
    refine aw_seq ?_
    refine aw_region ?_
    refine g_u (s_eqI rfl rfl rfl) ?_
    refine g_u (s_as_imm rfl rfl) ?_
    refine g_nil ?_
    refine normal_thn ?_
    refine aw_cond rfl (fun hb3 => ?_) (fun hb3 => ?_)
    · skip
      have q := beq_iff_eq.1 hb3
      refine aw_seq ?_
      refine aw_region ?_
      refine g_u (s_fieldAddr rfl rfl fa67_2 rfl) ?_
      refine g_u (s_load_imm rfl rfl rfl tA3 tS3 rfl rfl) ?_
      refine g_u (s_neI rfl rfl rfl) ?_
      refine g_u (s_mv_imm rfl rfl) ?_
      refine g_case (t := 21) rfl ?_
      rintro (hb4 | hb4)
      · rw [hb4]
        have q := bne_iff_ne.1 hb4
        refine g_run rfl rfl (s_fieldAddr rfl rfl fa67_2 rfl) ?_
        refine g_run rfl rfl (s_load_imm rfl rfl rfl tA3 tS3 rfl rfl) ?_
        refine g_run rfl rfl (s_neI rfl rfl rfl) ?_
        refine g_u (s_pick_t rfl rfl rfl) ?_
        refine g_nil ?_
        refine normal_thn ?_
        refine aw_cond rfl (fun hb5 => ?_) (fun hb5 => ?_)
        · skip
          have q := bne_iff_ne.1 hb5
          refine aw_seq ?_
          refine aw_region ?_
          refine g_u (s_as_imm rfl rfl) ?_
          refine g_nil ?_
          refine normal_thn ?_
          refine aw_ret ?_
          refine ret_blk ?_
          refine ret_thn ?_
          exact ⟨⟨(rfl : toAV (Al.look _ _) = some _).trans (congrArg some (by (exact congrArg iv (by unfold contentM; first | (exfalso; omega) | (rw [if_pos (by omega), if_pos (by omega)]; done) | (rw [if_pos (by omega), if_neg (by omega)]; done) | (rw [if_neg (by omega), if_pos (by omega), if_pos (by omega)]; done) | (rw [if_neg (by omega), if_pos (by omega), if_neg (by omega)]; done) | (rw [if_neg (by omega), if_neg (by omega), if_pos (by omega), h2, E, orC_pos _ _ (by omega)]; done) | (rw [if_neg (by omega), if_neg (by omega), if_pos (by omega), h2, hin, List.drop_length]; rfl) | (rw [if_neg (by omega), if_neg (by omega), if_neg (by omega), if_pos (by omega)]; done) | (rw [if_neg (by omega), if_neg (by omega), if_neg (by omega), if_neg (by omega)]; done))))), rfl⟩, trivial⟩
        · skip
          have q := bne_eq_false_iff_eq.1 hb5
          refine aw_skip ?_
          refine normal_blk ?_
          refine normal_thn ?_
          refine aw_seq ?_
          refine aw_region ?_
          refine g_u (s_as_imm rfl rfl) ?_
          refine g_nil ?_
          refine normal_thn ?_
          refine aw_ret ?_
          exact ⟨⟨(rfl : toAV (Al.look _ _) = some _).trans (congrArg some (by (exact congrArg iv (by unfold contentM; first | (exfalso; omega) | (rw [if_pos (by omega), if_pos (by omega)]; done) | (rw [if_pos (by omega), if_neg (by omega)]; done) | (rw [if_neg (by omega), if_pos (by omega), if_pos (by omega)]; done) | (rw [if_neg (by omega), if_pos (by omega), if_neg (by omega)]; done) | (rw [if_neg (by omega), if_neg (by omega), if_pos (by omega), h2, E, orC_pos _ _ (by omega)]; done) | (rw [if_neg (by omega), if_neg (by omega), if_pos (by omega), h2, hin, List.drop_length]; rfl) | (rw [if_neg (by omega), if_neg (by omega), if_neg (by omega), if_pos (by omega)]; done) | (rw [if_neg (by omega), if_neg (by omega), if_neg (by omega), if_neg (by omega)]; done))))), rfl⟩, trivial⟩
      · rw [hb4]
        have q := bne_eq_false_iff_eq.1 hb4
        refine g_skip rfl rfl rfl ?_
        refine g_skip rfl rfl rfl ?_
        refine g_skip rfl rfl rfl ?_
        refine g_u (s_pick_f rfl rfl rfl) ?_
        refine g_nil ?_
        refine normal_thn ?_
        refine aw_cond_false rfl ?_
        refine aw_skip ?_
        refine normal_blk ?_
        refine normal_thn ?_
        refine aw_seq ?_
        refine aw_region ?_
        refine g_u (s_as_imm rfl rfl) ?_
        refine g_nil ?_
        refine normal_thn ?_
        refine aw_ret ?_
        exact ⟨⟨(rfl : toAV (Al.look _ _) = some _).trans (congrArg some (by (exact congrArg iv (by unfold contentM; first | (exfalso; omega) | (rw [if_pos (by omega), if_pos (by omega)]; done) | (rw [if_pos (by omega), if_neg (by omega)]; done) | (rw [if_neg (by omega), if_pos (by omega), if_pos (by omega)]; done) | (rw [if_neg (by omega), if_pos (by omega), if_neg (by omega)]; done) | (rw [if_neg (by omega), if_neg (by omega), if_pos (by omega), h2, E, orC_pos _ _ (by omega)]; done) | (rw [if_neg (by omega), if_neg (by omega), if_pos (by omega), h2, hin, List.drop_length]; rfl) | (rw [if_neg (by omega), if_neg (by omega), if_neg (by omega), if_pos (by omega)]; done) | (rw [if_neg (by omega), if_neg (by omega), if_neg (by omega), if_neg (by omega)]; done))))), rfl⟩, trivial⟩
    · skip
      have q := beq_eq_false_iff_ne.1 hb3
      refine aw_seq ?_
      refine aw_region ?_
      refine g_u (s_eqI rfl rfl rfl) ?_
      refine g_u (s_as_imm rfl rfl) ?_
      refine g_nil ?_
      refine normal_thn ?_
      refine aw_cond rfl (fun hb6 => ?_) (fun hb6 => ?_)
      · skip
        have q := beq_iff_eq.1 hb6
        refine aw_seq ?_
        refine aw_region ?_
        refine g_u (s_fieldAddr rfl rfl fa67_4 rfl) ?_
        refine g_u (s_load_imm rfl rfl rfl tA65 tS65 rfl rfl) ?_
        refine g_u (s_lenL rfl rfl Tryd.underlying65) ?_
        refine g_u (s_mv_imm rfl rfl) ?_
        refine g_nil ?_
        refine normal_thn ?_
        refine aw_block ?_
        refine aw_loop' (fun i : Nat => [(1, .imm (iv d)), (29, .imm (.sl 6 (v.list.map avV))), (30, .imm (iv (v.list.length : Int))), (31, .imm (iv (i : Int)))]) (fun i => i ≤ v.list.length ∧ checkVs (d + 1) v.list = checkVs (d + 1) (v.list.drop i)) (fun i => v.list.length - i) (0) ?_ ⟨rfl, rfl, look_int rfl (by rw [List.length_map]), rfl, trivial⟩ ?_
        · exact ⟨Nat.zero_le _, rfl⟩
        · rintro i ⟨h1, h2⟩; (try dsimp only at h1 h2)
          refine aw_seq ?_
          refine aw_region ?_
          refine g_u (s_ltI rfl rfl rfl) ?_
          refine g_nil ?_
          refine normal_thn ?_
          refine aw_seq ?_
          refine aw_cond rfl (fun hb7 => ?_) (fun hb7 => ?_)
          · skip
            have hi : i < v.list.length := by have := of_decide_eq_true hb7; (try simp only [List.length_map] at this); omega
            have hw1 := wtVs_mem (nthV_mem hi)
            have E := checkVs_drop (d + 1) hi
            refine aw_skip ?_
            refine normal_thn ?_
            refine aw_seq ?_
            refine aw_block ?_
            refine aw_seq ?_
            refine aw_region ?_
            refine g_u (s_indexAddr rfl rfl rfl Tryd.underlying65 tS67 (by omega) (ixV hi)) ?_
            refine g_u (s_load_cp rfl rfl tA67 tS67 rfl rfl) ?_
            refine g_uG (s_alloc' 1006 rfl rfl rfl tZ67) rfl ?_
            refine g_u (s_store_imm rfl rfl rfl tS67 rfl rfl) ?_
            refine g_nil ?_
            refine normal_thn ?_
            refine aw_seq ?_
            refine aw_region ?_
            refine g_u (s_load_agg rfl rfl rfl tA67 tS67 rfl rfl) ?_
            refine g_u (s_mv_imm rfl rfl) ?_
            refine g_u (s_add rfl rfl rfl) ?_
            refine g_u (s_call1 ((show PCall Tryd.prog Γ0 121 [(nthV v.list i).av, iv (IntKind.i64.wrap (d + 1))] [iv (checkV (d + 1) (nthV v.list i))] from by rw [e1]; exact ih _ (nthV_mem hi) _ ⟨by omega, by omega⟩)) rfl rfl) ?_
            refine g_u (s_as_imm rfl rfl) ?_
            refine g_nil ?_
            refine normal_thn ?_
            refine aw_seq ?_
            refine aw_region ?_
            refine g_u (s_mv_imm rfl rfl) ?_
            refine g_u (s_neI rfl rfl rfl) ?_
            refine g_nil ?_
            refine normal_thn ?_
            refine aw_cond rfl (fun hb8 => ?_) (fun hb8 => ?_)
            · skip
              have q := bne_iff_ne.1 hb8
              refine aw_seq ?_
              refine aw_region ?_
              refine g_u (s_mv_imm rfl rfl) ?_
              refine g_u (s_as_imm rfl rfl) ?_
              refine g_nil ?_
              refine normal_thn ?_
              refine aw_ret ?_
              refine ret_blk ?_
              refine ret_thn ?_
              refine ret_thn ?_
              refine ret_blk ?_
              refine ret_blk ?_
              refine ret_thn ?_
              exact ⟨⟨(rfl : toAV (Al.look _ _) = some _).trans (congrArg some (by (exact congrArg iv (by unfold contentM; first | (exfalso; omega) | (rw [if_pos (by omega), if_pos (by omega)]; done) | (rw [if_pos (by omega), if_neg (by omega)]; done) | (rw [if_neg (by omega), if_pos (by omega), if_pos (by omega)]; done) | (rw [if_neg (by omega), if_pos (by omega), if_neg (by omega)]; done) | (rw [if_neg (by omega), if_neg (by omega), if_pos (by omega), h2, E, orC_pos _ _ (by omega)]; done) | (rw [if_neg (by omega), if_neg (by omega), if_pos (by omega), h2, hin, List.drop_length]; rfl) | (rw [if_neg (by omega), if_neg (by omega), if_neg (by omega), if_pos (by omega)]; done) | (rw [if_neg (by omega), if_neg (by omega), if_neg (by omega), if_neg (by omega)]; done))))), rfl⟩, trivial⟩
            · skip
              have q := bne_eq_false_iff_eq.1 hb8
              refine aw_skip ?_
              refine normal_blk ?_
              refine normal_thn ?_
              refine aw_region ?_
              refine g_u (s_add rfl rfl rfl) ?_
              refine g_u (s_mv_imm rfl rfl) ?_
              refine g_nil ?_
              refine normal_thn ?_
              refine ⟨i + 1, ⟨hi, by (try dsimp only); rw [h2, E, orC_zero _ _ (by omega)]⟩, ⟨rfl, rfl, rfl, look_int rfl (by rw [wrap64 (by omega) (by omega)]; rfl), trivial⟩, by (try dsimp only); omega⟩
          · skip
            have hin : i = v.list.length := by have := of_decide_eq_false hb7; (try simp only [List.length_map] at this); omega
            refine aw_exit ?_
            refine exit_thn ?_
            refine exit_thn ?_
            refine exit_blk ?_
            refine normal_blk ?_
            refine normal_thn ?_
            refine aw_seq ?_
            refine aw_region ?_
            refine g_u (s_as_imm rfl rfl) ?_
            refine g_nil ?_
            refine normal_thn ?_
            refine aw_ret ?_
            exact ⟨⟨(rfl : toAV (Al.look _ _) = some _).trans (congrArg some (by (exact congrArg iv (by unfold contentM; first | (exfalso; omega) | (rw [if_pos (by omega), if_pos (by omega)]; done) | (rw [if_pos (by omega), if_neg (by omega)]; done) | (rw [if_neg (by omega), if_pos (by omega), if_pos (by omega)]; done) | (rw [if_neg (by omega), if_pos (by omega), if_neg (by omega)]; done) | (rw [if_neg (by omega), if_neg (by omega), if_pos (by omega), h2, E, orC_pos _ _ (by omega)]; done) | (rw [if_neg (by omega), if_neg (by omega), if_pos (by omega), h2, hin, List.drop_length]; rfl) | (rw [if_neg (by omega), if_neg (by omega), if_neg (by omega), if_pos (by omega)]; done) | (rw [if_neg (by omega), if_neg (by omega), if_neg (by omega), if_neg (by omega)]; done))))), rfl⟩, trivial⟩
      · skip
        have q := beq_eq_false_iff_ne.1 hb6
        refine aw_seq ?_
        refine aw_region ?_
        refine g_u (s_eqI rfl rfl rfl) ?_
        refine g_u (s_as_imm rfl rfl) ?_
        refine g_nil ?_
        refine normal_thn ?_
        refine aw_cond rfl (fun hb9 => ?_) (fun hb9 => ?_)
        · skip
          have q := beq_iff_eq.1 hb9
          refine aw_seq ?_
          refine aw_region ?_
          refine g_u (s_fieldAddr rfl rfl fa67_5 rfl) ?_
          refine g_u (s_load_imm rfl rfl rfl tA30 tS30 rfl rfl) ?_
          refine g_u (s_mv_imm rfl rfl) ?_
          refine g_u (s_add rfl rfl rfl) ?_
          refine g_u (s_call1 ((show PCall Tryd.prog Γ0 82 [.sl 7 (v.map.map avA), iv (IntKind.i64.wrap (d + 1))] [iv (entC (d + 1) none v.map)] from by rw [e1]; exact ihm _ ⟨by omega, by omega⟩)) rfl rfl) ?_
          refine g_u (s_as_imm rfl rfl) ?_
          refine g_nil ?_
          refine normal_thn ?_
          refine aw_ret ?_
          refine ret_blk ?_
          refine ret_thn ?_
          exact ⟨⟨(rfl : toAV (Al.look _ _) = some _).trans (congrArg some (by (exact congrArg iv (by unfold contentM; first | (exfalso; omega) | (rw [if_pos (by omega), if_pos (by omega)]; done) | (rw [if_pos (by omega), if_neg (by omega)]; done) | (rw [if_neg (by omega), if_pos (by omega), if_pos (by omega)]; done) | (rw [if_neg (by omega), if_pos (by omega), if_neg (by omega)]; done) | (rw [if_neg (by omega), if_neg (by omega), if_pos (by omega), h2, E, orC_pos _ _ (by omega)]; done) | (rw [if_neg (by omega), if_neg (by omega), if_pos (by omega), h2, hin, List.drop_length]; rfl) | (rw [if_neg (by omega), if_neg (by omega), if_neg (by omega), if_pos (by omega)]; done) | (rw [if_neg (by omega), if_neg (by omega), if_neg (by omega), if_neg (by omega)]; done))))), rfl⟩, trivial⟩
        · skip
          have q := beq_eq_false_iff_ne.1 hb9
          refine aw_skip ?_
          refine normal_blk ?_
          refine normal_thn ?_
          refine aw_seq ?_
          refine aw_region ?_
          refine g_u (s_as_imm rfl rfl) ?_
          refine g_nil ?_
          refine normal_thn ?_
          refine aw_ret ?_
          exact ⟨⟨(rfl : toAV (Al.look _ _) = some _).trans (congrArg some (by (exact congrArg iv (by unfold contentM; first | (exfalso; omega) | (rw [if_pos (by omega), if_pos (by omega)]; done) | (rw [if_pos (by omega), if_neg (by omega)]; done) | (rw [if_neg (by omega), if_pos (by omega), if_pos (by omega)]; done) | (rw [if_neg (by omega), if_pos (by omega), if_neg (by omega)]; done) | (rw [if_neg (by omega), if_neg (by omega), if_pos (by omega), h2, E, orC_pos _ _ (by omega)]; done) | (rw [if_neg (by omega), if_neg (by omega), if_pos (by omega), h2, hin, List.drop_length]; rfl) | (rw [if_neg (by omega), if_neg (by omega), if_neg (by omega), if_pos (by omega)]; done) | (rw [if_neg (by omega), if_neg (by omega), if_neg (by omega), if_neg (by omega)]; done))))), rfl⟩, trivial⟩

set_option maxHeartbeats 400000 in
theorem checkV_st (v : GV) (d : Int) (hd : 0 ≤ d ∧ d + v.wt ≤ 1000000000) (ihc : PCall Tryd.prog Γ0 171 [v.av, iv d] [iv (contentM d v)]) : PCall Tryd.prog Γ0 121 [v.av, iv d] [iv (checkV d v)] := by
  have ek := v.wt_eq
  refine pcall_of Tryd.func121 rfl Tryd.ntmps121 (by kernel_rfl) rfl fun w0 I0 G0 => ?_
  refine aw_seq ?_
  refine aw_region ?_
  refine g_uG (s_box_imm 1002 rfl rfl rfl rfl) rfl ?_
  refine g_u (s_as_imm rfl rfl) ?_
  refine g_nil ?_
  refine normal_thn ?_
  refine aw_seq ?_
  refine aw_block ?_
  refine aw_seq ?_
  refine aw_region ?_
  refine g_u (s_fieldAddr rfl rfl fa67_0 rfl) ?_
  refine g_u (s_load_imm rfl rfl rfl tA5 tS5 rfl rfl) ?_
  refine g_u (s_gtI rfl rfl rfl) ?_
  refine g_u (s_as_imm rfl rfl) ?_
  refine g_nil ?_
  refine normal_thn ?_
  refine aw_cond rfl (fun hb1 => ?_) (fun hb1 => ?_)
  · skip
    have h7 := of_decide_eq_true hb1
    refine aw_seq ?_
    refine aw_region ?_
    refine g_u (s_as_imm rfl rfl) ?_
    refine g_nil ?_
    refine normal_thn ?_
    refine aw_ret ?_
    refine ret_blk ?_
    refine ret_thn ?_
    exact ⟨⟨(rfl : toAV (Al.look _ _) = some _).trans (congrArg some (by (exact congrArg iv (by first | (exfalso; omega) | (rw [checkV_content (by omega) he (by omega)]; done) | (rw [checkV_eq, if_pos (by omega)]; done) | (rw [checkV_eq, if_neg (by omega), if_pos he]; done) | (rw [checkV_eq, if_neg (by omega), if_neg (by rw [he]; decide), if_pos (by omega)]; done))))), rfl⟩, trivial⟩
  · skip
    have h7 := of_decide_eq_false hb1
    refine aw_seq ?_
    refine aw_region ?_
    refine g_u (s_load_imm rfl rfl rfl tA67 tS67 rfl rfl) ?_
    refine g_u (s_call1 (more_c _) rfl rfl) ?_
    refine g_u (s_as_imm rfl rfl) ?_
    refine g_nil ?_
    refine normal_thn ?_
    refine aw_cond rfl (fun hb2 => ?_) (fun hb2 => ?_)
    · skip
      have he : emptyV v = false := by have e := hb2; simpa using e
      refine aw_seq ?_
      refine aw_region ?_
      refine g_u (s_as_imm rfl rfl) ?_
      refine g_nil ?_
      refine normal_thn ?_
      refine aw_ret ?_
      refine ret_blk ?_
      refine ret_thn ?_
      exact ⟨⟨(rfl : toAV (Al.look _ _) = some _).trans (congrArg some (by (exact congrArg iv (by first | (exfalso; omega) | (rw [checkV_content (by omega) he (by omega)]; done) | (rw [checkV_eq, if_pos (by omega)]; done) | (rw [checkV_eq, if_neg (by omega), if_pos he]; done) | (rw [checkV_eq, if_neg (by omega), if_neg (by rw [he]; decide), if_pos (by omega)]; done))))), rfl⟩, trivial⟩
    · skip
      have he : emptyV v = true := by have e := hb2; simpa using e
      refine aw_seq ?_
      refine aw_region ?_
      refine g_u (s_load_imm rfl rfl rfl tA67 tS67 rfl rfl) ?_
      refine g_u (s_call1 (holds_c _) rfl rfl) ?_
      refine g_u (s_mv_imm rfl rfl) ?_
      refine g_case (t := 15) rfl ?_
      rintro (hb3 | hb3)
      · rw [hb3]
        have q : v.kind = 6 ∨ v.kind = 7 := by have e := hb3; simpa using e
        refine g_run rfl rfl (s_mv_imm rfl rfl) ?_
        refine g_run rfl rfl (s_geI rfl rfl rfl) ?_
        refine g_u (s_pick_t rfl rfl rfl) ?_
        refine g_u (s_as_imm rfl rfl) ?_
        refine g_nil ?_
        refine normal_thn ?_
        refine aw_cond rfl (fun hb4 => ?_) (fun hb4 => ?_)
        · skip
          have q := of_decide_eq_true hb4
          refine aw_seq ?_
          refine aw_region ?_
          refine g_u (s_as_imm rfl rfl) ?_
          refine g_nil ?_
          refine normal_thn ?_
          refine aw_ret ?_
          refine ret_blk ?_
          refine ret_thn ?_
          exact ⟨⟨(rfl : toAV (Al.look _ _) = some _).trans (congrArg some (by (exact congrArg iv (by first | (exfalso; omega) | (rw [checkV_content (by omega) he (by omega)]; done) | (rw [checkV_eq, if_pos (by omega)]; done) | (rw [checkV_eq, if_neg (by omega), if_pos he]; done) | (rw [checkV_eq, if_neg (by omega), if_neg (by rw [he]; decide), if_pos (by omega)]; done))))), rfl⟩, trivial⟩
        · skip
          have q := of_decide_eq_false hb4
          refine aw_skip ?_
          refine normal_blk ?_
          refine normal_thn ?_
          refine aw_seq ?_
          refine aw_region ?_
          refine g_u (s_load_imm rfl rfl rfl tA67 tS67 rfl rfl) ?_
          refine g_u (s_mv_imm rfl rfl) ?_
          refine g_u (s_call1 (ihc) rfl rfl) ?_
          refine g_u (s_as_imm rfl rfl) ?_
          refine g_nil ?_
          refine normal_thn ?_
          refine aw_ret ?_
          exact ⟨⟨(rfl : toAV (Al.look _ _) = some _).trans (congrArg some (by (exact congrArg iv (by first | (exfalso; omega) | (rw [checkV_content (by omega) he (by omega)]; done) | (rw [checkV_eq, if_pos (by omega)]; done) | (rw [checkV_eq, if_neg (by omega), if_pos he]; done) | (rw [checkV_eq, if_neg (by omega), if_neg (by rw [he]; decide), if_pos (by omega)]; done))))), rfl⟩, trivial⟩
      · rw [hb3]
        have q : ¬ (v.kind = 6 ∨ v.kind = 7) := by have e := hb3; simpa using e
        refine g_skip rfl rfl rfl ?_
        refine g_skip rfl rfl rfl ?_
        refine g_u (s_pick_f rfl rfl rfl) ?_
        refine g_u (s_as_imm rfl rfl) ?_
        refine g_nil ?_
        refine normal_thn ?_
        refine aw_cond_false rfl ?_
        refine aw_skip ?_
        refine normal_blk ?_
        refine normal_thn ?_
        refine aw_seq ?_
        refine aw_region ?_
        refine g_u (s_load_imm rfl rfl rfl tA67 tS67 rfl rfl) ?_
        refine g_u (s_mv_imm rfl rfl) ?_
        refine g_u (s_call1 (ihc) rfl rfl) ?_
        refine g_u (s_as_imm rfl rfl) ?_
        refine g_nil ?_
        refine normal_thn ?_
        refine aw_ret ?_
        exact ⟨⟨(rfl : toAV (Al.look _ _) = some _).trans (congrArg some (by (exact congrArg iv (by first | (exfalso; omega) | (rw [checkV_content (by omega) he (by omega)]; done) | (rw [checkV_eq, if_pos (by omega)]; done) | (rw [checkV_eq, if_neg (by omega), if_pos he]; done) | (rw [checkV_eq, if_neg (by omega), if_neg (by rw [he]; decide), if_pos (by omega)]; done))))), rfl⟩, trivial⟩

set_option maxHeartbeats 2000000 in
theorem rempty_c (v : GV) : PCall Tryd.prog Γ0 173 [v.av] [bv (emptyV v)] := by
  refine pcall_of Tryd.func173 rfl Tryd.ntmps173 (by kernel_rfl) rfl fun w0 I0 G0 => ?_
  refine aw_seq ?_
  refine aw_region ?_
  refine g_uG (s_box_imm 1001 rfl rfl rfl rfl) rfl ?_
  refine g_u (s_as_imm rfl rfl) ?_
  refine g_nil ?_
  refine normal_thn ?_
  refine aw_seq ?_
  refine aw_cut' (fun _ : Unit => [(1, .ptr 1001 0), (1001, .box 67 (.imm v.av)), (3, .imm (bv (v.kind == 1 || v.kind == 5 || decide (v.text.size = 0))))]) (fun _ => True) ?_ ?_
  · skip
    refine aw_region ?_
    refine g_u (s_fieldAddr rfl rfl fa67_0 rfl) ?_
    refine g_u (s_load_imm rfl rfl rfl tA5 tS5 rfl rfl) ?_
    refine g_u (s_eqI rfl rfl rfl) ?_
    refine g_u (s_mv_imm rfl rfl) ?_
    refine g_case (t := 11) rfl ?_
    rintro (hb1 | hb1)
    · rw [hb1]
      refine g_skip rfl rfl rfl ?_
      refine g_skip rfl rfl rfl ?_
      refine g_skip rfl rfl rfl ?_
      refine g_u (s_pick_t rfl rfl rfl) ?_
      refine g_u (s_mv_imm rfl rfl) ?_
      refine g_skip rfl rfl rfl ?_
      refine g_skip rfl rfl rfl ?_
      refine g_skip rfl rfl rfl ?_
      refine g_u (s_pick_t rfl rfl rfl) ?_
      refine g_u (s_as_imm rfl rfl) ?_
      refine g_nil ?_
      refine normal_thn ?_
      exact ⟨(), trivial, ⟨rfl, rfl, look_bool rfl (by (try simp only [str_beq] at *); simp_all [size0, len_beq]), trivial⟩⟩
    · rw [hb1]
      refine g_run rfl rfl (s_fieldAddr rfl rfl fa67_0 rfl) ?_
      refine g_run rfl rfl (s_load_imm rfl rfl rfl tA5 tS5 rfl rfl) ?_
      refine g_run rfl rfl (s_eqI rfl rfl rfl) ?_
      refine g_u (s_pick_f rfl rfl rfl) ?_
      refine g_u (s_mv_imm rfl rfl) ?_
      refine g_case (t := 16) rfl ?_
      rintro (hb2 | hb2)
      · rw [hb2]
        refine g_skip rfl rfl rfl ?_
        refine g_skip rfl rfl rfl ?_
        refine g_skip rfl rfl rfl ?_
        refine g_u (s_pick_t rfl rfl rfl) ?_
        refine g_u (s_as_imm rfl rfl) ?_
        refine g_nil ?_
        refine normal_thn ?_
        exact ⟨(), trivial, ⟨rfl, rfl, look_bool rfl (by (try simp only [str_beq] at *); simp_all [size0, len_beq]), trivial⟩⟩
      · rw [hb2]
        refine g_run rfl rfl (s_fieldAddr rfl rfl fa67_1 rfl) ?_
        refine g_run rfl rfl (s_load_imm rfl rfl rfl tA9 tS9 rfl rfl) ?_
        refine g_run rfl rfl (s_eqS rfl rfl rfl) ?_
        refine g_u (s_pick_f rfl rfl rfl) ?_
        refine g_u (s_as_imm rfl rfl) ?_
        refine g_nil ?_
        refine normal_thn ?_
        exact ⟨(), trivial, ⟨rfl, rfl, look_bool rfl (by (try simp only [str_beq] at *); simp_all [size0, len_beq]), trivial⟩⟩
  · rintro _ _
    refine aw_seq ?_
    refine aw_cut' (fun _ : Unit => [(1, .ptr 1001 0), (1001, .box 67 (.imm v.av)), (3, .imm (bv (v.kind == 1 || v.kind == 5 || decide (v.text.size = 0)))), (4, .imm (bv (v.kind == 2 || v.kind == 3 || v.num == 0)))]) (fun _ => True) ?_ ?_
    · skip
      refine aw_region ?_
      refine g_u (s_fieldAddr rfl rfl fa67_0 rfl) ?_
      refine g_u (s_load_imm rfl rfl rfl tA5 tS5 rfl rfl) ?_
      refine g_u (s_eqI rfl rfl rfl) ?_
      refine g_u (s_mv_imm rfl rfl) ?_
      refine g_case (t := 24) rfl ?_
      rintro (hb3 | hb3)
      · rw [hb3]
        refine g_skip rfl rfl rfl ?_
        refine g_skip rfl rfl rfl ?_
        refine g_skip rfl rfl rfl ?_
        refine g_u (s_pick_t rfl rfl rfl) ?_
        refine g_u (s_mv_imm rfl rfl) ?_
        refine g_skip rfl rfl rfl ?_
        refine g_skip rfl rfl rfl ?_
        refine g_skip rfl rfl rfl ?_
        refine g_u (s_pick_t rfl rfl rfl) ?_
        refine g_u (s_as_imm rfl rfl) ?_
        refine g_nil ?_
        refine normal_thn ?_
        exact ⟨(), trivial, ⟨rfl, rfl, rfl, look_bool rfl (by (try simp only [str_beq] at *); simp_all [size0, len_beq]), trivial⟩⟩
      · rw [hb3]
        refine g_run rfl rfl (s_fieldAddr rfl rfl fa67_0 rfl) ?_
        refine g_run rfl rfl (s_load_imm rfl rfl rfl tA5 tS5 rfl rfl) ?_
        refine g_run rfl rfl (s_eqI rfl rfl rfl) ?_
        refine g_u (s_pick_f rfl rfl rfl) ?_
        refine g_u (s_mv_imm rfl rfl) ?_
        refine g_case (t := 29) rfl ?_
        rintro (hb4 | hb4)
        · rw [hb4]
          refine g_skip rfl rfl rfl ?_
          refine g_skip rfl rfl rfl ?_
          refine g_skip rfl rfl rfl ?_
          refine g_u (s_pick_t rfl rfl rfl) ?_
          refine g_u (s_as_imm rfl rfl) ?_
          refine g_nil ?_
          refine normal_thn ?_
          exact ⟨(), trivial, ⟨rfl, rfl, rfl, look_bool rfl (by (try simp only [str_beq] at *); simp_all [size0, len_beq]), trivial⟩⟩
        · rw [hb4]
          refine g_run rfl rfl (s_fieldAddr rfl rfl fa67_2 rfl) ?_
          refine g_run rfl rfl (s_load_imm rfl rfl rfl tA3 tS3 rfl rfl) ?_
          refine g_run rfl rfl (s_eqI rfl rfl rfl) ?_
          refine g_u (s_pick_f rfl rfl rfl) ?_
          refine g_u (s_as_imm rfl rfl) ?_
          refine g_nil ?_
          refine normal_thn ?_
          exact ⟨(), trivial, ⟨rfl, rfl, rfl, look_bool rfl (by (try simp only [str_beq] at *); simp_all [size0, len_beq]), trivial⟩⟩
    · rintro _ _
      refine aw_seq ?_
      refine aw_cut' (fun _ : Unit => [(1, .ptr 1001 0), (1001, .box 67 (.imm v.av)), (3, .imm (bv (v.kind == 1 || v.kind == 5 || decide (v.text.size = 0)))), (4, .imm (bv (v.kind == 2 || v.kind == 3 || v.num == 0))), (5, .imm (bv (v.kind == 4 || v.bits == 0)))]) (fun _ => True) ?_ ?_
      · skip
        refine aw_region ?_
        refine g_u (s_fieldAddr rfl rfl fa67_0 rfl) ?_
        refine g_u (s_load_imm rfl rfl rfl tA5 tS5 rfl rfl) ?_
        refine g_u (s_eqI rfl rfl rfl) ?_
        refine g_u (s_mv_imm rfl rfl) ?_
        refine g_case (t := 37) rfl ?_
        rintro (hb5 | hb5)
        · rw [hb5]
          refine g_skip rfl rfl rfl ?_
          refine g_skip rfl rfl rfl ?_
          refine g_skip rfl rfl rfl ?_
          refine g_u (s_pick_t rfl rfl rfl) ?_
          refine g_u (s_as_imm rfl rfl) ?_
          refine g_nil ?_
          refine normal_thn ?_
          exact ⟨(), trivial, ⟨rfl, rfl, rfl, rfl, look_bool rfl (by (try simp only [str_beq] at *); simp_all [size0, len_beq]), trivial⟩⟩
        · rw [hb5]
          refine g_run rfl rfl (s_fieldAddr rfl rfl fa67_3 rfl) ?_
          refine g_run rfl rfl (s_load_imm rfl rfl rfl tA29 tS29 rfl rfl) ?_
          refine g_run rfl rfl (s_eqI rfl rfl rfl) ?_
          refine g_u (s_pick_f rfl rfl rfl) ?_
          refine g_u (s_as_imm rfl rfl) ?_
          refine g_nil ?_
          refine normal_thn ?_
          exact ⟨(), trivial, ⟨rfl, rfl, rfl, rfl, look_bool rfl (by (try simp only [str_beq] at *); simp_all [size0, len_beq]), trivial⟩⟩
      · rintro _ _
        refine aw_seq ?_
        refine aw_cut' (fun _ : Unit => [(1, .ptr 1001 0), (1001, .box 67 (.imm v.av)), (3, .imm (bv (v.kind == 1 || v.kind == 5 || decide (v.text.size = 0)))), (4, .imm (bv (v.kind == 2 || v.kind == 3 || v.num == 0))), (5, .imm (bv (v.kind == 4 || v.bits == 0))), (6, .imm (bv (v.kind == 6 || v.list.isEmpty)))]) (fun _ => True) ?_ ?_
        · skip
          refine aw_region ?_
          refine g_u (s_fieldAddr rfl rfl fa67_0 rfl) ?_
          refine g_u (s_load_imm rfl rfl rfl tA5 tS5 rfl rfl) ?_
          refine g_u (s_eqI rfl rfl rfl) ?_
          refine g_u (s_mv_imm rfl rfl) ?_
          refine g_case (t := 45) rfl ?_
          rintro (hb6 | hb6)
          · rw [hb6]
            refine g_skip rfl rfl rfl ?_
            refine g_skip rfl rfl rfl ?_
            refine g_skip rfl rfl rfl ?_
            refine g_skip rfl rfl rfl ?_
            refine g_u (s_pick_t rfl rfl rfl) ?_
            refine g_u (s_as_imm rfl rfl) ?_
            refine g_nil ?_
            refine normal_thn ?_
            exact ⟨(), trivial, ⟨rfl, rfl, rfl, rfl, rfl, look_bool rfl (by (try simp only [str_beq] at *); simp_all [size0, len_beq]), trivial⟩⟩
          · rw [hb6]
            refine g_run rfl rfl (s_fieldAddr rfl rfl fa67_4 rfl) ?_
            refine g_run rfl rfl (s_load_imm rfl rfl rfl tA65 tS65 rfl rfl) ?_
            refine g_run rfl rfl (s_lenL rfl rfl Tryd.underlying65) ?_
            refine g_run rfl rfl (s_eqI rfl rfl rfl) ?_
            refine g_u (s_pick_f rfl rfl rfl) ?_
            refine g_u (s_as_imm rfl rfl) ?_
            refine g_nil ?_
            refine normal_thn ?_
            exact ⟨(), trivial, ⟨rfl, rfl, rfl, rfl, rfl, look_bool rfl (by (try simp only [str_beq] at *); simp_all [size0, len_beq]), trivial⟩⟩
        · rintro _ _
          refine aw_seq ?_
          refine aw_cut' (fun _ : Unit => [(1, .ptr 1001 0), (1001, .box 67 (.imm v.av)), (3, .imm (bv (v.kind == 1 || v.kind == 5 || decide (v.text.size = 0)))), (4, .imm (bv (v.kind == 2 || v.kind == 3 || v.num == 0))), (5, .imm (bv (v.kind == 4 || v.bits == 0))), (6, .imm (bv (v.kind == 6 || v.list.isEmpty))), (7, .imm (bv (v.kind == 7 || v.map.isEmpty)))]) (fun _ => True) ?_ ?_
          · skip
            refine aw_region ?_
            refine g_u (s_fieldAddr rfl rfl fa67_0 rfl) ?_
            refine g_u (s_load_imm rfl rfl rfl tA5 tS5 rfl rfl) ?_
            refine g_u (s_eqI rfl rfl rfl) ?_
            refine g_u (s_mv_imm rfl rfl) ?_
            refine g_case (t := 54) rfl ?_
            rintro (hb7 | hb7)
            · rw [hb7]
              refine g_skip rfl rfl rfl ?_
              refine g_skip rfl rfl rfl ?_
              refine g_skip rfl rfl rfl ?_
              refine g_skip rfl rfl rfl ?_
              refine g_u (s_pick_t rfl rfl rfl) ?_
              refine g_u (s_as_imm rfl rfl) ?_
              refine g_nil ?_
              refine normal_thn ?_
              exact ⟨(), trivial, ⟨rfl, rfl, rfl, rfl, rfl, rfl, look_bool rfl (by (try simp only [str_beq] at *); simp_all [size0, len_beq]), trivial⟩⟩
            · rw [hb7]
              refine g_run rfl rfl (s_fieldAddr rfl rfl fa67_5 rfl) ?_
              refine g_run rfl rfl (s_load_imm rfl rfl rfl tA30 tS30 rfl rfl) ?_
              refine g_run rfl rfl (s_lenL rfl rfl Tryd.underlying30) ?_
              refine g_run rfl rfl (s_eqI rfl rfl rfl) ?_
              refine g_u (s_pick_f rfl rfl rfl) ?_
              refine g_u (s_as_imm rfl rfl) ?_
              refine g_nil ?_
              refine normal_thn ?_
              exact ⟨(), trivial, ⟨rfl, rfl, rfl, rfl, rfl, rfl, look_bool rfl (by (try simp only [str_beq] at *); simp_all [size0, len_beq]), trivial⟩⟩
          · rintro _ _
            refine aw_seq ?_
            refine aw_region ?_
            refine g_u (s_mv_imm rfl rfl) ?_
            refine g_u (s_mv_imm rfl rfl) ?_
            refine g_case (t := 61) rfl ?_
            rintro (hb8 | hb8)
            · rw [hb8]
              refine g_run rfl rfl (s_mv_imm rfl rfl) ?_
              refine g_u (s_pick_t rfl rfl rfl) ?_
              refine g_u (s_mv_imm rfl rfl) ?_
              refine g_case (t := 64) rfl ?_
              rintro (hb9 | hb9)
              · rw [hb9]
                refine g_run rfl rfl (s_mv_imm rfl rfl) ?_
                refine g_u (s_pick_t rfl rfl rfl) ?_
                refine g_u (s_mv_imm rfl rfl) ?_
                refine g_case (t := 67) rfl ?_
                rintro (hb10 | hb10)
                · rw [hb10]
                  refine g_run rfl rfl (s_mv_imm rfl rfl) ?_
                  refine g_u (s_pick_t rfl rfl rfl) ?_
                  refine g_u (s_mv_imm rfl rfl) ?_
                  refine g_case (t := 70) rfl ?_
                  rintro (hb11 | hb11)
                  · rw [hb11]
                    refine g_run rfl rfl (s_mv_imm rfl rfl) ?_
                    refine g_u (s_pick_t rfl rfl rfl) ?_
                    refine g_u (s_as_imm rfl rfl) ?_
                    refine g_nil ?_
                    refine normal_thn ?_
                    refine aw_ret ?_
                    exact ⟨⟨(rfl : toAV (Al.look _ _) = some _).trans (congrArg some (by (exact congrArg bv (by unfold emptyV; simp_all)))), rfl⟩, trivial⟩
                  · rw [hb11]
                    refine g_skip rfl rfl rfl ?_
                    refine g_u (s_pick_f rfl rfl rfl) ?_
                    refine g_u (s_as_imm rfl rfl) ?_
                    refine g_nil ?_
                    refine normal_thn ?_
                    refine aw_ret ?_
                    exact ⟨⟨(rfl : toAV (Al.look _ _) = some _).trans (congrArg some (by (exact congrArg bv (by unfold emptyV; simp_all)))), rfl⟩, trivial⟩
                · rw [hb10]
                  refine g_skip rfl rfl rfl ?_
                  refine g_u (s_pick_f rfl rfl rfl) ?_
                  refine g_u (s_mv_imm rfl rfl) ?_
                  refine g_skip rfl rfl rfl ?_
                  refine g_u (s_pick_f rfl rfl rfl) ?_
                  refine g_u (s_as_imm rfl rfl) ?_
                  refine g_nil ?_
                  refine normal_thn ?_
                  refine aw_ret ?_
                  exact ⟨⟨(rfl : toAV (Al.look _ _) = some _).trans (congrArg some (by (exact congrArg bv (by unfold emptyV; simp_all)))), rfl⟩, trivial⟩
              · rw [hb9]
                refine g_skip rfl rfl rfl ?_
                refine g_u (s_pick_f rfl rfl rfl) ?_
                refine g_u (s_mv_imm rfl rfl) ?_
                refine g_skip rfl rfl rfl ?_
                refine g_u (s_pick_f rfl rfl rfl) ?_
                refine g_u (s_mv_imm rfl rfl) ?_
                refine g_skip rfl rfl rfl ?_
                refine g_u (s_pick_f rfl rfl rfl) ?_
                refine g_u (s_as_imm rfl rfl) ?_
                refine g_nil ?_
                refine normal_thn ?_
                refine aw_ret ?_
                exact ⟨⟨(rfl : toAV (Al.look _ _) = some _).trans (congrArg some (by (exact congrArg bv (by unfold emptyV; simp_all)))), rfl⟩, trivial⟩
            · rw [hb8]
              refine g_skip rfl rfl rfl ?_
              refine g_u (s_pick_f rfl rfl rfl) ?_
              refine g_u (s_mv_imm rfl rfl) ?_
              refine g_skip rfl rfl rfl ?_
              refine g_u (s_pick_f rfl rfl rfl) ?_
              refine g_u (s_mv_imm rfl rfl) ?_
              refine g_skip rfl rfl rfl ?_
              refine g_u (s_pick_f rfl rfl rfl) ?_
              refine g_u (s_mv_imm rfl rfl) ?_
              refine g_skip rfl rfl rfl ?_
              refine g_u (s_pick_f rfl rfl rfl) ?_
              refine g_u (s_as_imm rfl rfl) ?_
              refine g_nil ?_
              refine normal_thn ?_
              refine aw_ret ?_
              exact ⟨⟨(rfl : toAV (Al.look _ _) = some _).trans (congrArg some (by (exact congrArg bv (by unfold emptyV; simp_all)))), rfl⟩, trivial⟩

set_option maxHeartbeats 2000000 in
theorem rcheckV_st (v : GV) (d : Int) (hd : 0 ≤ d ∧ d + v.wt ≤ 1000000000) (ih : ∀ y ∈ v.list, ∀ d : Int, 0 ≤ d ∧ d + y.wt ≤ 1000000000 → PCall Tryd.prog Γ0 123 [y.av, iv d] [iv (checkV d y)]) (ihm : ∀ d : Int, 0 ≤ d ∧ d + wtAs v.map ≤ 1000000000 → PCall Tryd.prog Γ0 83 [.sl 7 (v.map.map avA), iv d] [iv (entC d none v.map)]) : PCall Tryd.prog Γ0 123 [v.av, iv d] [iv (checkV d v)] := by
  have ek := v.wt_eq
  have e1 : IntKind.i64.wrap (d + 1) = d + 1 := wrap64 (by omega) (by omega)
  have lv := len_wtVs v.list
  have cr := check_range v.text
  have ce := check_eq v.text
  refine pcall_of Tryd.func123 rfl Tryd.ntmps123 (by kernel_rfl) rfl fun w0 I0 G0 => ?_
  refine aw_seq ?_
  refine aw_region ?_
  refine g_uG (s_box_imm 1002 rfl rfl rfl rfl) rfl ?_
  refine g_u (s_as_imm rfl rfl) ?_
  refine g_nil ?_
  refine normal_thn ?_
  refine aw_seq ?_
  refine aw_cut' (fun _ : Unit => [(2, .ptr 1002 0), (1002, .box 67 (.imm v.av)), (1, .imm (iv d))]) (fun _ => ¬ 7 < v.kind) ?_ ?_
  · skip
    refine aw_seq ?_
    refine aw_region ?_
    refine g_u (s_fieldAddr rfl rfl fa67_0 rfl) ?_
    refine g_u (s_load_imm rfl rfl rfl tA5 tS5 rfl rfl) ?_
    refine g_u (s_gtI rfl rfl rfl) ?_
    refine g_nil ?_
    refine normal_thn ?_
    refine aw_cond rfl (fun hb1 => ?_) (fun hb1 => ?_)
    · skip
      have q := of_decide_eq_true hb1
      refine aw_seq ?_
      refine aw_region ?_
      refine g_u (s_as_imm rfl rfl) ?_
      refine g_nil ?_
      refine normal_thn ?_
      refine aw_ret ?_
      refine ret_thn ?_
      exact ⟨⟨(rfl : toAV (Al.look _ _) = some _).trans (congrArg some (by (exact congrArg iv (by first | (rw [checkV_eq, if_pos (by omega)]; done) | (rw [checkV_eq, if_neg (by omega), if_pos he]; done) | (rw [checkV_eq, if_neg (by omega), if_neg (by rw [hc.2]; decide), if_pos (by omega)]; done) | (rw [checkV_eq, if_neg (by omega), if_neg (by rw [hc.2.1]; decide), if_neg (by omega), if_pos (by omega)]; done) | (rw [checkV_eq, if_neg (by omega), if_neg (by rw [hc.2.1]; decide), if_neg (by omega), if_neg (by omega), if_pos (by omega)]; done) | (rw [h2, E, orC_pos _ _ (by rw [orC_pos _ _ (by omega)]; omega), orC_pos _ _ (by omega)]; done) | (rw [h2, E, orC_pos (checkV (d + 1) _) _ (by omega), orC_pos _ _ (by omega)]; done) | (rw [h2, hin, List.drop_length]; exact (orC_zero _ _ rfl).symm))))), rfl⟩, trivial⟩
    · skip
      have q := of_decide_eq_false hb1
      refine aw_skip ?_
      refine normal_thn ?_
      exact ⟨(), by (try dsimp only); omega, ⟨rfl, rfl, rfl, trivial⟩⟩
  · rintro _ hc
    refine aw_seq ?_
    refine aw_cut' (fun _ : Unit => [(2, .ptr 1002 0), (1002, .box 67 (.imm v.av)), (1, .imm (iv d))]) (fun _ => ¬ 7 < v.kind ∧ emptyV v = true) ?_ ?_
    · skip
      refine aw_seq ?_
      refine aw_region ?_
      refine g_u (s_load_imm rfl rfl rfl tA67 tS67 rfl rfl) ?_
      refine g_u (s_call1 (rempty_c _) rfl rfl) ?_
      refine g_u (s_not rfl rfl) ?_
      refine g_nil ?_
      refine normal_thn ?_
      refine aw_cond rfl (fun hb2 => ?_) (fun hb2 => ?_)
      · skip
        have he : emptyV v = false := by have e := hb2; simpa using e
        refine aw_seq ?_
        refine aw_region ?_
        refine g_u (s_as_imm rfl rfl) ?_
        refine g_nil ?_
        refine normal_thn ?_
        refine aw_ret ?_
        refine ret_thn ?_
        exact ⟨⟨(rfl : toAV (Al.look _ _) = some _).trans (congrArg some (by (exact congrArg iv (by first | (rw [checkV_eq, if_pos (by omega)]; done) | (rw [checkV_eq, if_neg (by omega), if_pos he]; done) | (rw [checkV_eq, if_neg (by omega), if_neg (by rw [hc.2]; decide), if_pos (by omega)]; done) | (rw [checkV_eq, if_neg (by omega), if_neg (by rw [hc.2.1]; decide), if_neg (by omega), if_pos (by omega)]; done) | (rw [checkV_eq, if_neg (by omega), if_neg (by rw [hc.2.1]; decide), if_neg (by omega), if_neg (by omega), if_pos (by omega)]; done) | (rw [h2, E, orC_pos _ _ (by rw [orC_pos _ _ (by omega)]; omega), orC_pos _ _ (by omega)]; done) | (rw [h2, E, orC_pos (checkV (d + 1) _) _ (by omega), orC_pos _ _ (by omega)]; done) | (rw [h2, hin, List.drop_length]; exact (orC_zero _ _ rfl).symm))))), rfl⟩, trivial⟩
      · skip
        have he : emptyV v = true := by have e := hb2; simpa using e
        refine aw_skip ?_
        refine normal_thn ?_
        exact ⟨(), by (try dsimp only); exact ⟨hc, he⟩, ⟨rfl, rfl, rfl, trivial⟩⟩
    · rintro _ hc
      refine aw_seq ?_
      refine aw_cut' (fun _ : Unit => [(2, .ptr 1002 0), (1002, .box 67 (.imm v.av)), (1, .imm (iv d))]) (fun _ => ¬ 7 < v.kind ∧ emptyV v = true ∧ ¬ (6 ≤ v.kind ∧ 16 ≤ d)) ?_ ?_
      · skip
        refine aw_seq ?_
        refine aw_region ?_
        refine g_u (s_fieldAddr rfl rfl fa67_0 rfl) ?_
        refine g_u (s_load_imm rfl rfl rfl tA5 tS5 rfl rfl) ?_
        refine g_u (s_geI rfl rfl rfl) ?_
        refine g_u (s_mv_imm rfl rfl) ?_
        refine g_case (t := 16) rfl ?_
        rintro (hb3 | hb3)
        · rw [hb3]
          have q := of_decide_eq_true hb3
          refine g_run rfl rfl (s_mv_imm rfl rfl) ?_
          refine g_run rfl rfl (s_geI rfl rfl rfl) ?_
          refine g_u (s_pick_t rfl rfl rfl) ?_
          refine g_nil ?_
          refine normal_thn ?_
          refine aw_cond rfl (fun hb4 => ?_) (fun hb4 => ?_)
          · skip
            have q := of_decide_eq_true hb4
            refine aw_seq ?_
            refine aw_region ?_
            refine g_u (s_as_imm rfl rfl) ?_
            refine g_nil ?_
            refine normal_thn ?_
            refine aw_ret ?_
            refine ret_thn ?_
            exact ⟨⟨(rfl : toAV (Al.look _ _) = some _).trans (congrArg some (by (exact congrArg iv (by first | (rw [checkV_eq, if_pos (by omega)]; done) | (rw [checkV_eq, if_neg (by omega), if_pos he]; done) | (rw [checkV_eq, if_neg (by omega), if_neg (by rw [hc.2]; decide), if_pos (by omega)]; done) | (rw [checkV_eq, if_neg (by omega), if_neg (by rw [hc.2.1]; decide), if_neg (by omega), if_pos (by omega)]; done) | (rw [checkV_eq, if_neg (by omega), if_neg (by rw [hc.2.1]; decide), if_neg (by omega), if_neg (by omega), if_pos (by omega)]; done) | (rw [h2, E, orC_pos _ _ (by rw [orC_pos _ _ (by omega)]; omega), orC_pos _ _ (by omega)]; done) | (rw [h2, E, orC_pos (checkV (d + 1) _) _ (by omega), orC_pos _ _ (by omega)]; done) | (rw [h2, hin, List.drop_length]; exact (orC_zero _ _ rfl).symm))))), rfl⟩, trivial⟩
          · skip
            have q := of_decide_eq_false hb4
            refine aw_skip ?_
            refine normal_thn ?_
            exact ⟨(), by (try dsimp only); exact ⟨hc.1, hc.2, by omega⟩, ⟨rfl, rfl, rfl, trivial⟩⟩
        · rw [hb3]
          have q := of_decide_eq_false hb3
          refine g_skip rfl rfl rfl ?_
          refine g_skip rfl rfl rfl ?_
          refine g_u (s_pick_f rfl rfl rfl) ?_
          refine g_nil ?_
          refine normal_thn ?_
          refine aw_cond_false rfl ?_
          refine aw_skip ?_
          refine normal_thn ?_
          exact ⟨(), by (try dsimp only); exact ⟨hc.1, hc.2, by omega⟩, ⟨rfl, rfl, rfl, trivial⟩⟩
      · rintro _ hc
        refine aw_seq ?_
        refine aw_cut' (fun _ : Unit => [(2, .ptr 1002 0), (1002, .box 67 (.imm v.av)), (1, .imm (iv d))]) (fun _ => ¬ 7 < v.kind ∧ emptyV v = true ∧ ¬ (6 ≤ v.kind ∧ 16 ≤ d) ∧ ¬ (v.kind = 1 ∧ checkM v.text ≠ -1)) ?_ ?_
        · skip
          refine aw_seq ?_
          refine aw_region ?_
          refine g_u (s_fieldAddr rfl rfl fa67_0 rfl) ?_
          refine g_u (s_load_imm rfl rfl rfl tA5 tS5 rfl rfl) ?_
          refine g_u (s_eqI rfl rfl rfl) ?_
          refine g_u (s_mv_imm rfl rfl) ?_
          refine g_case (t := 23) rfl ?_
          rintro (hb5 | hb5)
          · rw [hb5]
            have q := beq_iff_eq.1 hb5
            refine g_run rfl rfl (s_fieldAddr rfl rfl fa67_1 rfl) ?_
            refine g_run rfl rfl (s_load_imm rfl rfl rfl tA9 tS9 rfl rfl) ?_
            refine g_run rfl rfl (s_call1 (rcheck_c _ (by omega)) rfl rfl) ?_
            refine g_run rfl rfl (s_neI rfl rfl rfl) ?_
            refine g_u (s_pick_t rfl rfl rfl) ?_
            refine g_nil ?_
            refine normal_thn ?_
            refine aw_cond rfl (fun hb6 => ?_) (fun hb6 => ?_)
            · skip
              have q := bne_iff_ne.1 hb6
              refine aw_seq ?_
              refine aw_region ?_
              refine g_u (s_as_imm rfl rfl) ?_
              refine g_nil ?_
              refine normal_thn ?_
              refine aw_ret ?_
              refine ret_thn ?_
              exact ⟨⟨(rfl : toAV (Al.look _ _) = some _).trans (congrArg some (by (exact congrArg iv (by first | (rw [checkV_eq, if_pos (by omega)]; done) | (rw [checkV_eq, if_neg (by omega), if_pos he]; done) | (rw [checkV_eq, if_neg (by omega), if_neg (by rw [hc.2]; decide), if_pos (by omega)]; done) | (rw [checkV_eq, if_neg (by omega), if_neg (by rw [hc.2.1]; decide), if_neg (by omega), if_pos (by omega)]; done) | (rw [checkV_eq, if_neg (by omega), if_neg (by rw [hc.2.1]; decide), if_neg (by omega), if_neg (by omega), if_pos (by omega)]; done) | (rw [h2, E, orC_pos _ _ (by rw [orC_pos _ _ (by omega)]; omega), orC_pos _ _ (by omega)]; done) | (rw [h2, E, orC_pos (checkV (d + 1) _) _ (by omega), orC_pos _ _ (by omega)]; done) | (rw [h2, hin, List.drop_length]; exact (orC_zero _ _ rfl).symm))))), rfl⟩, trivial⟩
            · skip
              have q := bne_eq_false_iff_eq.1 hb6
              refine aw_skip ?_
              refine normal_thn ?_
              exact ⟨(), by (try dsimp only); exact ⟨hc.1, hc.2.1, hc.2.2, by omega⟩, ⟨rfl, rfl, rfl, trivial⟩⟩
          · rw [hb5]
            have q := beq_eq_false_iff_ne.1 hb5
            refine g_skip rfl rfl rfl ?_
            refine g_skip rfl rfl rfl ?_
            refine g_skip rfl rfl rfl ?_
            refine g_skip rfl rfl rfl ?_
            refine g_u (s_pick_f rfl rfl rfl) ?_
            refine g_nil ?_
            refine normal_thn ?_
            refine aw_cond_false rfl ?_
            refine aw_skip ?_
            refine normal_thn ?_
            exact ⟨(), by (try dsimp only); exact ⟨hc.1, hc.2.1, hc.2.2, by omega⟩, ⟨rfl, rfl, rfl, trivial⟩⟩
        · rintro _ hc
          refine aw_seq ?_
          refine aw_cut' (fun _ : Unit => [(2, .ptr 1002 0), (1002, .box 67 (.imm v.av)), (1, .imm (iv d))]) (fun _ => checkV d v = orC (checkVs (d + 1) v.list) (entC (d + 1) none v.map)) ?_ ?_
          · skip
            refine aw_seq ?_
            refine aw_region ?_
            refine g_u (s_fieldAddr rfl rfl fa67_0 rfl) ?_
            refine g_u (s_load_imm rfl rfl rfl tA5 tS5 rfl rfl) ?_
            refine g_u (s_eqI rfl rfl rfl) ?_
            refine g_u (s_mv_imm rfl rfl) ?_
            refine g_case (t := 32) rfl ?_
            rintro (hb7 | hb7)
            · rw [hb7]
              have q := beq_iff_eq.1 hb7
              refine g_run rfl rfl (s_fieldAddr rfl rfl fa67_2 rfl) ?_
              refine g_run rfl rfl (s_load_imm rfl rfl rfl tA3 tS3 rfl rfl) ?_
              refine g_run rfl rfl (s_ltI rfl rfl rfl) ?_
              refine g_run rfl rfl (s_mv_imm rfl rfl) ?_
              refine g_case (t := 36) rfl ?_
              rintro (hb8 | hb8)
              · rw [hb8]
                have q := of_decide_eq_true hb8
                refine g_skip rfl rfl rfl ?_
                refine g_skip rfl rfl rfl ?_
                refine g_skip rfl rfl rfl ?_
                refine g_run rfl rfl (s_pick_t rfl rfl rfl) ?_
                refine g_u (s_pick_t rfl rfl rfl) ?_
                refine g_nil ?_
                refine normal_thn ?_
                refine aw_cond_true rfl ?_
                refine aw_seq ?_
                refine aw_region ?_
                refine g_u (s_as_imm rfl rfl) ?_
                refine g_nil ?_
                refine normal_thn ?_
                refine aw_ret ?_
                refine ret_thn ?_
                exact ⟨⟨(rfl : toAV (Al.look _ _) = some _).trans (congrArg some (by (exact congrArg iv (by first | (rw [checkV_eq, if_pos (by omega)]; done) | (rw [checkV_eq, if_neg (by omega), if_pos he]; done) | (rw [checkV_eq, if_neg (by omega), if_neg (by rw [hc.2]; decide), if_pos (by omega)]; done) | (rw [checkV_eq, if_neg (by omega), if_neg (by rw [hc.2.1]; decide), if_neg (by omega), if_pos (by omega)]; done) | (rw [checkV_eq, if_neg (by omega), if_neg (by rw [hc.2.1]; decide), if_neg (by omega), if_neg (by omega), if_pos (by omega)]; done) | (rw [h2, E, orC_pos _ _ (by rw [orC_pos _ _ (by omega)]; omega), orC_pos _ _ (by omega)]; done) | (rw [h2, E, orC_pos (checkV (d + 1) _) _ (by omega), orC_pos _ _ (by omega)]; done) | (rw [h2, hin, List.drop_length]; exact (orC_zero _ _ rfl).symm))))), rfl⟩, trivial⟩
              · rw [hb8]
                have q := of_decide_eq_false hb8
                refine g_run rfl rfl (s_fieldAddr rfl rfl fa67_2 rfl) ?_
                refine g_run rfl rfl (s_load_imm rfl rfl rfl tA3 tS3 rfl rfl) ?_
                refine g_run rfl rfl (s_gtI rfl rfl rfl) ?_
                refine g_run rfl rfl (s_pick_f rfl rfl rfl) ?_
                refine g_u (s_pick_t rfl rfl rfl) ?_
                refine g_nil ?_
                refine normal_thn ?_
                refine aw_cond rfl (fun hb9 => ?_) (fun hb9 => ?_)
                · skip
                  have q := of_decide_eq_true hb9
                  refine aw_seq ?_
                  refine aw_region ?_
                  refine g_u (s_as_imm rfl rfl) ?_
                  refine g_nil ?_
                  refine normal_thn ?_
                  refine aw_ret ?_
                  refine ret_thn ?_
                  exact ⟨⟨(rfl : toAV (Al.look _ _) = some _).trans (congrArg some (by (exact congrArg iv (by first | (rw [checkV_eq, if_pos (by omega)]; done) | (rw [checkV_eq, if_neg (by omega), if_pos he]; done) | (rw [checkV_eq, if_neg (by omega), if_neg (by rw [hc.2]; decide), if_pos (by omega)]; done) | (rw [checkV_eq, if_neg (by omega), if_neg (by rw [hc.2.1]; decide), if_neg (by omega), if_pos (by omega)]; done) | (rw [checkV_eq, if_neg (by omega), if_neg (by rw [hc.2.1]; decide), if_neg (by omega), if_neg (by omega), if_pos (by omega)]; done) | (rw [h2, E, orC_pos _ _ (by rw [orC_pos _ _ (by omega)]; omega), orC_pos _ _ (by omega)]; done) | (rw [h2, E, orC_pos (checkV (d + 1) _) _ (by omega), orC_pos _ _ (by omega)]; done) | (rw [h2, hin, List.drop_length]; exact (orC_zero _ _ rfl).symm))))), rfl⟩, trivial⟩
                · skip
                  have q := of_decide_eq_false hb9
                  refine aw_skip ?_
                  refine normal_thn ?_
                  exact ⟨(), by (try dsimp only); (rw [checkV_eq, if_neg hc.1, if_neg (by rw [hc.2.1]; decide), if_neg hc.2.2.1, if_neg hc.2.2.2, if_neg (by omega)]), ⟨rfl, rfl, rfl, trivial⟩⟩
            · rw [hb7]
              have q := beq_eq_false_iff_ne.1 hb7
              refine g_skip rfl rfl rfl ?_
              refine g_skip rfl rfl rfl ?_
              refine g_skip rfl rfl rfl ?_
              refine g_skip rfl rfl rfl ?_
              refine g_skip' rfl rfl rfl ?_
              refine g_skip' rfl rfl rfl ?_
              refine g_skip' rfl rfl rfl ?_
              refine g_skip rfl rfl rfl ?_
              refine g_u (s_pick_f rfl rfl rfl) ?_
              refine g_nil ?_
              refine normal_thn ?_
              refine aw_cond_false rfl ?_
              refine aw_skip ?_
              refine normal_thn ?_
              exact ⟨(), by (try dsimp only); (rw [checkV_eq, if_neg hc.1, if_neg (by rw [hc.2.1]; decide), if_neg hc.2.2.1, if_neg hc.2.2.2, if_neg (by omega)]), ⟨rfl, rfl, rfl, trivial⟩⟩
          · rintro _ hc
            refine aw_seq ?_
            refine aw_seq ?_
            refine aw_region ?_
            refine g_u (s_as_imm rfl rfl) ?_
            refine g_nil ?_
            refine normal_thn ?_
            refine aw_block ?_
            refine aw_loop' (fun i : Nat => [(2, .ptr 1002 0), (1002, .box 67 (.imm v.av)), (1, .imm (iv d)), (5, .imm (iv (i : Int)))]) (fun i => i ≤ v.list.length ∧ checkV d v = orC (checkVs (d + 1) (v.list.drop i)) (entC (d + 1) none v.map)) (fun i => v.list.length - i) (0) ?_ ⟨rfl, rfl, rfl, rfl, trivial⟩ ?_
            · exact ⟨Nat.zero_le _, hc⟩
            · rintro i ⟨h1, h2⟩; (try dsimp only at h1 h2)
              refine aw_seq ?_
              refine aw_seq ?_
              refine aw_region ?_
              refine g_u (s_mv_imm rfl rfl) ?_
              refine g_u (s_fieldAddr rfl rfl fa67_4 rfl) ?_
              refine g_u (s_load_imm rfl rfl rfl tA65 tS65 rfl rfl) ?_
              refine g_u (s_lenL rfl rfl Tryd.underlying65) ?_
              refine g_u (s_ltI rfl rfl rfl) ?_
              refine g_nil ?_
              refine normal_thn ?_
              refine aw_cond rfl (fun hb10 => ?_) (fun hb10 => ?_)
              · skip
                have hi : i < v.list.length := by have := of_decide_eq_true hb10; (try simp only [List.length_map] at this); omega
                have hw1 := wtVs_mem (nthV_mem hi)
                have E := checkVs_drop (d + 1) hi
                refine aw_skip ?_
                refine normal_thn ?_
                refine aw_seq ?_
                refine aw_block ?_
                refine aw_seq ?_
                refine aw_region ?_
                refine g_u (s_fieldAddr rfl rfl fa67_4 rfl) ?_
                refine g_u (s_load_imm rfl rfl rfl tA65 tS65 rfl rfl) ?_
                refine g_u (s_mv_imm rfl rfl) ?_
                refine g_u (s_indexAddr rfl rfl rfl Tryd.underlying65 tS67 (by omega) (ixV hi)) ?_
                refine g_u (s_load_cp rfl rfl tA67 tS67 rfl rfl) ?_
                refine g_u (s_mv_imm rfl rfl) ?_
                refine g_u (s_add rfl rfl rfl) ?_
                refine g_u (s_call1 ((show PCall Tryd.prog Γ0 123 [(nthV v.list i).av, iv (IntKind.i64.wrap (d + 1))] [iv (checkV (d + 1) (nthV v.list i))] from by rw [e1]; exact ih _ (nthV_mem hi) _ ⟨by omega, by omega⟩)) rfl rfl) ?_
                refine g_u (s_as_imm rfl rfl) ?_
                refine g_nil ?_
                refine normal_thn ?_
                refine aw_seq ?_
                refine aw_region ?_
                refine g_u (s_mv_imm rfl rfl) ?_
                refine g_u (s_neI rfl rfl rfl) ?_
                refine g_nil ?_
                refine normal_thn ?_
                refine aw_cond rfl (fun hb11 => ?_) (fun hb11 => ?_)
                · skip
                  have q := bne_iff_ne.1 hb11
                  refine aw_seq ?_
                  refine aw_region ?_
                  refine g_u (s_mv_imm rfl rfl) ?_
                  refine g_u (s_as_imm rfl rfl) ?_
                  refine g_nil ?_
                  refine normal_thn ?_
                  refine aw_ret ?_
                  refine ret_blk ?_
                  refine ret_thn ?_
                  refine ret_thn ?_
                  refine ret_blk ?_
                  refine ret_thn ?_
                  exact ⟨⟨(rfl : toAV (Al.look _ _) = some _).trans (congrArg some (by (exact congrArg iv (by first | (rw [checkV_eq, if_pos (by omega)]; done) | (rw [checkV_eq, if_neg (by omega), if_pos he]; done) | (rw [checkV_eq, if_neg (by omega), if_neg (by rw [hc.2]; decide), if_pos (by omega)]; done) | (rw [checkV_eq, if_neg (by omega), if_neg (by rw [hc.2.1]; decide), if_neg (by omega), if_pos (by omega)]; done) | (rw [checkV_eq, if_neg (by omega), if_neg (by rw [hc.2.1]; decide), if_neg (by omega), if_neg (by omega), if_pos (by omega)]; done) | (rw [h2, E, orC_pos _ _ (by rw [orC_pos _ _ (by omega)]; omega), orC_pos _ _ (by omega)]; done) | (rw [h2, E, orC_pos (checkV (d + 1) _) _ (by omega), orC_pos _ _ (by omega)]; done) | (rw [h2, hin, List.drop_length]; exact (orC_zero _ _ rfl).symm))))), rfl⟩, trivial⟩
                · skip
                  have q := bne_eq_false_iff_eq.1 hb11
                  refine aw_skip ?_
                  refine normal_blk ?_
                  refine normal_thn ?_
                  refine aw_region ?_
                  refine g_u (s_mv_imm rfl rfl) ?_
                  refine g_u (s_add rfl rfl rfl) ?_
                  refine g_u (s_as_imm rfl rfl) ?_
                  refine g_nil ?_
                  refine normal_thn ?_
                  refine ⟨i + 1, ⟨hi, by (try dsimp only); rw [h2, E, orC_zero (checkV (d + 1) _) _ (by omega)]⟩, ⟨rfl, rfl, rfl, look_int rfl (by rw [wrap64 (by omega) (by omega)]; rfl), trivial⟩, by (try dsimp only); omega⟩
              · skip
                have hin : i = v.list.length := by have := of_decide_eq_false hb10; (try simp only [List.length_map] at this); omega
                refine aw_exit ?_
                refine exit_thn ?_
                refine exit_thn ?_
                refine exit_blk ?_
                refine normal_thn ?_
                refine aw_seq ?_
                refine aw_region ?_
                refine g_u (s_fieldAddr rfl rfl fa67_5 rfl) ?_
                refine g_u (s_load_imm rfl rfl rfl tA30 tS30 rfl rfl) ?_
                refine g_u (s_mv_imm rfl rfl) ?_
                refine g_u (s_add rfl rfl rfl) ?_
                refine g_u (s_call1 ((show PCall Tryd.prog Γ0 83 [.sl 7 (v.map.map avA), iv (IntKind.i64.wrap (d + 1))] [iv (entC (d + 1) none v.map)] from by rw [e1]; exact ihm _ ⟨by omega, by omega⟩)) rfl rfl) ?_
                refine g_u (s_as_imm rfl rfl) ?_
                refine g_nil ?_
                refine normal_thn ?_
                refine aw_ret ?_
                exact ⟨⟨(rfl : toAV (Al.look _ _) = some _).trans (congrArg some (by (exact congrArg iv (by first | (rw [checkV_eq, if_pos (by omega)]; done) | (rw [checkV_eq, if_neg (by omega), if_pos he]; done) | (rw [checkV_eq, if_neg (by omega), if_neg (by rw [hc.2]; decide), if_pos (by omega)]; done) | (rw [checkV_eq, if_neg (by omega), if_neg (by rw [hc.2.1]; decide), if_neg (by omega), if_pos (by omega)]; done) | (rw [checkV_eq, if_neg (by omega), if_neg (by rw [hc.2.1]; decide), if_neg (by omega), if_neg (by omega), if_pos (by omega)]; done) | (rw [h2, E, orC_pos _ _ (by rw [orC_pos _ _ (by omega)]; omega), orC_pos _ _ (by omega)]; done) | (rw [h2, E, orC_pos (checkV (d + 1) _) _ (by omega), orC_pos _ _ (by omega)]; done) | (rw [h2, hin, List.drop_length]; exact (orC_zero _ _ rfl).symm))))), rfl⟩, trivial⟩

theorem checkV_c (v : GV) : ∀ d : Int, 0 ≤ d ∧ d + v.wt ≤ 1000000000 → PCall Tryd.prog Γ0 121 [v.av, iv d] [iv (checkV d v)] := by
  refine GV.ind (P := fun v => ∀ d : Int, 0 ≤ d ∧ d + v.wt ≤ 1000000000 → PCall Tryd.prog Γ0 121 [v.av, iv d] [iv (checkV d v)]) ?_ v
  intro v h1 h2 d hd
  exact checkV_st v d hd (contentV_st v d hd h1 fun d hd => entC_st v.map d hd h2)
theorem entC_c (l : List GA) (d : Int) (hd : 0 ≤ d ∧ d + wtAs l ≤ 1000000000) : PCall Tryd.prog Γ0 82 [.sl 7 (l.map avA), iv d] [iv (entC d none l)] := entC_st l d hd fun a _ => checkV_c a.val
theorem rcheckV_c (v : GV) : ∀ d : Int, 0 ≤ d ∧ d + v.wt ≤ 1000000000 → PCall Tryd.prog Γ0 123 [v.av, iv d] [iv (checkV d v)] := by
  refine GV.ind (P := fun v => ∀ d : Int, 0 ≤ d ∧ d + v.wt ≤ 1000000000 → PCall Tryd.prog Γ0 123 [v.av, iv d] [iv (checkV d v)]) ?_ v
  intro v h1 h2 d hd
  exact rcheckV_st v d hd h1 fun d hd => rentC_st v.map d hd h2
theorem rentC_c (l : List GA) (d : Int) (hd : 0 ≤ d ∧ d + wtAs l ≤ 1000000000) : PCall Tryd.prog Γ0 83 [.sl 7 (l.map avA), iv d] [iv (entC d none l)] := rentC_st l d hd fun a _ => rcheckV_c a.val

end Go.Proofs

namespace Go.Al
open Go.RowKit

/-! ### Rows of one's own: an element put in, a part, a copy into a part -/
section
variable {C : Cx} {A : Nat → SV} {d : Nat} {ty : TypeId} {pos : String} {af : Array Edge} {gd : Option (Nat × Bool)} {x y : Operand} {T T' : TypeId}

theorem s_ixOsl {g n len cap : Nat} {el : TypeId} {i : Nat} {z : Int} {k : IntKind} (hN : Nat.blt d C.N = true) (hx : opS A x = .osl g 0 len cap) (hy : opV A y = some (.v (.int k z))) (hT : C.P.underlying T = some (.slice el)) (hn : tySize C.P el = some n)
    (hz : z = i) (h : i < len) : StepU C ⟨some d, .indexAddr T x y, ty, pos, af, gd⟩ (opR x ++ opR y) [] A [(d, .ptr g (i * n))] := by
  refine StepU.value rfl hN fun A' G a w hR S => ?_
  obtain ⟨c, hc1, hc2⟩ := S.opS ((opS_congr (fun k hk => hR k (List.mem_append_left _ hk))).trans hx) rfl
  simp only [RepS] at hc1
  have hev : a.eval x = .slice (some ⟨G.blk g, 0, none⟩) len cap := by rw [hc2, hc1]; rfl
  rw [← opV_congr (fun k hk => hR k (List.mem_append_right _ hk))] at hy
  have hi := rep_int (S.opV hy)
  subst hz
  refine ⟨.pointer (some ⟨G.blk g, i * n, none⟩), ?_, [.pointer (some ⟨G.blk g, i * n, none⟩)], by simp only [RepS], rfl⟩
  have hb : (0 : Int) ≤ (i : Int) ∧ (i : Int) < (len : Int) := by omega
  simp only [execOp, Instr.indexAt, hi, hev, asIntOf, Instr.sureAddr, Sem.run_bind, Sem.run_pure, Result.andThen_ok, run_underlying' hT, hb, and_self, if_true, run_sizeOf hn, addr_add, Int.toNat_natCast, Nat.zero_add]

theorem s_slOsl {g n len cap : Nat} {el : TypeId} {lo : Nat} {z : Int} {k : IntKind} (hN : Nat.blt d C.N = true) (hx : opS A x = .osl g 0 len cap) (hy : opV A y = some (.v (.int k z))) (hT : C.P.underlying T = some (.slice el)) (hn : tySize C.P el = some n)
    (hz : z = lo) (h : lo ≤ len) : StepU C ⟨some d, .slice T x (some y) none none, ty, pos, af, gd⟩ (opR x ++ opR y) [] A [(d, .osl g (if cap = lo then 0 else lo * n) (len - lo) (cap - lo))] := by
  refine StepU.value rfl hN fun A' G a w hR S => ?_
  obtain ⟨c, hc1, hc2⟩ := S.opS ((opS_congr (fun k hk => hR k (List.mem_append_left _ hk))).trans hx) rfl
  simp only [RepS] at hc1
  have hev : a.eval x = .slice (some ⟨G.blk g, 0, none⟩) len cap := by rw [hc2, hc1]; rfl
  rw [← opV_congr (fun k hk => hR k (List.mem_append_right _ hk))] at hy
  have hi := rep_int (S.opV hy)
  refine ⟨.slice (some ⟨G.blk g, if cap = lo then 0 else lo * n, none⟩) (len - lo) (cap - lo), ?_, [.slice (some ⟨G.blk g, if cap = lo then 0 else lo * n, none⟩) (len - lo) (cap - lo)], by simp only [RepS], rfl⟩
  have e3 : (Instr.sliceBounds true len cap (some (a.eval y)) none none).run C.P w = .ok (lo, len, cap) w := by
    simp only [Instr.sliceBounds, Sem.run_bind, Sem.run_pure, Result.andThen_ok, Option.isSome_none, Bool.false_eq_true, if_false, if_true, hi, run_bound hz h]
  simp only [execOp, Option.map_none, Option.map_some, Sem.run_bind, hev, Instr.sliceAt, run_underlying' hT, Result.andThen_ok, Instr.slice, e3, run_sizeOf hn, Sem.run_pure]
  by_cases hc : cap = lo
  · rw [if_pos hc, if_pos hc]
  · rw [if_neg hc, if_neg hc]; first | rfl | rw [addr_add, Nat.zero_add]

theorem s_storeElt {g n i : Nat} {xs : List AV} {v : AV} {T0 : TypeId} (h : opS A x = .ptr g (i * n)) (hg : A g = .box T0 (.imm (.agg xs))) (hy : opV A y = some v) (hn : tySize C.P T = some n)
    (hw : ∀ x ∈ xs, x.width = n) (hv : v.width = n) (hi : i < xs.length) :
    StepU C ⟨none, .store T x y, ty, pos, af, gd⟩ (g :: (opR x ++ opR y)) [] A [(g, .box T0 (.imm (.agg (xs.take i ++ v :: xs.drop (i + 1)))))] := by
  intro A' a w hR hF ⟨G, S⟩
  have hgA : A' g = .box T0 (.imm (.agg xs)) := (hR g List.mem_cons_self).trans hg
  obtain ⟨c, hc1, hc2⟩ := S.opS ((opS_congr (fun k hk => hR k (List.mem_cons_of_mem _ (List.mem_append_left _ hk)))).trans h) rfl
  simp only [RepS] at hc1
  have hev : a.eval x = .pointer (some ⟨G.blk g, i * n, none⟩) := by rw [hc2, hc1]; rfl
  rw [← opV_congr (fun k hk => hR k (List.mem_cons_of_mem _ (List.mem_append_right _ hk)))] at hy
  have hyR := S.opV hy
  obtain ⟨vc, hv1, hv2⟩ := hyR
  have hvc : (a.eval y).cells.toList = vc := by rw [hv2]; exact mkV_cells hv1
  have hvl := hv1.len
  have hb := S.holds g
  rw [hgA] at hb
  simp only [Holds] at hb
  obtain ⟨_, ⟨cs, fr, hb2, hb3, hb4⟩, _⟩ := hb
  simp only [RepS, RepC] at hb3
  have hE := (repCs_E hw).1 hb3
  have hcl := hE.len
  simp only [Array.length_toList] at hcl
  have hfit : i * n + vc.length ≤ cs.size := by
    have := mul_le_of (n := n) (show i + 1 ≤ xs.length from hi)
    rw [Nat.add_mul] at this; omega
  have hst := run_storeCells' (P := C.P) (b := G.blk g) (o := i * n) vc w cs hb2 hb4 hfit hv1.plain
  have hnew : RepS w G (.imm (.agg (xs.take i ++ v :: xs.drop (i + 1)))) (splice cs (i * n) vc).toList := by
    simp only [RepS, RepC]
    refine (repCs_E (n := n) ?_).2 ?_
    · intro z hz
      rcases List.mem_append.1 hz with hz | hz
      · exact hw z (List.mem_of_mem_take hz)
      · rcases List.mem_cons.1 hz with rfl | hz
        · exact hv
        · exact hw z (List.mem_of_mem_drop hz)
    · rw [splice_list _ _ _ hfit, List.append_assoc]
      refine (hE.split i (by omega)).1.append ?_
      have h2 := (hE.split (i + 1) (by omega)).2
      have ev : vc.length = n := by rw [hvl, hv]
      rw [Nat.add_mul, Nat.one_mul] at h2
      simp only [RepE]
      exact ⟨vc, _, rfl, ev, hv1, by rw [ev]; exact h2⟩
  unfold Oper.wp
  have hrun : (storeVar T ⟨G.blk g, i * n, none⟩ (a.eval y)).run C.P w = .ok () (setBlk w (G.blk g) (.cells (splice cs (i * n) vc) T0 fr)) := by
    simp only [storeVar, Sem.run_bind, run_sizeOf hn, Result.andThen_ok, hvc]
    have e : (a.eval y).cells.size = n := by rw [← Array.length_toList, hvc, hvl, hv]
    rw [if_neg (by omega)]
    exact hst
  simp only [execOp, Instr.storeAt, Instr.sureAddr, hev, Sem.run_bind, Sem.run_pure, Result.andThen_ok, hrun]
  rw [Oper.upon_skip]
  exact S.storeBox hgA hb2 (splice_size _ _ _) hnew

/-- copy(own[o:..], src). -/
theorem s_copy_at {g off len cap n o : Nat} {xs m : List AV} {el : TypeId} {T0 : TypeId} (hd' : ∀ d', d = d' → True) (hgN : Nat.ble C.N g = true) (hx : opS A x = .osl g off len cap) (hg : A g = .box T0 (.imm (.agg xs))) (hy : opV A y = some (.sl n m)) (hT : C.P.underlying T = some (.slice el)) (hn : tySize C.P el = some n)
    (hN : Nat.blt d C.N = true) (ho : off = o * n) (hw : ∀ x ∈ xs, x.width = n) (hlen : o + len ≤ xs.length) :
    StepU C ⟨some d, .call { callee := .builtin .copy, args := #[x, y], argTypes := #[T, T'] }, ty, pos, af, gd⟩ (g :: (opR x ++ opR y)) [] A
      [(g, .box T0 (.imm (.agg (xs.take o ++ (m.take (min m.length len) ++ xs.drop (o + min m.length len)))))), (d, .imm (.v (.int .i64 (min m.length len : Nat))))] := by
  intro A' a w hR hF ⟨G, S⟩
  have hgA : A' g = .box T0 (.imm (.agg xs)) := (hR g List.mem_cons_self).trans hg
  have hN' : d < C.N := by simpa [Nat.blt_eq] using hN
  have hgd : g ≠ d := by have := Nat.le_of_ble_eq_true hgN; omega
  obtain ⟨c, hc1, hc2⟩ := S.opS ((opS_congr (fun k hk => hR k (List.mem_cons_of_mem _ (List.mem_append_left _ hk)))).trans hx) rfl
  simp only [RepS] at hc1
  have hev : a.eval x = .slice (some ⟨G.blk g, off, none⟩) len cap := by rw [hc2, hc1]; rfl
  rw [← opV_congr (fun k hk => hR k (List.mem_cons_of_mem _ (List.mem_append_right _ hk)))] at hy
  have hyR := S.opV hy
  have hb := S.holds g
  rw [hgA] at hb
  simp only [Holds] at hb
  obtain ⟨how, ⟨cs, fr, hb2, hb3, hb4⟩, hni⟩ := hb
  simp only [RepS, RepC] at hb3
  have hE := (repCs_E hw).1 hb3
  obtain ⟨k, hk⟩ : ∃ k, k = min m.length len := ⟨_, rfl⟩
  rw [← hk]
  have hkm : k ≤ m.length := by omega
  have hkx : o + k ≤ xs.length := by omega
  obtain ⟨es, e1, e2, e3⟩ : ∃ es, RepE w G.I n (m.take k) es ∧ (Builtin.lenOf (a.eval y)).run C.P w = .ok m.length w ∧ (Builtin.firstCells n k (a.eval y)).run C.P w = .ok es.toArray w := by
    rcases rep_sl hyR with ⟨p, cap', h1, rfl, _, _⟩ | ⟨b, o, cap', h1, h2, h3, h4⟩
    · have hk0 : k = 0 := by rw [hk]; simp
      refine ⟨[], ?_, by rw [h1]; rfl, by rw [h1, hk0]; cases p <;> first | rfl | (simp only [Builtin.firstCells, Nat.zero_mul, Nat.mul_zero, loadCells, loadCellsFrom]; rfl)⟩
      simp [RepE]
    · obtain ⟨ds, q1, q2⟩ := h4.cells
      obtain ⟨q3, _⟩ := q1.split k hkm
      refine ⟨ds.take (k * n), q3, by rw [h1]; rfl, ?_⟩
      rw [h1]
      simp only [Builtin.firstCells]
      have hdl := q1.len
      have : (ds.take (k * n)).length = k * n := by
        have := mul_le_of (n := n) hkm
        rw [List.length_take]; omega
      have hld := run_loadCells (P := C.P) (w := w) (b := b) (o := o) (ds.take (k * n)) (fun j hj => by
        rw [this] at hj
        have := (q2 j (by have := mul_le_of (n := n) hkm; omega)).1
        simp only [List.getElem_take]
        exact this)
      rw [this] at hld
      exact hld
  have hel := e1.len
  rw [List.length_take, Nat.min_eq_left hkm] at hel
  have hcl := hE.len
  simp only [Array.length_toList] at hcl
  have hfit : off + es.length ≤ cs.size := by rw [hel, hcl, ho, ← Nat.add_mul]; exact mul_le_of hkx
  have hst := run_storeCells' (P := C.P) (b := G.blk g) (o := off) es w cs hb2 hb4 (by omega) e1.plain
  have q5 := (hE.split o (by omega)).1
  have q4 := (hE.split (o + k) hkx).2
  have hnew : RepS w G (.imm (.agg (xs.take o ++ (m.take k ++ xs.drop (o + k))))) (splice cs off es).toList := by
    simp only [RepS, RepC]
    refine (repCs_E (n := n) ?_).2 ?_
    · intro z hz
      rcases List.mem_append.1 hz with hz | hz
      · exact hw z (List.mem_of_mem_take hz)
      rcases List.mem_append.1 hz with hz | hz
      · have : ∀ (l : List AV) (c : List Value), RepE w G.I n l c → ∀ z ∈ l, z.width = n := by
          intro l
          induction l with
          | nil => intro c _ z hz; cases hz
          | cons p l ih =>
            intro c h z hz
            simp only [RepE] at h
            obtain ⟨c1, c2, _, h1, h2, h3⟩ := h
            rcases List.mem_cons.1 hz with rfl | hz
            · rw [← RepC.len _ _ h2]; exact h1
            · exact ih c2 h3 z hz
        exact this _ _ e1 z hz
      · exact hw z (List.mem_of_mem_drop hz)
    · rw [splice_list _ _ _ hfit, List.append_assoc, hel, ho, ← Nat.add_mul]
      exact q5.append (e1.append q4)
  have S1 := S.storeBox hgA hb2 (splice_size _ _ _) hnew
  obtain ⟨G1, S1⟩ := S1
  have S2 := S1.put hN' (x := .imm (.v (.int .i64 (k : Nat)))) (v := .int .i64 k) (valS_imm.2 (rep_p _ _ rfl))
  have eu : upd (upd A' [(g, .box T0 (.imm (.agg (xs.take o ++ (m.take k ++ xs.drop (o + k))))))]) [(d, .imm (.v (.int .i64 (k : Nat))))] = upd A' [(g, .box T0 (.imm (.agg (xs.take o ++ (m.take k ++ xs.drop (o + k)))))), (d, .imm (.v (.int .i64 (k : Nat))))] := by
    funext j
    simp only [upd]
    by_cases hkd : d = j
    · subst hkd; rw [nat_beq_false hgd]; simp
    · rw [nat_beq_false hkd]; simp
  rw [eu] at S2
  unfold Oper.wp
  have hrun : (execOp a.eval ⟨some d, .call { callee := .builtin .copy, args := #[x, y], argTypes := #[T, T'] }, ty, pos, af, gd⟩).run C.P w = .ok (.value (.int .i64 k)) (setBlk w (G.blk g) (.cells (splice cs off es) T0 fr)) := by
    simp only [execOp, resolve, Sem.run_bind, Sem.run_pure, Result.andThen_ok, invoke, builtin]
    have e0 : (#[x, y].map a.eval) = #[a.eval x, a.eval y] := by simp
    have f1 : (#[T, T'] : Array TypeId)[0]? = some T := rfl
    have f3 : (#[a.eval x, a.eval y] : Array Value)[0]? = some (a.eval x) := rfl
    have f4 : (#[a.eval x, a.eval y] : Array Value)[1]? = some (a.eval y) := rfl
    rw [e0]
    simp only [Builtin.copy_, f1, f3, f4]
    simp only [hev, Sem.run_bind, run_underlying' hT, Result.andThen_ok, e2, run_sizeOf hn]
    have : Nat.min m.length len = k := hk.symm
    simp only [this, e3, Result.andThen_ok, hst, Sem.run_pure, goInt]
  rw [hrun, Oper.upon_value]
  exact ⟨G1, S2⟩
end
theorem look_bagg {st : St} {k : Nat} {T : TypeId} {l m : List AV} (h : look st k = .box T (.imm (.agg l))) (e : l = m) : look st k = .box T (.imm (.agg m)) := by rw [h, e]

theorem row1 {m : List AV} {z : AV} {p r N : Nat} (hm : m.length = p) (hN : N = p + 1 + r) : m.take (min m.length N) ++ (List.replicate N z).drop (min m.length N) = m ++ List.replicate (1 + r) z := by
  rw [Nat.min_eq_left (by omega), List.take_length, List.drop_replicate, show N - m.length = 1 + r by omega]
theorem row2 {m : List AV} {z e : AV} {p r : Nat} (hm : m.length = p) : (m ++ List.replicate (1 + r) z).take p ++ e :: (m ++ List.replicate (1 + r) z).drop (p + 1) = m ++ e :: List.replicate r z := by
  rw [List.take_append_of_le_length (by omega), List.take_of_length_le (by omega), List.drop_append, List.drop_of_length_le (by omega), List.nil_append, List.drop_replicate, show 1 + r - (p + 1 - m.length) = r by omega]
theorem row3 {m R : List AV} {z e : AV} {p r N : Nat} (hm : m.length = p) (hR : R.length = r) (hN : N = p + 1 + r) :
    (m ++ e :: List.replicate r z).take (if N = p + 1 then 0 else p + 1) ++ (R.take (min R.length (N - (p + 1))) ++ (m ++ e :: List.replicate r z).drop ((if N = p + 1 then 0 else p + 1) + min R.length (N - (p + 1)))) = m ++ e :: R := by
  by_cases h : N = p + 1
  · have hr : r = 0 := by omega
    subst hr
    obtain rfl := List.eq_nil_of_length_eq_zero hR
    rw [if_pos h]; simp
  · rw [if_neg h, show N - (p + 1) = r by omega, hR, Nat.min_self, ← hR, List.take_length]
    have e1 : (m ++ e :: List.replicate R.length z).take (p + 1) = m ++ [e] := by
      rw [List.take_append, List.take_of_length_le (by omega), show p + 1 - m.length = 1 by omega]; rfl
    have e2 : (m ++ e :: List.replicate R.length z).drop (p + 1 + R.length) = [] := List.drop_of_length_le (by simp; omega)
    rw [e1, e2, List.append_nil, List.append_assoc]; rfl
theorem widths_mem {n : Nat} {l : List AV} (h : ∀ x ∈ l, x.width = n) {z : AV} (hz : z.width = n) (r : Nat) : ∀ x ∈ l ++ List.replicate r z, x.width = n := fun x hx => (List.mem_append.1 hx).elim (h x) fun hx => by rw [List.eq_of_mem_replicate hx]; exact hz
end Go.Al

namespace Go.Proofs
open Go Go.Al

/-! ### Rows, gone through -/
def firstI {α : Type} (p : α → Bool) : List α → Nat → Int
  | [], _ => -1
  | x :: xs, n => if p x then n else firstI p xs (n + 1)
theorem firstI_any {α : Type} (p : α → Bool) : ∀ (l : List α) (n : Nat), decide (firstI p l n ≥ 0) = l.any p
  | [], n => by simp [firstI]
  | x :: xs, n => by
    rw [firstI, List.any_cons]
    cases h : p x
    · rw [if_neg (by simp), firstI_any p xs (n + 1)]; rfl
    · simp
theorem firstI_drop {α : Type} {p : α → Bool} {l : List α} {i : Nat} {d : α} (h : i < l.length) : firstI p (l.drop i) i = if p (nth l i d) then (i : Int) else firstI p (l.drop (i + 1)) (i + 1) := by
  rw [drop_nth (d := d) h, firstI]
theorem any_drop {α : Type} {p : α → Bool} {l : List α} {i : Nat} {d : α} (h : i < l.length) : (l.drop i).any p = (p (nth l i d) || (l.drop (i + 1)).any p) := by
  rw [drop_nth (d := d) h, List.any_cons]
theorem str_nth {l : List ByteArray} {i : Nat} (h : i < l.length) : (l.map fun x => sv x)[((i : Nat) : Int).toNat]? = some (sv (nth l i ⟨#[]⟩)) := nth_map (d := ⟨#[]⟩) h
theorem u8_nth {l : List Int} {i : Nat} (h : i < l.length) : (l.map fun x => cv x)[((i : Nat) : Int).toNat]? = some (cv (nth l i 0)) := nth_map (d := 0) h

theorem dropA_snoc (keys : List ByteArray) : ∀ (l : List GA) (x : GA), dropA keys (l ++ [x]) = dropA keys l ++ (if keys.any (fun k => decide (k = x.key)) then [] else [x])
  | [], x => by simp only [List.nil_append, dropA]
  | y :: l, x => by
    simp only [List.cons_append, dropA, dropA_snoc keys l x]
    split <;> simp
theorem dropA_take {keys : List ByteArray} {l : List GA} {i : Nat} (h : i < l.length) : dropA keys (l.take (i + 1)) = dropA keys (l.take i) ++ (if keys.any (fun k => decide (k = (nthA l i).key)) then [] else [nthA l i]) := by
  rw [take_snoc (nth_get (d := a0) h), dropA_snoc]; rfl
theorem dropA_len (keys : List ByteArray) : ∀ l : List GA, (dropA keys l).length ≤ l.length
  | [] => Nat.le_refl _
  | x :: l => by rw [dropA]; have := dropA_len keys l; split <;> simp <;> omega
theorem plain_take {kinds : List Int} {l : List GA} {i : Nat} (h : i < l.length) : (l.take (i + 1)).map (plainA kinds) = (l.take i).map (plainA kinds) ++ [plainA kinds (nthA l i)] := by
  rw [take_snoc (nth_get (d := a0) h), List.map_append]; rfl

/-! ### Held against each other -/
theorem sameV_ne {a b : GV} (h : a ≠ b) : sameV a b = false := by cases hs : sameV a b; rfl; exact absurd ((sameV_iff _ _).1 hs) h
theorem sameAs_ne {a b : List GA} (h : a ≠ b) : sameAs a b = false := by cases hs : sameAs a b; rfl; exact absurd ((sameAs_iff _ _).1 hs) h
theorem ext_nth {α : Type} {l m : List α} (d : α) (hl : l.length = m.length) (h : ∀ i, i < l.length → nth l i d = nth m i d) : l = m := by
  refine List.ext_getElem hl fun i h1 h2 => ?_
  have := h i h1
  unfold nth at this
  rwa [List.getD_eq_getElem?_getD, List.getD_eq_getElem?_getD, List.getElem?_eq_getElem h1, List.getElem?_eq_getElem h2] at this
theorem GA.ext' {a b : GA} (h1 : a.key = b.key) (h2 : a.val = b.val) : a = b := by cases a; cases b; simp only [GA.key_mk, GA.val_mk] at h1 h2; rw [h1, h2]
theorem GV.ext' {a b : GV} (h1 : a.kind = b.kind) (h2 : a.text = b.text) (h3 : a.num = b.num) (h4 : a.bits = b.bits) (h5 : a.list = b.list) (h6 : a.map = b.map) : a = b := by
  cases a; cases b
  simp only [GV.kind_mk, GV.text_mk, GV.num_mk, GV.bits_mk, GV.list_mk, GV.map_mk] at h1 h2 h3 h4 h5 h6
  rw [h1, h2, h3, h4, h5, h6]
/-- All but the entries are the same: then just the entries count. -/
theorem sameV_map {a b : GV} (h1 : a.kind = b.kind) (h2 : a.text = b.text) (h3 : a.num = b.num) (h4 : a.bits = b.bits) (h5 : a.list = b.list) : sameAs a.map b.map = sameV a b := by
  rw [Bool.eq_iff_iff, sameAs_iff, sameV_iff]
  exact ⟨fun h => GV.ext' h1 h2 h3 h4 h5 h, fun h => by rw [h]⟩

/-! ### What goes into a row -/
def restA (l : List GA) (k : ByteArray) : List GA := if hasA l k then l.drop (posA l k + 1) else l.drop (posA l k)
theorem restA_yes {l : List GA} {k : ByteArray} (h : hasA l k = true) : restA l k = l.drop (posA l k + 1) := by unfold restA; rw [if_pos h]
theorem restA_no {l : List GA} {k : ByteArray} (h : hasA l k = false) : restA l k = l.drop (posA l k) := by unfold restA; rw [if_neg (by rw [h]; decide)]
theorem restA_len (l : List GA) (k : ByteArray) : (restA l k).length ≤ l.length := by unfold restA; split <;> simp
theorem into_row {l : List GA} (k : ByteArray) (v : GV) : (l.take (posA l k)).map avA ++ (GA.mk k v).av :: (restA l k).map avA = (intoA l (.mk k v)).map avA := by
  rw [intoA_pos]
  simp only [List.map_append, List.map_cons, List.map_nil, avA_eq, List.append_assoc, List.cons_append, List.nil_append]
  rfl
theorem avA_w (l : List GA) : ∀ x ∈ l.map avA, x.width = 7 := fun x hx => by
  obtain ⟨y, _, rfl⟩ := List.mem_map.1 hx
  rw [avA_eq]; rfl
theorem rowW {z : AV} (hz : z.width = 7) (l : List GA) (e : GA) (r : Nat) : ∀ x ∈ l.map avA ++ e.av :: List.replicate r z, x.width = 7 := fun x hx => by
  rcases List.mem_append.1 hx with hx | hx
  · exact avA_w l x hx
  · rcases List.mem_cons.1 hx with rfl | hx
    · rfl
    · rw [List.eq_of_mem_replicate hx]; exact hz
theorem rowW2 (l : List GA) (e : GA) (R : List GA) : ∀ x ∈ l.map avA ++ e.av :: R.map avA, x.width = 7 := fun x hx => by
  rcases List.mem_append.1 hx with hx | hx
  · exact avA_w l x hx
  · rcases List.mem_cons.1 hx with rfl | hx
    · rfl
    · exact avA_w R x hx
end Go.Proofs

namespace Go.Al
open Go.RowKit

section
variable {C : Cx} {A : Nat → SV} {d : Nat} {ty : TypeId} {pos : String} {af : Array Edge} {gd : Option (Nat × Bool)} {x y : Operand} {T T' : TypeId}
/-- A new row of zeros that nobody writes into. -/
theorem s_makeImm {el : TypeId} {n by_ : Nat} {X0 : AV} {len cap : Nat} {il ic : Int} {k1 k2 : IntKind} (hN : Nat.blt d C.N = true) (hx : opV A x = some (.v (.int k1 il))) (hy : opV A y = some (.v (.int k2 ic))) (hil : il = len) (hic : ic = cap)
    (hT : C.P.underlying T = some (.slice el)) (hn : tySize C.P el = some n) (hz : IsZero C.P el X0) (hX : Nat.beq X0.width n = true) (h0 : Nat.blt 0 n = true) (hb : (C.P.info? el).map (·.bytes) = some by_) (hlc : len = cap) (hB : by_ * cap ≤ 281474976710656) (hL : cap < 9223372036854775808) :
    StepU C ⟨some d, .makeSlice T x y, ty, pos, af, gd⟩ (opR x ++ opR y) [] A [(d, .imm (.sl n (List.replicate cap X0)))] := by
  intro A' a w hR hF ⟨G, S⟩
  rw [← opV_congr (fun k hk => hR k (List.mem_append_left _ hk))] at hx
  rw [← opV_congr (fun k hk => hR k (List.mem_append_right _ hk))] at hy
  have hev1 := rep_int (S.opV hx)
  have hev2 := rep_int (S.opV hy)
  obtain ⟨z, hz1, hz2⟩ := hz
  have hn0 : 0 < n := by simpa [Nat.blt_eq] using h0
  have hzl : z.cells.size = n := by
    have := RepC.len X0 _ (flatC_spec (w := w) (I := G.I) X0 _ hz2)
    rw [← Array.length_toList, this]; exact Nat.eq_of_beq_eq_true hX
  obtain ⟨inf, hi, hib⟩ : ∃ inf, C.P.info? el = some inf ∧ inf.bytes = by_ := by
    cases hi : C.P.info? el with
    | none => rw [hi] at hb; cases hb
    | some inf => rw [hi] at hb; exact ⟨inf, rfl, by simpa using hb⟩
  let cs : Array Value := (Array.range (cap * n)).map fun i => z.cells[i % z.cells.size]!
  have k2 : RepE w G.I n (List.replicate cap X0) cs.toList := by
    have := zeroRow (w := w) (I := G.I) (flatC_spec X0 _ hz2) hzl hn0 cap
    simpa [cs] using this
  unfold Oper.wp
  have hw1 : IntKind.i64.wrap il = len := by rw [hil]; exact wrap64 (by omega) (by omega)
  have hw2 : IntKind.i64.wrap ic = cap := by rw [hic]; exact wrap64 (by omega) (by omega)
  have hrun : (Instr.makeSlice T (a.eval x) (a.eval y)).run C.P w = .ok (.slice (some ⟨w.heap.size, 0, none⟩) len cap) (w.alloc (.cells cs el)) := by
    have hcn : ¬ (cap * n = 0 ∧ cap ≠ 0) := by
      rintro ⟨h1, h2⟩
      have := Nat.mul_pos (Nat.pos_of_ne_zero h2) hn0
      omega
    have hbig : decide ((by_ : Int) * (cap : Int) > 2 ^ 48) = false := by
      refine decide_eq_false ?_
      have : ((by_ * cap : Nat) : Int) ≤ 281474976710656 := Int.ofNat_le.2 hB
      rw [Int.natCast_mul] at this
      have h48 : (2 : Int) ^ 48 = 281474976710656 := by decide
      rw [h48]; omega
    have hc0 : ((cap : Int) < 0) = False := by simp
    have hl0 : ((len : Int) < 0) = False := by simp
    have hlc' : ((len : Int) > (cap : Int)) = False := by simp; omega
    simp only [Instr.makeSlice, Sem.run_bind, run_underlying' hT, Result.andThen_ok, hev1, hev2, asInt, asIntOf, Sem.run_pure, run_typeInfo' hi, hw1, hw2, hib, hc0, hl0, hlc', hbig, decide_false, Bool.or_false, Bool.false_eq_true, if_false, run_askRoom, run_sizeOf hn, Int.toNat_natCast]
    by_cases h : cap * n = 0
    · have hcs0 : ∀ f : Nat → Value, (Array.range 0).map f = #[] := by intro f; simp
      simp only [h, if_true, Sem.run_pure, Result.andThen_ok, newRow, Sem.run_bind, run_newObj]
      simp only [cs, h, hcs0]
      rfl
    · simp only [h, if_false, Sem.run_bind, run_zeroValue hz1, Result.andThen_ok, Sem.run_pure, newRow, run_newObj]
      rfl
  simp only [execOp, Sem.run_bind, hrun, Result.andThen_ok, Sem.run_pure, Oper.upon_value]
  have S' := S.allocI cs el cs.size
  have hle : Le w G.I (w.alloc (.cells cs el)) (fun b o => G.I b o ∨ (b = w.heap.size ∧ o < cs.size)) := fun b o h => ⟨.inl h, (Le.alloc S.val _ b o h).2⟩
  have hcell := cellsAt_alloc (w := w) (I := G.I) (T := el) (fr := (0, 0)) (Nat.le_refl cs.size)
  rw [List.take_of_length_le (by simp)] at hcell
  refine ⟨_, S'.put (by simpa [Nat.blt_eq] using hN) (valS_imm.2 ⟨[_], ?_, rfl⟩)⟩
  simp only [RepC]
  refine ⟨_, rfl, .inr ⟨w.heap.size, 0, cap, by rw [List.length_replicate, hlc], by simp, ?_, (k2.mono hle).mem hcell⟩⟩
  unfold maxLen; omega

/-- Part of a box, in whole. -/
theorem look_bimm {st : St} {k : Nat} {T : TypeId} {l m : AV} (h : look st k = .box T (.imm l)) (e : l = m) : look st k = .box T (.imm m) := by rw [h, e]
end
end Go.Al

namespace Go.Proofs
open Go Go.Al
set_option maxRecDepth 10000
set_option maxHeartbeats 400000 in
theorem vplain_c (v : GV) (ho : v.ok) (hw : v.wt ≤ 10000000) : PCall Tryd.prog Γ0 86 [v.av] [(plainV v).av] := by
  refine pcall_of Tryd.func86 rfl Tryd.ntmps86 (by kernel_rfl) rfl fun w0 I0 G0 => ?_
  refine aw_seq ?_
  refine aw_region ?_
  refine g_uG (s_box_imm 1001 rfl rfl rfl rfl) rfl ?_
  refine g_uG (s_alloc' 1002 rfl rfl rfl tZ67) rfl ?_
  refine g_nil ?_
  refine normal_thn ?_
  refine aw_seq ?_
  refine aw_region ?_
  refine g_u (s_load_imm rfl rfl rfl tA67 tS67 rfl rfl) ?_
  refine g_u (s_call1 (text_c v ho hw) rfl rfl) ?_
  refine g_u (s_build rfl tU67 us67 pl67 rfl rfl rfl rfl) ?_
  refine g_u (s_store_imm rfl rfl rfl tS67 rfl rfl) ?_
  refine g_nil ?_
  refine normal_thn ?_
  refine aw_ret ?_
  exact ⟨⟨_, _, _, _, _, _, _, rfl, rfl, tA67, tS67, rfl, rfl, (rfl : toAV _ = some _).trans (congrArg some (by rfl))⟩, trivial⟩

set_option maxHeartbeats 400000 in
theorem indexS_c (ks : List ByteArray) (k : ByteArray) (hk : ks.length ≤ 1000000000) : PCall Tryd.prog Γ0 128 [(.sl 1 (ks.map fun x => sv x)), sv k] [iv (firstI (fun x => decide (x = k)) ks 0)] := by
  refine pcall_of Tryd.func128 rfl Tryd.ntmps128 (by kernel_rfl) rfl fun w0 I0 G0 => ?_
  refine aw_seq ?_
  refine aw_region ?_
  refine g_u (s_as_imm rfl rfl) ?_
  refine g_nil ?_
  refine normal_thn ?_
  refine aw_seq ?_
  refine aw_seq ?_
  refine aw_region ?_
  refine g_u (s_mv_imm rfl rfl) ?_
  refine g_u (s_lenL rfl rfl Tryd.underlying78) ?_
  refine g_u (s_mv_imm rfl rfl) ?_
  refine g_nil ?_
  refine normal_thn ?_
  refine aw_block ?_
  refine aw_loop' (fun i : Nat => [(0, .imm (.sl 1 (ks.map fun x => sv x))), (1, .imm (sv k)), (7, .imm (iv (ks.length : Int))), (8, .imm (iv (i : Int)))]) (fun i => i ≤ ks.length ∧ firstI (fun x => decide (x = k)) ks 0 = firstI (fun x => decide (x = k)) (ks.drop i) i) (fun i => ks.length - i) (0) ?_ ⟨rfl, rfl, look_int rfl (by rw [List.length_map]), rfl, trivial⟩ ?_
  · exact ⟨Nat.zero_le _, rfl⟩
  · rintro i ⟨h1, h2⟩; (try dsimp only at h1 h2)
    refine aw_seq ?_
    refine aw_region ?_
    refine g_u (s_ltI rfl rfl rfl) ?_
    refine g_nil ?_
    refine normal_thn ?_
    refine aw_seq ?_
    refine aw_cond rfl (fun hb1 => ?_) (fun hb1 => ?_)
    · skip
      have hi : i < ks.length := by have := of_decide_eq_true hb1; (try simp only [List.length_map] at this); omega
      refine aw_skip ?_
      refine normal_thn ?_
      refine aw_seq ?_
      refine aw_block ?_
      refine aw_seq ?_
      refine aw_region ?_
      refine g_u (s_mv_imm rfl rfl) ?_
      refine g_u (s_as_imm rfl rfl) ?_
      refine g_nil ?_
      refine normal_thn ?_
      refine aw_seq ?_
      refine aw_region ?_
      refine g_u (s_mv_imm rfl rfl) ?_
      refine g_u (s_mv_imm rfl rfl) ?_
      refine g_u (s_mv_imm rfl rfl) ?_
      refine g_u (s_indexAddr rfl rfl rfl Tryd.underlying78 tS9 (by omega) (str_nth hi)) ?_
      refine g_u (s_load_cp rfl rfl tA9 tS9 rfl rfl) ?_
      refine g_u (s_eqS rfl rfl rfl) ?_
      refine g_nil ?_
      refine normal_thn ?_
      refine aw_cond rfl (fun hb2 => ?_) (fun hb2 => ?_)
      · skip
        have q : decide (nth ks i ⟨#[]⟩ = k) = true := by have e := hb2; rw [str_beq] at e; exact decide_eq_true (of_decide_eq_true e).symm
        refine aw_seq ?_
        refine aw_region ?_
        refine g_u (s_mv_imm rfl rfl) ?_
        refine g_u (s_as_imm rfl rfl) ?_
        refine g_nil ?_
        refine normal_thn ?_
        refine aw_ret ?_
        refine ret_blk ?_
        refine ret_thn ?_
        refine ret_thn ?_
        refine ret_blk ?_
        refine ret_thn ?_
        exact ⟨⟨(rfl : toAV (Al.look _ _) = some _).trans (congrArg some (by (exact congrArg iv (by first | (rw [h2, hin, List.drop_length]; rfl) | rw [h2, firstI_drop (d := ⟨#[]⟩) hi, if_pos q])))), rfl⟩, trivial⟩
      · skip
        have q : decide (nth ks i ⟨#[]⟩ = k) = false := by have e := hb2; rw [str_beq] at e; exact decide_eq_false fun h => of_decide_eq_false e h.symm
        refine aw_skip ?_
        refine normal_blk ?_
        refine normal_thn ?_
        refine aw_region ?_
        refine g_u (s_add rfl rfl rfl) ?_
        refine g_u (s_mv_imm rfl rfl) ?_
        refine g_nil ?_
        refine normal_thn ?_
        refine ⟨i + 1, ⟨hi, by (try dsimp only); rw [h2, firstI_drop (d := ⟨#[]⟩) hi, if_neg (by rw [q]; decide)]⟩, ⟨rfl, rfl, rfl, look_int rfl (by rw [wrap64 (by omega) (by omega)]; rfl), trivial⟩, by (try dsimp only); omega⟩
    · skip
      have hin : i = ks.length := by have := of_decide_eq_false hb1; (try simp only [List.length_map] at this); omega
      refine aw_exit ?_
      refine exit_thn ?_
      refine exit_thn ?_
      refine exit_blk ?_
      refine normal_thn ?_
      refine aw_seq ?_
      refine aw_region ?_
      refine g_u (s_as_imm rfl rfl) ?_
      refine g_nil ?_
      refine normal_thn ?_
      refine aw_ret ?_
      exact ⟨⟨(rfl : toAV (Al.look _ _) = some _).trans (congrArg some (by (exact congrArg iv (by first | (rw [h2, hin, List.drop_length]; rfl) | rw [h2, firstI_drop (d := ⟨#[]⟩) hi, if_pos q])))), rfl⟩, trivial⟩

set_option maxHeartbeats 400000 in
theorem containsS_c (ks : List ByteArray) (k : ByteArray) (hk : ks.length ≤ 1000000000) : PCall Tryd.prog Γ0 87 [(.sl 1 (ks.map fun x => sv x)), sv k] [bv (ks.any (fun x => decide (x = k)))] := by
  refine pcall_of Tryd.func87 rfl Tryd.ntmps87 (by kernel_rfl) rfl fun w0 I0 G0 => ?_
  refine aw_seq ?_
  refine aw_region ?_
  refine g_u (s_as_imm rfl rfl) ?_
  refine g_nil ?_
  refine normal_thn ?_
  refine aw_seq ?_
  refine aw_region ?_
  refine g_u (s_mv_imm rfl rfl) ?_
  refine g_u (s_mv_imm rfl rfl) ?_
  refine g_u (s_call1 (indexS_c _ _ (by omega)) rfl rfl) ?_
  refine g_u (s_geI rfl rfl rfl) ?_
  refine g_u (s_as_imm rfl rfl) ?_
  refine g_nil ?_
  refine normal_thn ?_
  refine aw_ret ?_
  exact ⟨⟨(rfl : toAV (Al.look _ _) = some _).trans (congrArg some (by (exact congrArg bv (firstI_any _ _ 0)))), rfl⟩, trivial⟩

set_option maxHeartbeats 400000 in
theorem indexU_c (ks : List Int) (k : Int) (hk : ks.length ≤ 1000000000) : PCall Tryd.prog Γ0 127 [(.sl 1 (ks.map fun x => cv x)), cv k] [iv (firstI (fun x => x == k) ks 0)] := by
  refine pcall_of Tryd.func127 rfl Tryd.ntmps127 (by kernel_rfl) rfl fun w0 I0 G0 => ?_
  refine aw_seq ?_
  refine aw_region ?_
  refine g_u (s_as_imm rfl rfl) ?_
  refine g_nil ?_
  refine normal_thn ?_
  refine aw_seq ?_
  refine aw_seq ?_
  refine aw_region ?_
  refine g_u (s_mv_imm rfl rfl) ?_
  refine g_u (s_lenL rfl rfl Tryd.underlying79) ?_
  refine g_u (s_mv_imm rfl rfl) ?_
  refine g_nil ?_
  refine normal_thn ?_
  refine aw_block ?_
  refine aw_loop' (fun i : Nat => [(0, .imm (.sl 1 (ks.map fun x => cv x))), (1, .imm (cv k)), (7, .imm (iv (ks.length : Int))), (8, .imm (iv (i : Int)))]) (fun i => i ≤ ks.length ∧ firstI (fun x => x == k) ks 0 = firstI (fun x => x == k) (ks.drop i) i) (fun i => ks.length - i) (0) ?_ ⟨rfl, rfl, look_int rfl (by rw [List.length_map]), rfl, trivial⟩ ?_
  · exact ⟨Nat.zero_le _, rfl⟩
  · rintro i ⟨h1, h2⟩; (try dsimp only at h1 h2)
    refine aw_seq ?_
    refine aw_region ?_
    refine g_u (s_ltI rfl rfl rfl) ?_
    refine g_nil ?_
    refine normal_thn ?_
    refine aw_seq ?_
    refine aw_cond rfl (fun hb1 => ?_) (fun hb1 => ?_)
    · skip
      have hi : i < ks.length := by have := of_decide_eq_true hb1; (try simp only [List.length_map] at this); omega
      refine aw_skip ?_
      refine normal_thn ?_
      refine aw_seq ?_
      refine aw_block ?_
      refine aw_seq ?_
      refine aw_region ?_
      refine g_u (s_mv_imm rfl rfl) ?_
      refine g_u (s_as_imm rfl rfl) ?_
      refine g_nil ?_
      refine normal_thn ?_
      refine aw_seq ?_
      refine aw_region ?_
      refine g_u (s_mv_imm rfl rfl) ?_
      refine g_u (s_mv_imm rfl rfl) ?_
      refine g_u (s_mv_imm rfl rfl) ?_
      refine g_u (s_indexAddr rfl rfl rfl Tryd.underlying79 tS5 (by omega) (u8_nth hi)) ?_
      refine g_u (s_load_cp rfl rfl tA5 tS5 rfl rfl) ?_
      refine g_u (s_eqI rfl rfl rfl) ?_
      refine g_nil ?_
      refine normal_thn ?_
      refine aw_cond rfl (fun hb2 => ?_) (fun hb2 => ?_)
      · skip
        have q : (nth ks i 0 == k) = true := beq_iff_eq.2 (beq_iff_eq.1 hb2).symm
        refine aw_seq ?_
        refine aw_region ?_
        refine g_u (s_mv_imm rfl rfl) ?_
        refine g_u (s_as_imm rfl rfl) ?_
        refine g_nil ?_
        refine normal_thn ?_
        refine aw_ret ?_
        refine ret_blk ?_
        refine ret_thn ?_
        refine ret_thn ?_
        refine ret_blk ?_
        refine ret_thn ?_
        exact ⟨⟨(rfl : toAV (Al.look _ _) = some _).trans (congrArg some (by (exact congrArg iv (by first | (rw [h2, hin, List.drop_length]; rfl) | rw [h2, firstI_drop (d := 0) hi, if_pos q])))), rfl⟩, trivial⟩
      · skip
        have q : (nth ks i 0 == k) = false := beq_eq_false_iff_ne.2 (Ne.symm (beq_eq_false_iff_ne.1 hb2))
        refine aw_skip ?_
        refine normal_blk ?_
        refine normal_thn ?_
        refine aw_region ?_
        refine g_u (s_add rfl rfl rfl) ?_
        refine g_u (s_mv_imm rfl rfl) ?_
        refine g_nil ?_
        refine normal_thn ?_
        refine ⟨i + 1, ⟨hi, by (try dsimp only); rw [h2, firstI_drop (d := 0) hi, if_neg (by rw [q]; decide)]⟩, ⟨rfl, rfl, rfl, look_int rfl (by rw [wrap64 (by omega) (by omega)]; rfl), trivial⟩, by (try dsimp only); omega⟩
    · skip
      have hin : i = ks.length := by have := of_decide_eq_false hb1; (try simp only [List.length_map] at this); omega
      refine aw_exit ?_
      refine exit_thn ?_
      refine exit_thn ?_
      refine exit_blk ?_
      refine normal_thn ?_
      refine aw_seq ?_
      refine aw_region ?_
      refine g_u (s_as_imm rfl rfl) ?_
      refine g_nil ?_
      refine normal_thn ?_
      refine aw_ret ?_
      exact ⟨⟨(rfl : toAV (Al.look _ _) = some _).trans (congrArg some (by (exact congrArg iv (by first | (rw [h2, hin, List.drop_length]; rfl) | rw [h2, firstI_drop (d := 0) hi, if_pos q])))), rfl⟩, trivial⟩

set_option maxHeartbeats 400000 in
theorem containsU_c (ks : List Int) (k : Int) (hk : ks.length ≤ 1000000000) : PCall Tryd.prog Γ0 85 [(.sl 1 (ks.map fun x => cv x)), cv k] [bv (ks.any (fun x => x == k))] := by
  refine pcall_of Tryd.func85 rfl Tryd.ntmps85 (by kernel_rfl) rfl fun w0 I0 G0 => ?_
  refine aw_seq ?_
  refine aw_region ?_
  refine g_u (s_as_imm rfl rfl) ?_
  refine g_nil ?_
  refine normal_thn ?_
  refine aw_seq ?_
  refine aw_region ?_
  refine g_u (s_mv_imm rfl rfl) ?_
  refine g_u (s_mv_imm rfl rfl) ?_
  refine g_u (s_call1 (indexU_c _ _ (by omega)) rfl rfl) ?_
  refine g_u (s_geI rfl rfl rfl) ?_
  refine g_u (s_as_imm rfl rfl) ?_
  refine g_nil ?_
  refine normal_thn ?_
  refine aw_ret ?_
  exact ⟨⟨(rfl : toAV (Al.look _ _) = some _).trans (congrArg some (by (exact congrArg bv (firstI_any _ _ 0)))), rfl⟩, trivial⟩

set_option maxHeartbeats 400000 in
theorem in_c (k : ByteArray) (ks : List ByteArray) (hk : ks.length ≤ 1000000000) : PCall Tryd.prog Γ0 88 [sv k, (.sl 1 (ks.map fun x => sv x))] [bv (ks.any (fun x => decide (x = k)))] := by
  refine pcall_of Tryd.func88 rfl Tryd.ntmps88 (by kernel_rfl) rfl fun w0 I0 G0 => ?_
  refine aw_seq ?_
  refine aw_region ?_
  refine g_u (s_as_imm rfl rfl) ?_
  refine g_nil ?_
  refine normal_thn ?_
  refine aw_seq ?_
  refine aw_seq ?_
  refine aw_region ?_
  refine g_u (s_as_imm rfl rfl) ?_
  refine g_nil ?_
  refine normal_thn ?_
  refine aw_block ?_
  refine aw_loop' (fun i : Nat => [(0, .imm (sv k)), (1, .imm (.sl 1 (ks.map fun x => sv x))), (5, .imm (iv (i : Int)))]) (fun i => i ≤ ks.length ∧ ks.any (fun x => decide (x = k)) = (ks.drop i).any (fun x => decide (x = k))) (fun i => ks.length - i) (0) ?_ ⟨rfl, rfl, rfl, trivial⟩ ?_
  · exact ⟨Nat.zero_le _, rfl⟩
  · rintro i ⟨h1, h2⟩; (try dsimp only at h1 h2)
    refine aw_seq ?_
    refine aw_seq ?_
    refine aw_region ?_
    refine g_u (s_mv_imm rfl rfl) ?_
    refine g_u (s_mv_imm rfl rfl) ?_
    refine g_u (s_lenL rfl rfl Tryd.underlying78) ?_
    refine g_u (s_ltI rfl rfl rfl) ?_
    refine g_nil ?_
    refine normal_thn ?_
    refine aw_cond rfl (fun hb1 => ?_) (fun hb1 => ?_)
    · skip
      have hi : i < ks.length := by have := of_decide_eq_true hb1; (try simp only [List.length_map] at this); omega
      refine aw_skip ?_
      refine normal_thn ?_
      refine aw_seq ?_
      refine aw_block ?_
      refine aw_seq ?_
      refine aw_region ?_
      refine g_u (s_mv_imm rfl rfl) ?_
      refine g_u (s_mv_imm rfl rfl) ?_
      refine g_u (s_indexAddr rfl rfl rfl Tryd.underlying78 tS9 (by omega) (str_nth hi)) ?_
      refine g_u (s_load_cp rfl rfl tA9 tS9 rfl rfl) ?_
      refine g_u (s_mv_imm rfl rfl) ?_
      refine g_u (s_eqS rfl rfl rfl) ?_
      refine g_nil ?_
      refine normal_thn ?_
      refine aw_cond rfl (fun hb2 => ?_) (fun hb2 => ?_)
      · skip
        have q : decide (nth ks i ⟨#[]⟩ = k) = true := by have e := hb2; rw [str_beq] at e; exact e
        refine aw_seq ?_
        refine aw_region ?_
        refine g_u (s_as_imm rfl rfl) ?_
        refine g_nil ?_
        refine normal_thn ?_
        refine aw_ret ?_
        refine ret_blk ?_
        refine ret_thn ?_
        refine ret_thn ?_
        refine ret_blk ?_
        refine ret_thn ?_
        exact ⟨⟨(rfl : toAV (Al.look _ _) = some _).trans (congrArg some (by (exact congrArg bv (by first | (rw [h2, hin, List.drop_length]; rfl) | (rw [h2, any_drop (d := ⟨#[]⟩) hi, q]; rfl))))), rfl⟩, trivial⟩
      · skip
        have q : decide (nth ks i ⟨#[]⟩ = k) = false := by have e := hb2; rw [str_beq] at e; exact e
        refine aw_skip ?_
        refine normal_blk ?_
        refine normal_thn ?_
        refine aw_region ?_
        refine g_u (s_mv_imm rfl rfl) ?_
        refine g_u (s_add rfl rfl rfl) ?_
        refine g_u (s_as_imm rfl rfl) ?_
        refine g_nil ?_
        refine normal_thn ?_
        refine ⟨i + 1, ⟨hi, by (try dsimp only); rw [h2, any_drop (d := ⟨#[]⟩) hi, q]; rfl⟩, ⟨rfl, rfl, look_int rfl (by rw [wrap64 (by omega) (by omega)]; rfl), trivial⟩, by (try dsimp only); omega⟩
    · skip
      have hin : i = ks.length := by have := of_decide_eq_false hb1; (try simp only [List.length_map] at this); omega
      refine aw_exit ?_
      refine exit_thn ?_
      refine exit_thn ?_
      refine exit_blk ?_
      refine normal_thn ?_
      refine aw_seq ?_
      refine aw_region ?_
      refine g_u (s_as_imm rfl rfl) ?_
      refine g_nil ?_
      refine normal_thn ?_
      refine aw_ret ?_
      exact ⟨⟨(rfl : toAV (Al.look _ _) = some _).trans (congrArg some (by (exact congrArg bv (by first | (rw [h2, hin, List.drop_length]; rfl) | (rw [h2, any_drop (d := ⟨#[]⟩) hi, q]; rfl))))), rfl⟩, trivial⟩

set_option maxHeartbeats 400000 in
theorem drop_c (l : List GA) (ks : List ByteArray) (hl : l.length ≤ 1000000) (hk : ks.length ≤ 1000000000) : PCall Tryd.prog Γ0 49 [(.sl 7 (l.map avA)), (.sl 1 (ks.map fun x => sv x))] [.sl 7 ((dropA ks l).map avA)] := by
  refine pcall_of Tryd.func49 rfl Tryd.ntmps49 (by kernel_rfl) rfl fun w0 I0 G0 => ?_
  refine aw_seq ?_
  refine aw_region ?_
  refine g_u (s_as_imm rfl rfl) ?_
  refine g_nil ?_
  refine normal_thn ?_
  refine aw_seq ?_
  refine aw_region ?_
  refine g_u (s_as_imm rfl rfl) ?_
  refine g_nil ?_
  refine normal_thn ?_
  refine aw_seq ?_
  refine aw_seq ?_
  refine aw_newtok 3005 5 7 rfl rfl rfl rfl ?_
  refine aw_region ?_
  refine g_u (s_mv_imm rfl rfl) ?_
  refine g_u (s_lenL rfl rfl Tryd.underlying30) ?_
  refine g_u (s_mv_imm rfl rfl) ?_
  refine g_nil ?_
  refine normal_thn ?_
  refine aw_block ?_
  refine aw_loop' (fun i : Nat => [(1, .imm (.sl 1 (ks.map fun x => sv x))), (8, .imm (.sl 7 (l.map avA))), (9, .imm (iv (l.length : Int))), (5, .slg 3005 7 ((dropA ks (l.take i)).map avA)), (3005, .tok 7 ((dropA ks (l.take i)).map avA)), (10, .imm (iv (i : Int)))]) (fun i => i ≤ l.length) (fun i => l.length - i) (0) ?_ ⟨rfl, rfl, look_int rfl (by rw [List.length_map]), rfl, rfl, rfl, trivial⟩ ?_
  · exact Nat.zero_le _
  · rintro i h1; have h1 : i ≤ l.length := h1
    refine aw_seq ?_
    refine aw_region ?_
    refine g_u (s_ltI rfl rfl rfl) ?_
    refine g_nil ?_
    refine normal_thn ?_
    refine aw_seq ?_
    refine aw_cond rfl (fun hb1 => ?_) (fun hb1 => ?_)
    · skip
      have hi : i < l.length := by have := of_decide_eq_true hb1; (try simp only [List.length_map] at this); omega
      refine aw_skip ?_
      refine normal_thn ?_
      refine aw_seq ?_
      refine aw_block ?_
      refine aw_seq ?_
      refine aw_region ?_
      refine g_u (s_indexAddr rfl rfl rfl Tryd.underlying30 tS76 (by omega) (ixA hi)) ?_
      refine g_u (s_load_cp rfl rfl tA76 tS76 rfl rfl) ?_
      refine g_uG (s_alloc' 1007 rfl rfl rfl tZ76) rfl ?_
      refine g_u (s_store_imm rfl rfl rfl tS76 rfl rfl) ?_
      refine g_nil ?_
      refine normal_thn ?_
      refine aw_seq ?_
      refine aw_region ?_
      refine g_u (s_mv_imm rfl rfl) ?_
      refine g_u (s_fieldAddr rfl rfl fa76_0 rfl) ?_
      refine g_u (s_load_imm rfl rfl rfl tA9 tS9 rfl rfl) ?_
      refine g_u (s_call1 (containsS_c _ _ (by omega)) rfl rfl) ?_
      refine g_u (s_not rfl rfl) ?_
      refine g_nil ?_
      refine normal_thn ?_
      refine aw_cond rfl (fun hb2 => ?_) (fun hb2 => ?_)
      · skip
        have et : (dropA ks (l.take (i + 1))).map avA = (dropA ks (l.take i)).map avA ++ [(nthA l i).av] := by rw [dropA_take hi, if_neg (by have e := hb2; simp only [Bool.not_eq_true'] at e; rw [e]; decide)]; simp [avA_eq]
        refine aw_region ?_
        refine g_u (s_mv_slg rfl rfl) ?_
        refine g_u (s_load_agg rfl rfl rfl tA76 tS76 rfl rfl) ?_
        refine g_u (s_buildSlice (X0 := z76) rfl Tryd.underlying30 tS76 tZ76 rfl rfl rfl rfl rfl rfl rfl rfl) ?_
        refine g_u (s_append rfl rfl rfl rfl rfl Tryd.underlying30 Tryd.underlying30 tS76 zv76 rfl (by decide) by76 (by (try dsimp only); have hdl := dropA_len ks (l.take i); simp only [List.length_append, List.length_cons, List.length_nil, List.length_map, List.length_take] at *; omega) (by (try dsimp only); have hdl := dropA_len ks (l.take i); simp only [List.length_append, List.length_cons, List.length_nil, List.length_map, List.length_take] at *; omega)) ?_
        refine g_u (s_as_slg rfl rfl) ?_
        refine g_nil ?_
        refine normal_blk ?_
        refine normal_thn ?_
        refine aw_region ?_
        refine g_u (s_add rfl rfl rfl) ?_
        refine g_u (s_mv_imm rfl rfl) ?_
        refine g_nil ?_
        refine normal_thn ?_
        refine ⟨i + 1, hi, ⟨rfl, rfl, rfl, look_slg rfl et.symm, look_tok rfl et.symm, look_int rfl (by rw [wrap64 (by omega) (by omega)]; rfl), trivial⟩, by (try dsimp only); omega⟩
      · skip
        have et : (dropA ks (l.take (i + 1))).map avA = (dropA ks (l.take i)).map avA := by rw [dropA_take hi, if_pos (by have e := hb2; simp only [Bool.not_eq_false'] at e; exact e)]; simp [avA_eq]
        refine aw_skip ?_
        refine normal_blk ?_
        refine normal_thn ?_
        refine aw_region ?_
        refine g_u (s_add rfl rfl rfl) ?_
        refine g_u (s_mv_imm rfl rfl) ?_
        refine g_nil ?_
        refine normal_thn ?_
        refine ⟨i + 1, hi, ⟨rfl, rfl, rfl, look_slg rfl et.symm, look_tok rfl et.symm, look_int rfl (by rw [wrap64 (by omega) (by omega)]; rfl), trivial⟩, by (try dsimp only); omega⟩
    · skip
      have hin : i = l.length := by have := of_decide_eq_false hb1; (try simp only [List.length_map] at this); omega
      refine aw_exit ?_
      refine exit_thn ?_
      refine exit_thn ?_
      refine exit_blk ?_
      refine normal_thn ?_
      refine aw_seq ?_
      refine aw_region ?_
      refine g_u (s_mv_slg rfl rfl) ?_
      refine g_u (s_as_slg rfl rfl) ?_
      refine g_nil ?_
      refine normal_thn ?_
      refine aw_ret ?_
      exact ⟨⟨(rfl : toAV (Al.look _ _) = some _).trans (congrArg some (by (rw [hin, List.take_length]))), rfl⟩, trivial⟩

set_option maxHeartbeats 400000 in
theorem rdrop_c (l : List GA) (ks : List ByteArray) (hl : l.length ≤ 1000000) (hk : ks.length ≤ 1000000000) : PCall Tryd.prog Γ0 50 [(.sl 7 (l.map avA)), (.sl 1 (ks.map fun x => sv x))] [.sl 7 ((dropA ks l).map avA)] := by
  refine pcall_of Tryd.func50 rfl Tryd.ntmps50 (by kernel_rfl) rfl fun w0 I0 G0 => ?_
  refine aw_seq ?_
  refine aw_region ?_
  refine g_u (s_as_imm rfl rfl) ?_
  refine g_nil ?_
  refine normal_thn ?_
  refine aw_seq ?_
  refine aw_region ?_
  refine g_u (s_as_imm rfl rfl) ?_
  refine g_nil ?_
  refine normal_thn ?_
  refine aw_seq ?_
  refine aw_seq ?_
  refine aw_newtok 3005 5 7 rfl rfl rfl rfl ?_
  refine aw_region ?_
  refine g_u (s_as_imm rfl rfl) ?_
  refine g_nil ?_
  refine normal_thn ?_
  refine aw_block ?_
  refine aw_loop' (fun i : Nat => [(0, .imm (.sl 7 (l.map avA))), (1, .imm (.sl 1 (ks.map fun x => sv x))), (5, .slg 3005 7 ((dropA ks (l.take i)).map avA)), (3005, .tok 7 ((dropA ks (l.take i)).map avA)), (6, .imm (iv (i : Int)))]) (fun i => i ≤ l.length) (fun i => l.length - i) (0) ?_ ⟨rfl, rfl, rfl, rfl, rfl, trivial⟩ ?_
  · exact Nat.zero_le _
  · rintro i h1; have h1 : i ≤ l.length := h1
    refine aw_seq ?_
    refine aw_seq ?_
    refine aw_region ?_
    refine g_u (s_mv_imm rfl rfl) ?_
    refine g_u (s_mv_imm rfl rfl) ?_
    refine g_u (s_lenL rfl rfl Tryd.underlying30) ?_
    refine g_u (s_ltI rfl rfl rfl) ?_
    refine g_nil ?_
    refine normal_thn ?_
    refine aw_cond rfl (fun hb1 => ?_) (fun hb1 => ?_)
    · skip
      have hi : i < l.length := by have := of_decide_eq_true hb1; (try simp only [List.length_map] at this); omega
      refine aw_skip ?_
      refine normal_thn ?_
      refine aw_seq ?_
      refine aw_block ?_
      refine aw_seq ?_
      refine aw_region ?_
      refine g_u (s_mv_imm rfl rfl) ?_
      refine g_u (s_mv_imm rfl rfl) ?_
      refine g_u (s_indexAddr rfl rfl rfl Tryd.underlying30 tS76 (by omega) (ixA hi)) ?_
      refine g_u (s_fieldAddr_cp rfl rfl fa76_0 rfl rfl) ?_
      refine g_u (s_load_cp rfl rfl tA9 tS9 rfl rfl) ?_
      refine g_u (s_mv_imm rfl rfl) ?_
      refine g_u (s_call1 (in_c _ _ (by omega)) rfl rfl) ?_
      refine g_u (s_not rfl rfl) ?_
      refine g_nil ?_
      refine normal_thn ?_
      refine aw_cond rfl (fun hb2 => ?_) (fun hb2 => ?_)
      · skip
        have et : (dropA ks (l.take (i + 1))).map avA = (dropA ks (l.take i)).map avA ++ [(nthA l i).av] := by rw [dropA_take hi, if_neg (by have e := hb2; simp only [Bool.not_eq_true'] at e; rw [e]; decide)]; simp [avA_eq]
        refine aw_region ?_
        refine g_u (s_mv_slg rfl rfl) ?_
        refine g_u (s_mv_imm rfl rfl) ?_
        refine g_u (s_mv_imm rfl rfl) ?_
        refine g_u (s_indexAddr rfl rfl rfl Tryd.underlying30 tS76 (by omega) (ixA hi)) ?_
        refine g_u (s_load_cp rfl rfl tA76 tS76 rfl rfl) ?_
        refine g_u (s_buildSlice (X0 := z76) rfl Tryd.underlying30 tS76 tZ76 rfl rfl rfl rfl rfl rfl rfl rfl) ?_
        refine g_u (s_append rfl rfl rfl rfl rfl Tryd.underlying30 Tryd.underlying30 tS76 zv76 rfl (by decide) by76 (by (try dsimp only); have hdl := dropA_len ks (l.take i); simp only [List.length_append, List.length_cons, List.length_nil, List.length_map, List.length_take] at *; omega) (by (try dsimp only); have hdl := dropA_len ks (l.take i); simp only [List.length_append, List.length_cons, List.length_nil, List.length_map, List.length_take] at *; omega)) ?_
        refine g_u (s_as_slg rfl rfl) ?_
        refine g_nil ?_
        refine normal_blk ?_
        refine normal_thn ?_
        refine aw_region ?_
        refine g_u (s_mv_imm rfl rfl) ?_
        refine g_u (s_add rfl rfl rfl) ?_
        refine g_u (s_as_imm rfl rfl) ?_
        refine g_nil ?_
        refine normal_thn ?_
        refine ⟨i + 1, hi, ⟨rfl, rfl, look_slg rfl et.symm, look_tok rfl et.symm, look_int rfl (by rw [wrap64 (by omega) (by omega)]; rfl), trivial⟩, by (try dsimp only); omega⟩
      · skip
        have et : (dropA ks (l.take (i + 1))).map avA = (dropA ks (l.take i)).map avA := by rw [dropA_take hi, if_pos (by have e := hb2; simp only [Bool.not_eq_false'] at e; exact e)]; simp [avA_eq]
        refine aw_skip ?_
        refine normal_blk ?_
        refine normal_thn ?_
        refine aw_region ?_
        refine g_u (s_mv_imm rfl rfl) ?_
        refine g_u (s_add rfl rfl rfl) ?_
        refine g_u (s_as_imm rfl rfl) ?_
        refine g_nil ?_
        refine normal_thn ?_
        refine ⟨i + 1, hi, ⟨rfl, rfl, look_slg rfl et.symm, look_tok rfl et.symm, look_int rfl (by rw [wrap64 (by omega) (by omega)]; rfl), trivial⟩, by (try dsimp only); omega⟩
    · skip
      have hin : i = l.length := by have := of_decide_eq_false hb1; (try simp only [List.length_map] at this); omega
      refine aw_exit ?_
      refine exit_thn ?_
      refine exit_thn ?_
      refine exit_blk ?_
      refine normal_thn ?_
      refine aw_seq ?_
      refine aw_region ?_
      refine g_u (s_mv_slg rfl rfl) ?_
      refine g_u (s_as_slg rfl rfl) ?_
      refine g_nil ?_
      refine normal_thn ?_
      refine aw_ret ?_
      exact ⟨⟨(rfl : toAV (Al.look _ _) = some _).trans (congrArg some (by (rw [hin, List.take_length]))), rfl⟩, trivial⟩

set_option maxHeartbeats 400000 in
theorem plainAs_c (l : List GA) (ks : List Int) (ho : ∀ a ∈ l, a.ok) (hw : wtAs l ≤ 10000000) (hk : ks.length ≤ 1000000000) : PCall Tryd.prog Γ0 48 [(.sl 7 (l.map avA)), (.sl 1 (ks.map fun x => cv x))] [.sl 7 ((l.map (plainA ks)).map avA)] := by
  have hl := len_wtAs l
  refine pcall_of Tryd.func48 rfl Tryd.ntmps48 (by kernel_rfl) rfl fun w0 I0 G0 => ?_
  refine aw_seq ?_
  refine aw_region ?_
  refine g_u (s_as_imm rfl rfl) ?_
  refine g_nil ?_
  refine normal_thn ?_
  refine aw_seq ?_
  refine aw_region ?_
  refine g_u (s_as_imm rfl rfl) ?_
  refine g_nil ?_
  refine normal_thn ?_
  refine aw_seq ?_
  refine aw_seq ?_
  refine aw_newtok 3005 5 7 rfl rfl rfl rfl ?_
  refine aw_region ?_
  refine g_u (s_mv_imm rfl rfl) ?_
  refine g_u (s_lenL rfl rfl Tryd.underlying30) ?_
  refine g_u (s_mv_imm rfl rfl) ?_
  refine g_nil ?_
  refine normal_thn ?_
  refine aw_block ?_
  refine aw_loop' (fun i : Nat => [(1, .imm (.sl 1 (ks.map fun x => cv x))), (8, .imm (.sl 7 (l.map avA))), (9, .imm (iv (l.length : Int))), (5, .slg 3005 7 (((l.take i).map (plainA ks)).map avA)), (3005, .tok 7 (((l.take i).map (plainA ks)).map avA)), (10, .imm (iv (i : Int)))]) (fun i => i ≤ l.length) (fun i => l.length - i) (0) ?_ ⟨rfl, rfl, look_int rfl (by rw [List.length_map]), rfl, rfl, rfl, trivial⟩ ?_
  · exact Nat.zero_le _
  · rintro i h1; have h1 : i ≤ l.length := h1
    refine aw_seq ?_
    refine aw_region ?_
    refine g_u (s_ltI rfl rfl rfl) ?_
    refine g_nil ?_
    refine normal_thn ?_
    refine aw_seq ?_
    refine aw_cond rfl (fun hb1 => ?_) (fun hb1 => ?_)
    · skip
      have hi : i < l.length := by have := of_decide_eq_true hb1; (try simp only [List.length_map] at this); omega
      have gov : (nthA l i).val.ok := ((GA.ok_iff _).1 (ho _ (nthA_mem hi))).2
      have gow : (nthA l i).val.wt ≤ 10000000 := by have h1 := wtAs_mem (nthA_mem hi); have h2 := (nthA l i).wt_eq; omega
      refine aw_skip ?_
      refine normal_thn ?_
      refine aw_seq ?_
      refine aw_block ?_
      refine aw_seq ?_
      refine aw_region ?_
      refine g_u (s_indexAddr rfl rfl rfl Tryd.underlying30 tS76 (by omega) (ixA hi)) ?_
      refine g_u (s_load_cp rfl rfl tA76 tS76 rfl rfl) ?_
      refine g_uG (s_alloc' 1007 rfl rfl rfl tZ76) rfl ?_
      refine g_u (s_store_imm rfl rfl rfl tS76 rfl rfl) ?_
      refine g_nil ?_
      refine normal_thn ?_
      refine aw_seq ?_
      refine aw_seq ?_
      refine aw_region ?_
      refine g_u (s_mv_imm rfl rfl) ?_
      refine g_u (s_fieldAddr rfl rfl fa76_1 rfl) ?_
      refine g_u (s_fieldAddr rfl rfl fa67_0 rfl) ?_
      refine g_u (s_load_imm rfl rfl rfl tA5 tS5 rfl rfl) ?_
      refine g_u (s_call1 (containsU_c _ _ (by omega)) rfl rfl) ?_
      refine g_nil ?_
      refine normal_thn ?_
      refine aw_cond rfl (fun hb2 => ?_) (fun hb2 => ?_)
      · skip
        have et : ((l.take (i + 1)).map (plainA ks)).map avA = ((l.take i).map (plainA ks)).map avA ++ [.agg [sv (nthA l i).key, (plainV (nthA l i).val).av]] := by rw [plain_take hi, List.map_append]; simp only [List.map_cons, List.map_nil, avA_eq]; unfold plainA; rw [if_pos hb2]; rfl
        refine aw_region ?_
        refine g_u (s_fieldAddr rfl rfl fa76_1 rfl) ?_
        refine g_u (s_load_imm rfl rfl rfl tA67 tS67 rfl rfl) ?_
        refine g_u (s_call1 (vplain_c _ gov gow) rfl rfl) ?_
        refine g_u (s_fieldAddr rfl rfl fa76_1 rfl) ?_
        refine g_u (s_store_imm rfl rfl rfl tS67 rfl rfl) ?_
        refine g_nil ?_
        refine normal_thn ?_
        refine aw_region ?_
        refine g_u (s_mv_slg rfl rfl) ?_
        refine g_u (s_load_agg rfl rfl rfl tA76 tS76 rfl rfl) ?_
        refine g_u (s_buildSlice (X0 := z76) rfl Tryd.underlying30 tS76 tZ76 rfl rfl rfl rfl rfl rfl rfl rfl) ?_
        refine g_u (s_append rfl rfl rfl rfl rfl Tryd.underlying30 Tryd.underlying30 tS76 zv76 rfl (by decide) by76 (by (try dsimp only); simp only [List.length_append, List.length_cons, List.length_nil, List.length_map, List.length_take, List.length_drop]; omega) (by (try dsimp only); simp only [List.length_append, List.length_cons, List.length_nil, List.length_map, List.length_take, List.length_drop]; omega)) ?_
        refine g_u (s_as_slg rfl rfl) ?_
        refine g_nil ?_
        refine normal_blk ?_
        refine normal_thn ?_
        refine aw_region ?_
        refine g_u (s_add rfl rfl rfl) ?_
        refine g_u (s_mv_imm rfl rfl) ?_
        refine g_nil ?_
        refine normal_thn ?_
        refine ⟨i + 1, hi, ⟨rfl, rfl, rfl, look_slg rfl et.symm, look_tok rfl et.symm, look_int rfl (by rw [wrap64 (by omega) (by omega)]; rfl), trivial⟩, by (try dsimp only); omega⟩
      · skip
        have et : ((l.take (i + 1)).map (plainA ks)).map avA = ((l.take i).map (plainA ks)).map avA ++ [(nthA l i).av] := by rw [plain_take hi, List.map_append]; simp only [List.map_cons, List.map_nil, avA_eq]; unfold plainA; rw [if_neg (by rw [hb2]; decide)]
        refine aw_skip ?_
        refine normal_thn ?_
        refine aw_region ?_
        refine g_u (s_mv_slg rfl rfl) ?_
        refine g_u (s_load_agg rfl rfl rfl tA76 tS76 rfl rfl) ?_
        refine g_u (s_buildSlice (X0 := z76) rfl Tryd.underlying30 tS76 tZ76 rfl rfl rfl rfl rfl rfl rfl rfl) ?_
        refine g_u (s_append rfl rfl rfl rfl rfl Tryd.underlying30 Tryd.underlying30 tS76 zv76 rfl (by decide) by76 (by (try dsimp only); simp only [List.length_append, List.length_cons, List.length_nil, List.length_map, List.length_take, List.length_drop]; omega) (by (try dsimp only); simp only [List.length_append, List.length_cons, List.length_nil, List.length_map, List.length_take, List.length_drop]; omega)) ?_
        refine g_u (s_as_slg rfl rfl) ?_
        refine g_nil ?_
        refine normal_blk ?_
        refine normal_thn ?_
        refine aw_region ?_
        refine g_u (s_add rfl rfl rfl) ?_
        refine g_u (s_mv_imm rfl rfl) ?_
        refine g_nil ?_
        refine normal_thn ?_
        refine ⟨i + 1, hi, ⟨rfl, rfl, rfl, look_slg rfl et.symm, look_tok rfl et.symm, look_int rfl (by rw [wrap64 (by omega) (by omega)]; rfl), trivial⟩, by (try dsimp only); omega⟩
    · skip
      have hin : i = l.length := by have := of_decide_eq_false hb1; (try simp only [List.length_map] at this); omega
      refine aw_exit ?_
      refine exit_thn ?_
      refine exit_thn ?_
      refine exit_blk ?_
      refine normal_thn ?_
      refine aw_seq ?_
      refine aw_region ?_
      refine g_u (s_mv_slg rfl rfl) ?_
      refine g_u (s_as_slg rfl rfl) ?_
      refine g_nil ?_
      refine normal_thn ?_
      refine aw_ret ?_
      exact ⟨⟨(rfl : toAV (Al.look _ _) = some _).trans (congrArg some (by (rw [hin, List.take_length]))), rfl⟩, trivial⟩

theorem plainA_yes {ks : List Int} {a : GA} {k : Nat} (h : k < ks.length) (q : (nth ks k 0 == a.val.kind) = true) : (GA.av (plainA (ks.take (k + 1)) a)) = .agg [sv (plainA (ks.take k) a).key, (plainV a.val).av] := by
  have e : (ks.take (k + 1)).any (fun x => x == a.val.kind) = true := by rw [take_snoc (nth_get (d := 0) h), List.any_append]; simp [q]
  have hk : (plainA (ks.take k) a).key = a.key := by unfold plainA; split <;> rfl
  rw [hk]; unfold plainA; rw [if_pos e]; rfl
theorem plainA_no {ks : List Int} {a : GA} {k : Nat} (h : k < ks.length) (q : (nth ks k 0 == a.val.kind) = false) : plainA (ks.take (k + 1)) a = plainA (ks.take k) a := by
  have e : (ks.take (k + 1)).any (fun x => x == a.val.kind) = (ks.take k).any (fun x => x == a.val.kind) := by rw [take_snoc (nth_get (d := 0) h), List.any_append]; simp [q]
  unfold plainA; rw [e]
set_option maxHeartbeats 1000000 in
theorem rplainAs_c (l : List GA) (ks : List Int) (ho : ∀ a ∈ l, a.ok) (hw : wtAs l ≤ 10000000) (hk : ks.length ≤ 1000000000) : PCall Tryd.prog Γ0 51 [(.sl 7 (l.map avA)), (.sl 1 (ks.map fun x => cv x))] [.sl 7 ((l.map (plainA ks)).map avA)] := by
  have hl := len_wtAs l
  refine pcall_of Tryd.func51 rfl Tryd.ntmps51 (by kernel_rfl) rfl fun w0 I0 G0 => ?_
  refine aw_seq ?_
  refine aw_region ?_
  refine g_u (s_as_imm rfl rfl) ?_
  refine g_nil ?_
  refine normal_thn ?_
  refine aw_seq ?_
  refine aw_region ?_
  refine g_u (s_as_imm rfl rfl) ?_
  refine g_nil ?_
  refine normal_thn ?_
  refine aw_seq ?_
  refine aw_seq ?_
  refine aw_newtok 3005 5 7 rfl rfl rfl rfl ?_
  refine aw_region ?_
  refine g_u (s_as_imm rfl rfl) ?_
  refine g_nil ?_
  refine normal_thn ?_
  refine aw_block ?_
  refine aw_loop' (fun i : Nat => [(0, .imm (.sl 7 (l.map avA))), (1, .imm (.sl 1 (ks.map fun x => cv x))), (5, .slg 3005 7 (((l.take i).map (plainA ks)).map avA)), (3005, .tok 7 (((l.take i).map (plainA ks)).map avA)), (6, .imm (iv (i : Int)))]) (fun i => i ≤ l.length) (fun i => l.length - i) (0) ?_ ⟨rfl, rfl, rfl, rfl, rfl, trivial⟩ ?_
  · exact Nat.zero_le _
  · rintro i h1; have h1 : i ≤ l.length := h1
    refine aw_seq ?_
    refine aw_seq ?_
    refine aw_region ?_
    refine g_u (s_mv_imm rfl rfl) ?_
    refine g_u (s_mv_imm rfl rfl) ?_
    refine g_u (s_lenL rfl rfl Tryd.underlying30) ?_
    refine g_u (s_ltI rfl rfl rfl) ?_
    refine g_nil ?_
    refine normal_thn ?_
    refine aw_cond rfl (fun hb1 => ?_) (fun hb1 => ?_)
    · skip
      have hi : i < l.length := by have := of_decide_eq_true hb1; (try simp only [List.length_map] at this); omega
      have gov : (nthA l i).val.ok := ((GA.ok_iff _).1 (ho _ (nthA_mem hi))).2
      have gow : (nthA l i).val.wt ≤ 10000000 := by have h1 := wtAs_mem (nthA_mem hi); have h2 := (nthA l i).wt_eq; omega
      refine aw_skip ?_
      refine normal_thn ?_
      refine aw_seq ?_
      refine aw_block ?_
      refine aw_seq ?_
      refine aw_region ?_
      refine g_u (s_mv_imm rfl rfl) ?_
      refine g_u (s_mv_imm rfl rfl) ?_
      refine g_u (s_indexAddr rfl rfl rfl Tryd.underlying30 tS76 (by omega) (ixA hi)) ?_
      refine g_u (s_load_cp rfl rfl tA76 tS76 rfl rfl) ?_
      refine g_uG (s_alloc' 1007 rfl rfl rfl tZ76) rfl ?_
      refine g_u (s_store_imm rfl rfl rfl tS76 rfl rfl) ?_
      refine g_nil ?_
      refine normal_thn ?_
      refine aw_seq ?_
      refine aw_seq ?_
      refine aw_region ?_
      refine g_u (s_as_imm rfl rfl) ?_
      refine g_nil ?_
      refine normal_thn ?_
      refine aw_block ?_
      refine aw_loop' (fun k : Nat => [(0, .imm (.sl 7 (l.map avA))), (1, .imm (.sl 1 (ks.map fun x => cv x))), (5, .slg 3005 7 (((l.take i).map (plainA ks)).map avA)), (3005, .tok 7 (((l.take i).map (plainA ks)).map avA)), (6, .imm (iv (i : Int))), (7, .ptr 1007 0), (1007, .box 76 (.imm (GA.av (plainA (ks.take k) (nthA l i))))), (8, .imm (iv (k : Int)))]) (fun k => k ≤ ks.length) (fun k => ks.length - k) (0) ?_ ⟨rfl, rfl, rfl, rfl, rfl, rfl, rfl, rfl, trivial⟩ ?_
      · exact Nat.zero_le _
      · rintro k g1; have g1 : k ≤ ks.length := g1
        refine aw_seq ?_
        refine aw_seq ?_
        refine aw_region ?_
        refine g_u (s_mv_imm rfl rfl) ?_
        refine g_u (s_mv_imm rfl rfl) ?_
        refine g_u (s_lenL rfl rfl Tryd.underlying79) ?_
        refine g_u (s_ltI rfl rfl rfl) ?_
        refine g_nil ?_
        refine normal_thn ?_
        refine aw_cond rfl (fun hb2 => ?_) (fun hb2 => ?_)
        · skip
          have hk2 : k < ks.length := by have := of_decide_eq_true hb2; (try simp only [List.length_map] at this); omega
          refine aw_skip ?_
          refine normal_thn ?_
          refine aw_seq ?_
          refine aw_block ?_
          refine aw_seq ?_
          refine aw_draw mixed ?_
          refine g_u (s_mv_imm rfl rfl) ?_
          refine g_u (s_mv_imm rfl rfl) ?_
          refine g_u (s_indexAddr rfl rfl rfl Tryd.underlying79 tS5 (by omega) (u8_nth hk2)) ?_
          refine g_u (s_load_cp rfl rfl tA5 tS5 rfl rfl) ?_
          refine g_u (s_mv_imm rfl rfl) ?_
          refine g_u (s_mv_imm rfl rfl) ?_
          refine g_u (s_indexAddr rfl rfl rfl Tryd.underlying30 tS76 (by omega) (ixA hi)) ?_
          refine g_u (s_fieldAddr_cp rfl rfl fa76_1 rfl rfl) ?_
          refine g_u (s_fieldAddr_cp rfl rfl fa67_0 rfl rfl) ?_
          refine g_u (s_load_cp rfl rfl tA5 tS5 rfl rfl) ?_
          refine g_u (s_eqI rfl rfl rfl) ?_
          refine g_nil ⟨by kernel_rfl, ?_⟩
          refine normal_thn ?_
          refine aw_cond rfl (fun hb3 => ?_) (fun hb3 => ?_)
          · skip
            have ea := (plainA_yes hk2 hb3).symm
            refine aw_region ?_
            refine g_u (s_mv_imm rfl rfl) ?_
            refine g_u (s_mv_imm rfl rfl) ?_
            refine g_u (s_indexAddr rfl rfl rfl Tryd.underlying30 tS76 (by omega) (ixA hi)) ?_
            refine g_u (s_fieldAddr_cp rfl rfl fa76_1 rfl rfl) ?_
            refine g_u (s_load_cp rfl rfl tA67 tS67 rfl rfl) ?_
            refine g_u (s_call1 (rplain_c _ gov gow) rfl rfl) ?_
            refine g_u (s_fieldAddr rfl rfl fa76_1 rfl) ?_
            refine g_u (s_store_imm rfl rfl rfl tS67 rfl rfl) ?_
            refine g_nil ?_
            refine normal_blk ?_
            refine normal_thn ?_
            refine aw_pack 1007 rfl rfl ?_
            refine aw_region ?_
            refine g_u (s_mv_imm rfl rfl) ?_
            refine g_u (s_add rfl rfl rfl) ?_
            refine g_u (s_as_imm rfl rfl) ?_
            refine g_nil ?_
            refine normal_thn ?_
            refine ⟨k + 1, hk2, ⟨rfl, rfl, rfl, rfl, rfl, rfl, look_bimm rfl ea, look_int rfl (by rw [wrap64 (by omega) (by omega)]; rfl), trivial⟩, by (try dsimp only); omega⟩
          · skip
            have ea := congrArg GA.av (plainA_no hk2 hb3).symm
            refine aw_skip ?_
            refine normal_blk ?_
            refine normal_thn ?_
            refine aw_region ?_
            refine g_u (s_mv_imm rfl rfl) ?_
            refine g_u (s_add rfl rfl rfl) ?_
            refine g_u (s_as_imm rfl rfl) ?_
            refine g_nil ?_
            refine normal_thn ?_
            refine ⟨k + 1, hk2, ⟨rfl, rfl, rfl, rfl, rfl, rfl, look_bimm rfl ea, look_int rfl (by rw [wrap64 (by omega) (by omega)]; rfl), trivial⟩, by (try dsimp only); omega⟩
        · skip
          have hkn : k = ks.length := by have := of_decide_eq_false hb2; (try simp only [List.length_map] at this); omega
          have et : ((l.take (i + 1)).map (plainA ks)).map avA = ((l.take i).map (plainA ks)).map avA ++ [GA.av (plainA (ks.take k) (nthA l i))] := by rw [plain_take hi, List.map_append]; simp only [List.map_cons, List.map_nil, avA_eq]; rw [hkn, List.take_length]
          refine aw_exit ?_
          refine exit_thn ?_
          refine exit_thn ?_
          refine exit_blk ?_
          refine normal_thn ?_
          refine aw_region ?_
          refine g_u (s_mv_slg rfl rfl) ?_
          refine g_u (s_load_imm rfl rfl rfl tA76 tS76 rfl rfl) ?_
          refine g_u (s_buildSlice (X0 := z76) rfl Tryd.underlying30 tS76 tZ76 rfl rfl rfl rfl rfl rfl rfl rfl) ?_
          refine g_u (s_append rfl rfl rfl rfl rfl Tryd.underlying30 Tryd.underlying30 tS76 zv76 rfl (by decide) by76 (by (try dsimp only); simp only [List.length_append, List.length_cons, List.length_nil, List.length_map, List.length_take, List.length_drop]; omega) (by (try dsimp only); simp only [List.length_append, List.length_cons, List.length_nil, List.length_map, List.length_take, List.length_drop]; omega)) ?_
          refine g_u (s_as_slg rfl rfl) ?_
          refine g_nil ?_
          refine normal_blk ?_
          refine normal_thn ?_
          refine aw_region ?_
          refine g_u (s_mv_imm rfl rfl) ?_
          refine g_u (s_add rfl rfl rfl) ?_
          refine g_u (s_as_imm rfl rfl) ?_
          refine g_nil ?_
          refine normal_thn ?_
          refine ⟨i + 1, hi, ⟨rfl, rfl, look_slg rfl et.symm, look_tok rfl et.symm, look_int rfl (by rw [wrap64 (by omega) (by omega)]; rfl), trivial⟩, by (try dsimp only); omega⟩
    · skip
      have hin : i = l.length := by have := of_decide_eq_false hb1; (try simp only [List.length_map] at this); omega
      refine aw_exit ?_
      refine exit_thn ?_
      refine exit_thn ?_
      refine exit_blk ?_
      refine normal_thn ?_
      refine aw_seq ?_
      refine aw_region ?_
      refine g_u (s_mv_slg rfl rfl) ?_
      refine g_u (s_as_slg rfl rfl) ?_
      refine g_nil ?_
      refine normal_thn ?_
      refine aw_ret ?_
      exact ⟨⟨(rfl : toAV (Al.look _ _) = some _).trans (congrArg some (by (rw [hin, List.take_length]))), rfl⟩, trivial⟩

end Go.Proofs

