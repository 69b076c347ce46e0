/- Texts that the proofs of this claim share, part 6: the abstract logic, plain Lean on values and batches, and walks. No condition but those typed in each lemma. -/
import Derived.Maps.RangeRun
import Derived.Sort.OwnSorted
import Derived.Test.YtchikjokpmdipaaGreatDoorP5
set_option linter.unusedSimpArgs false
set_option linter.unusedVariables false
namespace Go.Proofs
open Go Go.Al
set_option maxRecDepth 10000
set_option maxHeartbeats 400000 in
theorem keyP_c (k : ByteArray) (hk : k.size < 9223372036854775808) : PCall Tryz.prog Γ0 61 [sv k] [iv (keyC k)] := by
  have cr := check_range k
  refine pcall_of Tryz.func61 rfl Tryz.ntmps61 (by kernel_rfl) rfl fun w0 I0 G0 => ?_
  refine aw_seq ?_
  refine aw_region ?_
  refine g_u (s_as_imm rfl rfl) ?_
  refine g_nil ?_
  refine normal_thn ?_
  refine aw_seq ?_
  refine aw_block ?_
  refine aw_seq ?_
  refine aw_region ?_
  refine g_u (s_mv_imm rfl rfl) ?_
  refine g_u (s_eqS rfl rfl rfl) ?_
  refine g_u (s_as_imm rfl rfl) ?_
  refine g_nil ?_
  refine normal_thn ?_
  refine aw_cond rfl (fun hb1 => ?_) (fun hb1 => ?_)
  · skip
    have q : k.size = 0 := by have e := hb1; rw [str_beq] at e; exact (size0 k).1 (of_decide_eq_true e)
    refine aw_seq ?_
    refine aw_region ?_
    refine g_u (s_as_imm rfl rfl) ?_
    refine g_nil ?_
    refine normal_thn ?_
    refine aw_ret ?_
    refine ret_blk ?_
    refine ret_thn ?_
    exact ⟨⟨(rfl : toAV (Al.look _ _) = some _).trans (congrArg some (by (exact congrArg iv (by unfold keyC; (repeat' split) <;> first | rfl | omega)))), rfl⟩, trivial⟩
  · skip
    have q : ¬ k.size = 0 := by have e := hb1; rw [str_beq] at e; exact fun h => of_decide_eq_false e ((size0 k).2 h)
    refine aw_seq ?_
    refine aw_region ?_
    refine g_u (s_mv_imm rfl rfl) ?_
    refine g_u (s_call1 (check_c _ (by omega)) rfl rfl) ?_
    refine g_u (s_geI rfl rfl rfl) ?_
    refine g_u (s_as_imm rfl rfl) ?_
    refine g_nil ?_
    refine normal_thn ?_
    refine aw_cond rfl (fun hb2 => ?_) (fun hb2 => ?_)
    · skip
      have q := of_decide_eq_true hb2
      refine aw_seq ?_
      refine aw_region ?_
      refine g_u (s_as_imm rfl rfl) ?_
      refine g_nil ?_
      refine normal_thn ?_
      refine aw_ret ?_
      refine ret_blk ?_
      refine ret_thn ?_
      exact ⟨⟨(rfl : toAV (Al.look _ _) = some _).trans (congrArg some (by (exact congrArg iv (by unfold keyC; (repeat' split) <;> first | rfl | omega)))), rfl⟩, trivial⟩
    · skip
      have q := of_decide_eq_false hb2
      refine aw_seq ?_
      refine aw_region ?_
      refine g_u (s_mv_imm rfl rfl) ?_
      refine g_u (s_lenS rfl rfl Tryz.underlying9) ?_
      refine g_u (s_gtI rfl rfl rfl) ?_
      refine g_u (s_as_imm rfl rfl) ?_
      refine g_nil ?_
      refine normal_thn ?_
      refine aw_cond rfl (fun hb3 => ?_) (fun hb3 => ?_)
      · skip
        have q := of_decide_eq_true hb3
        refine aw_seq ?_
        refine aw_region ?_
        refine g_u (s_as_imm rfl rfl) ?_
        refine g_nil ?_
        refine normal_thn ?_
        refine aw_ret ?_
        refine ret_blk ?_
        refine ret_thn ?_
        exact ⟨⟨(rfl : toAV (Al.look _ _) = some _).trans (congrArg some (by (exact congrArg iv (by unfold keyC; (repeat' split) <;> first | rfl | omega)))), rfl⟩, trivial⟩
      · skip
        have q := of_decide_eq_false hb3
        refine aw_skip ?_
        refine normal_blk ?_
        refine normal_thn ?_
        refine aw_seq ?_
        refine aw_region ?_
        refine g_u (s_as_imm rfl rfl) ?_
        refine g_nil ?_
        refine normal_thn ?_
        refine aw_ret ?_
        exact ⟨⟨(rfl : toAV (Al.look _ _) = some _).trans (congrArg some (by (exact congrArg iv (by unfold keyC; (repeat' split) <;> first | rfl | omega)))), rfl⟩, trivial⟩

set_option maxHeartbeats 400000 in
theorem rkeyP_c (k : ByteArray) (hk : k.size < 9223372036854775808) : PCall Tryz.prog Γ0 65 [sv k] [iv (keyC k)] := by
  have cr := check_range k
  have ce := check_eq k
  refine pcall_of Tryz.func65 rfl Tryz.ntmps65 (by kernel_rfl) rfl fun w0 I0 G0 => ?_
  refine aw_seq ?_
  refine aw_region ?_
  refine g_u (s_as_imm rfl rfl) ?_
  refine g_nil ?_
  refine normal_thn ?_
  refine aw_seq ?_
  refine aw_seq ?_
  refine aw_region ?_
  refine g_u (s_mv_imm rfl rfl) ?_
  refine g_u (s_eqS rfl rfl rfl) ?_
  refine g_nil ?_
  refine normal_thn ?_
  refine aw_cond rfl (fun hb1 => ?_) (fun hb1 => ?_)
  · skip
    have q : k.size = 0 := by have e := hb1; rw [str_beq] at e; exact (size0 k).1 (of_decide_eq_true e)
    refine aw_seq ?_
    refine aw_region ?_
    refine g_u (s_as_imm rfl rfl) ?_
    refine g_nil ?_
    refine normal_thn ?_
    refine aw_ret ?_
    refine ret_thn ?_
    exact ⟨⟨(rfl : toAV (Al.look _ _) = some _).trans (congrArg some (by (exact congrArg iv (by unfold keyC; (repeat' split) <;> first | rfl | omega)))), rfl⟩, trivial⟩
  · skip
    have q : ¬ k.size = 0 := by have e := hb1; rw [str_beq] at e; exact fun h => of_decide_eq_false e ((size0 k).2 h)
    refine aw_skip ?_
    refine normal_thn ?_
    refine aw_seq ?_
    refine aw_seq ?_
    refine aw_region ?_
    refine g_u (s_mv_imm rfl rfl) ?_
    refine g_u (s_call1 (rcheck_c _ (by omega)) rfl rfl) ?_
    refine g_u (s_neI rfl rfl rfl) ?_
    refine g_nil ?_
    refine normal_thn ?_
    refine aw_cond rfl (fun hb2 => ?_) (fun hb2 => ?_)
    · skip
      have q := bne_iff_ne.1 hb2
      refine aw_seq ?_
      refine aw_region ?_
      refine g_u (s_as_imm rfl rfl) ?_
      refine g_nil ?_
      refine normal_thn ?_
      refine aw_ret ?_
      refine ret_thn ?_
      exact ⟨⟨(rfl : toAV (Al.look _ _) = some _).trans (congrArg some (by (exact congrArg iv (by unfold keyC; (repeat' split) <;> first | rfl | omega)))), rfl⟩, trivial⟩
    · skip
      have q := bne_eq_false_iff_eq.1 hb2
      refine aw_skip ?_
      refine normal_thn ?_
      refine aw_seq ?_
      refine aw_seq ?_
      refine aw_region ?_
      refine g_u (s_mv_imm rfl rfl) ?_
      refine g_u (s_lenS rfl rfl Tryz.underlying9) ?_
      refine g_u (s_gtI rfl rfl rfl) ?_
      refine g_nil ?_
      refine normal_thn ?_
      refine aw_cond rfl (fun hb3 => ?_) (fun hb3 => ?_)
      · skip
        have q := of_decide_eq_true hb3
        refine aw_seq ?_
        refine aw_region ?_
        refine g_u (s_as_imm rfl rfl) ?_
        refine g_nil ?_
        refine normal_thn ?_
        refine aw_ret ?_
        refine ret_thn ?_
        exact ⟨⟨(rfl : toAV (Al.look _ _) = some _).trans (congrArg some (by (exact congrArg iv (by unfold keyC; (repeat' split) <;> first | rfl | omega)))), rfl⟩, trivial⟩
      · skip
        have q := of_decide_eq_false hb3
        refine aw_skip ?_
        refine normal_thn ?_
        refine aw_seq ?_
        refine aw_region ?_
        refine g_u (s_as_imm rfl rfl) ?_
        refine g_nil ?_
        refine normal_thn ?_
        refine aw_ret ?_
        exact ⟨⟨(rfl : toAV (Al.look _ _) = some _).trans (congrArg some (by (exact congrArg iv (by unfold keyC; (repeat' split) <;> first | rfl | omega)))), rfl⟩, trivial⟩

set_option maxHeartbeats 2000000 in
theorem bare_c (v : GV) : PCall Tryz.prog Γ0 104 [v.av] [(bareV v).av] := by
  refine pcall_of Tryz.func104 rfl Tryz.ntmps104 (by kernel_rfl) rfl fun w0 I0 G0 => ?_
  refine aw_seq ?_
  refine aw_region ?_
  refine g_uG (s_box_imm 1001 rfl rfl rfl rfl) rfl ?_
  refine g_uG (s_alloc' 1002 rfl rfl rfl tZ48) rfl ?_
  refine g_nil ?_
  refine normal_thn ?_
  refine aw_seq ?_
  refine aw_region ?_
  refine g_u (s_fieldAddr rfl rfl fa48_0 rfl) ?_
  refine g_u (s_load_imm rfl rfl rfl tA5 tS5 rfl rfl) ?_
  refine g_u (s_build rfl tU48 us48 pl48 rfl rfl rfl rfl) ?_
  refine g_uG (s_alloc' 1003 rfl rfl rfl tZ48) rfl ?_
  refine g_u (s_store_imm rfl rfl rfl tS48 rfl rfl) ?_
  refine g_nil ?_
  refine normal_thn ?_
  refine aw_seq ?_
  refine aw_seq ?_
  refine aw_region ?_
  refine g_u (s_fieldAddr rfl rfl fa48_0 rfl) ?_
  refine g_u (s_load_imm rfl rfl rfl tA5 tS5 rfl rfl) ?_
  refine g_nil ?_
  refine normal_thn ?_
  refine aw_block ?_
  refine aw_seq ?_
  refine aw_seq ?_
  refine aw_region ?_
  refine g_u (s_eqI rfl rfl rfl) ?_
  refine g_u (s_as_imm rfl rfl) ?_
  refine g_nil ?_
  refine normal_thn ?_
  refine aw_cond rfl (fun hb1 => ?_) (fun hb1 => ?_)
  · skip
    have q := beq_iff_eq.1 hb1
    refine aw_skip ?_
    refine normal_thn ?_
    refine aw_cond rfl (fun hb2 => ?_) (fun hb2 => ?_)
    · skip
      have q := beq_iff_eq.1 hb2
      refine aw_region ?_
      refine g_u (s_fieldAddr rfl rfl fa48_1 rfl) ?_
      refine g_u (s_load_imm rfl rfl rfl tA9 tS9 rfl rfl) ?_
      refine g_u (s_fieldAddr rfl rfl fa48_1 rfl) ?_
      refine g_u (s_store_imm rfl rfl rfl tS9 rfl rfl) ?_
      refine g_nil ?_
      refine normal_blk ?_
      refine normal_thn ?_
      refine aw_seq ?_
      refine aw_region ?_
      refine g_u (s_load_agg rfl rfl rfl tA48 tS48 rfl rfl) ?_
      refine g_u (s_store_imm rfl rfl rfl tS48 rfl rfl) ?_
      refine g_nil ?_
      refine normal_thn ?_
      refine aw_ret ?_
      exact ⟨⟨_, _, _, _, _, _, _, rfl, rfl, tA48, tS48, rfl, rfl, (rfl : toAV _ = some _).trans (congrArg some (by (first | (exfalso; omega) | (rw [show bareV v = .mk v.kind v.text 0 0 [] [] from by unfold bareV; rw [if_pos (by omega), if_neg (by omega), if_neg (by omega), if_neg (by omega), if_neg (by omega)]]; rfl) | (rw [show bareV v = .mk v.kind ⟨#[]⟩ v.num 0 [] [] from by unfold bareV; rw [if_neg (by omega), if_pos (by omega), if_neg (by omega), if_neg (by omega), if_neg (by omega)]]; rfl) | (rw [show bareV v = .mk v.kind ⟨#[]⟩ 0 v.bits [] [] from by unfold bareV; rw [if_neg (by omega), if_neg (by omega), if_pos (by omega), if_neg (by omega), if_neg (by omega)]]; rfl) | (rw [show bareV v = .mk v.kind ⟨#[]⟩ 0 0 v.list [] from by unfold bareV; rw [if_neg (by omega), if_neg (by omega), if_neg (by omega), if_pos (by omega), if_neg (by omega)]]; rfl) | (rw [show bareV v = .mk v.kind ⟨#[]⟩ 0 0 [] v.map from by unfold bareV; rw [if_neg (by omega), if_neg (by omega), if_neg (by omega), if_neg (by omega), if_pos (by omega)]]; rfl) | (rw [show bareV v = .mk v.kind ⟨#[]⟩ 0 0 [] [] from by unfold bareV; rw [if_neg (by omega), if_neg (by omega), if_neg (by omega), if_neg (by omega), if_neg (by omega)]]; rfl))))⟩, trivial⟩
    · skip
      have q := beq_eq_false_iff_ne.1 hb2
      refine aw_seq ?_
      refine aw_seq ?_
      refine aw_region ?_
      refine g_u (s_eqI rfl rfl rfl) ?_
      refine g_u (s_as_imm rfl rfl) ?_
      refine g_nil ?_
      refine normal_thn ?_
      refine aw_cond rfl (fun hb3 => ?_) (fun hb3 => ?_)
      · skip
        have q := beq_iff_eq.1 hb3
        refine aw_skip ?_
        refine normal_thn ?_
        refine aw_cond rfl (fun hb4 => ?_) (fun hb4 => ?_)
        · skip
          have q := beq_iff_eq.1 hb4
          refine aw_region ?_
          refine g_u (s_fieldAddr rfl rfl fa48_2 rfl) ?_
          refine g_u (s_load_imm rfl rfl rfl tA3 tS3 rfl rfl) ?_
          refine g_u (s_fieldAddr rfl rfl fa48_2 rfl) ?_
          refine g_u (s_store_imm rfl rfl rfl tS3 rfl rfl) ?_
          refine g_nil ?_
          refine normal_blk ?_
          refine normal_thn ?_
          refine aw_seq ?_
          refine aw_region ?_
          refine g_u (s_load_agg rfl rfl rfl tA48 tS48 rfl rfl) ?_
          refine g_u (s_store_imm rfl rfl rfl tS48 rfl rfl) ?_
          refine g_nil ?_
          refine normal_thn ?_
          refine aw_ret ?_
          exact ⟨⟨_, _, _, _, _, _, _, rfl, rfl, tA48, tS48, rfl, rfl, (rfl : toAV _ = some _).trans (congrArg some (by (first | (exfalso; omega) | (rw [show bareV v = .mk v.kind v.text 0 0 [] [] from by unfold bareV; rw [if_pos (by omega), if_neg (by omega), if_neg (by omega), if_neg (by omega), if_neg (by omega)]]; rfl) | (rw [show bareV v = .mk v.kind ⟨#[]⟩ v.num 0 [] [] from by unfold bareV; rw [if_neg (by omega), if_pos (by omega), if_neg (by omega), if_neg (by omega), if_neg (by omega)]]; rfl) | (rw [show bareV v = .mk v.kind ⟨#[]⟩ 0 v.bits [] [] from by unfold bareV; rw [if_neg (by omega), if_neg (by omega), if_pos (by omega), if_neg (by omega), if_neg (by omega)]]; rfl) | (rw [show bareV v = .mk v.kind ⟨#[]⟩ 0 0 v.list [] from by unfold bareV; rw [if_neg (by omega), if_neg (by omega), if_neg (by omega), if_pos (by omega), if_neg (by omega)]]; rfl) | (rw [show bareV v = .mk v.kind ⟨#[]⟩ 0 0 [] v.map from by unfold bareV; rw [if_neg (by omega), if_neg (by omega), if_neg (by omega), if_neg (by omega), if_pos (by omega)]]; rfl) | (rw [show bareV v = .mk v.kind ⟨#[]⟩ 0 0 [] [] from by unfold bareV; rw [if_neg (by omega), if_neg (by omega), if_neg (by omega), if_neg (by omega), if_neg (by omega)]]; rfl))))⟩, trivial⟩
        · skip
          have q := beq_eq_false_iff_ne.1 hb4
          refine aw_seq ?_
          refine aw_region ?_
          refine g_u (s_eqI rfl rfl rfl) ?_
          refine g_u (s_as_imm rfl rfl) ?_
          refine g_nil ?_
          refine normal_thn ?_
          refine aw_cond rfl (fun hb5 => ?_) (fun hb5 => ?_)
          · skip
            have q := beq_iff_eq.1 hb5
            refine aw_region ?_
            refine g_u (s_fieldAddr rfl rfl fa48_3 rfl) ?_
            refine g_u (s_load_imm rfl rfl rfl tA26 tS26 rfl rfl) ?_
            refine g_u (s_fieldAddr rfl rfl fa48_3 rfl) ?_
            refine g_u (s_store_imm rfl rfl rfl tS26 rfl rfl) ?_
            refine g_nil ?_
            refine normal_blk ?_
            refine normal_thn ?_
            refine aw_seq ?_
            refine aw_region ?_
            refine g_u (s_load_agg rfl rfl rfl tA48 tS48 rfl rfl) ?_
            refine g_u (s_store_imm rfl rfl rfl tS48 rfl rfl) ?_
            refine g_nil ?_
            refine normal_thn ?_
            refine aw_ret ?_
            exact ⟨⟨_, _, _, _, _, _, _, rfl, rfl, tA48, tS48, rfl, rfl, (rfl : toAV _ = some _).trans (congrArg some (by (first | (exfalso; omega) | (rw [show bareV v = .mk v.kind v.text 0 0 [] [] from by unfold bareV; rw [if_pos (by omega), if_neg (by omega), if_neg (by omega), if_neg (by omega), if_neg (by omega)]]; rfl) | (rw [show bareV v = .mk v.kind ⟨#[]⟩ v.num 0 [] [] from by unfold bareV; rw [if_neg (by omega), if_pos (by omega), if_neg (by omega), if_neg (by omega), if_neg (by omega)]]; rfl) | (rw [show bareV v = .mk v.kind ⟨#[]⟩ 0 v.bits [] [] from by unfold bareV; rw [if_neg (by omega), if_neg (by omega), if_pos (by omega), if_neg (by omega), if_neg (by omega)]]; rfl) | (rw [show bareV v = .mk v.kind ⟨#[]⟩ 0 0 v.list [] from by unfold bareV; rw [if_neg (by omega), if_neg (by omega), if_neg (by omega), if_pos (by omega), if_neg (by omega)]]; rfl) | (rw [show bareV v = .mk v.kind ⟨#[]⟩ 0 0 [] v.map from by unfold bareV; rw [if_neg (by omega), if_neg (by omega), if_neg (by omega), if_neg (by omega), if_pos (by omega)]]; rfl) | (rw [show bareV v = .mk v.kind ⟨#[]⟩ 0 0 [] [] from by unfold bareV; rw [if_neg (by omega), if_neg (by omega), if_neg (by omega), if_neg (by omega), if_neg (by omega)]]; rfl))))⟩, trivial⟩
          · skip
            have q := beq_eq_false_iff_ne.1 hb5
            refine aw_seq ?_
            refine aw_region ?_
            refine g_u (s_eqI rfl rfl rfl) ?_
            refine g_u (s_as_imm rfl rfl) ?_
            refine g_nil ?_
            refine normal_thn ?_
            refine aw_cond rfl (fun hb6 => ?_) (fun hb6 => ?_)
            · skip
              have q := beq_iff_eq.1 hb6
              refine aw_region ?_
              refine g_u (s_fieldAddr rfl rfl fa48_4 rfl) ?_
              refine g_u (s_load_imm rfl rfl rfl tA46 tS46 rfl rfl) ?_
              refine g_u (s_fieldAddr rfl rfl fa48_4 rfl) ?_
              refine g_u (s_store_imm rfl rfl rfl tS46 rfl rfl) ?_
              refine g_nil ?_
              refine normal_blk ?_
              refine normal_thn ?_
              refine aw_seq ?_
              refine aw_region ?_
              refine g_u (s_load_agg rfl rfl rfl tA48 tS48 rfl rfl) ?_
              refine g_u (s_store_imm rfl rfl rfl tS48 rfl rfl) ?_
              refine g_nil ?_
              refine normal_thn ?_
              refine aw_ret ?_
              exact ⟨⟨_, _, _, _, _, _, _, rfl, rfl, tA48, tS48, rfl, rfl, (rfl : toAV _ = some _).trans (congrArg some (by (first | (exfalso; omega) | (rw [show bareV v = .mk v.kind v.text 0 0 [] [] from by unfold bareV; rw [if_pos (by omega), if_neg (by omega), if_neg (by omega), if_neg (by omega), if_neg (by omega)]]; rfl) | (rw [show bareV v = .mk v.kind ⟨#[]⟩ v.num 0 [] [] from by unfold bareV; rw [if_neg (by omega), if_pos (by omega), if_neg (by omega), if_neg (by omega), if_neg (by omega)]]; rfl) | (rw [show bareV v = .mk v.kind ⟨#[]⟩ 0 v.bits [] [] from by unfold bareV; rw [if_neg (by omega), if_neg (by omega), if_pos (by omega), if_neg (by omega), if_neg (by omega)]]; rfl) | (rw [show bareV v = .mk v.kind ⟨#[]⟩ 0 0 v.list [] from by unfold bareV; rw [if_neg (by omega), if_neg (by omega), if_neg (by omega), if_pos (by omega), if_neg (by omega)]]; rfl) | (rw [show bareV v = .mk v.kind ⟨#[]⟩ 0 0 [] v.map from by unfold bareV; rw [if_neg (by omega), if_neg (by omega), if_neg (by omega), if_neg (by omega), if_pos (by omega)]]; rfl) | (rw [show bareV v = .mk v.kind ⟨#[]⟩ 0 0 [] [] from by unfold bareV; rw [if_neg (by omega), if_neg (by omega), if_neg (by omega), if_neg (by omega), if_neg (by omega)]]; rfl))))⟩, trivial⟩
            · skip
              have q := beq_eq_false_iff_ne.1 hb6
              refine aw_seq ?_
              refine aw_region ?_
              refine g_u (s_eqI rfl rfl rfl) ?_
              refine g_u (s_as_imm rfl rfl) ?_
              refine g_nil ?_
              refine normal_thn ?_
              refine aw_cond rfl (fun hb7 => ?_) (fun hb7 => ?_)
              · skip
                have q := beq_iff_eq.1 hb7
                refine aw_region ?_
                refine g_u (s_fieldAddr rfl rfl fa48_5 rfl) ?_
                refine g_u (s_load_imm rfl rfl rfl tA27 tS27 rfl rfl) ?_
                refine g_u (s_fieldAddr rfl rfl fa48_5 rfl) ?_
                refine g_u (s_store_imm rfl rfl rfl tS27 rfl rfl) ?_
                refine g_nil ?_
                refine normal_blk ?_
                refine normal_thn ?_
                refine aw_seq ?_
                refine aw_region ?_
                refine g_u (s_load_agg rfl rfl rfl tA48 tS48 rfl rfl) ?_
                refine g_u (s_store_imm rfl rfl rfl tS48 rfl rfl) ?_
                refine g_nil ?_
                refine normal_thn ?_
                refine aw_ret ?_
                exact ⟨⟨_, _, _, _, _, _, _, rfl, rfl, tA48, tS48, rfl, rfl, (rfl : toAV _ = some _).trans (congrArg some (by (first | (exfalso; omega) | (rw [show bareV v = .mk v.kind v.text 0 0 [] [] from by unfold bareV; rw [if_pos (by omega), if_neg (by omega), if_neg (by omega), if_neg (by omega), if_neg (by omega)]]; rfl) | (rw [show bareV v = .mk v.kind ⟨#[]⟩ v.num 0 [] [] from by unfold bareV; rw [if_neg (by omega), if_pos (by omega), if_neg (by omega), if_neg (by omega), if_neg (by omega)]]; rfl) | (rw [show bareV v = .mk v.kind ⟨#[]⟩ 0 v.bits [] [] from by unfold bareV; rw [if_neg (by omega), if_neg (by omega), if_pos (by omega), if_neg (by omega), if_neg (by omega)]]; rfl) | (rw [show bareV v = .mk v.kind ⟨#[]⟩ 0 0 v.list [] from by unfold bareV; rw [if_neg (by omega), if_neg (by omega), if_neg (by omega), if_pos (by omega), if_neg (by omega)]]; rfl) | (rw [show bareV v = .mk v.kind ⟨#[]⟩ 0 0 [] v.map from by unfold bareV; rw [if_neg (by omega), if_neg (by omega), if_neg (by omega), if_neg (by omega), if_pos (by omega)]]; rfl) | (rw [show bareV v = .mk v.kind ⟨#[]⟩ 0 0 [] [] from by unfold bareV; rw [if_neg (by omega), if_neg (by omega), if_neg (by omega), if_neg (by omega), if_neg (by omega)]]; rfl))))⟩, trivial⟩
              · skip
                have q := beq_eq_false_iff_ne.1 hb7
                refine aw_skip ?_
                refine normal_blk ?_
                refine normal_thn ?_
                refine aw_seq ?_
                refine aw_region ?_
                refine g_u (s_load_agg rfl rfl rfl tA48 tS48 rfl rfl) ?_
                refine g_u (s_store_imm rfl rfl rfl tS48 rfl rfl) ?_
                refine g_nil ?_
                refine normal_thn ?_
                refine aw_ret ?_
                exact ⟨⟨_, _, _, _, _, _, _, rfl, rfl, tA48, tS48, rfl, rfl, (rfl : toAV _ = some _).trans (congrArg some (by (first | (exfalso; omega) | (rw [show bareV v = .mk v.kind v.text 0 0 [] [] from by unfold bareV; rw [if_pos (by omega), if_neg (by omega), if_neg (by omega), if_neg (by omega), if_neg (by omega)]]; rfl) | (rw [show bareV v = .mk v.kind ⟨#[]⟩ v.num 0 [] [] from by unfold bareV; rw [if_neg (by omega), if_pos (by omega), if_neg (by omega), if_neg (by omega), if_neg (by omega)]]; rfl) | (rw [show bareV v = .mk v.kind ⟨#[]⟩ 0 v.bits [] [] from by unfold bareV; rw [if_neg (by omega), if_neg (by omega), if_pos (by omega), if_neg (by omega), if_neg (by omega)]]; rfl) | (rw [show bareV v = .mk v.kind ⟨#[]⟩ 0 0 v.list [] from by unfold bareV; rw [if_neg (by omega), if_neg (by omega), if_neg (by omega), if_pos (by omega), if_neg (by omega)]]; rfl) | (rw [show bareV v = .mk v.kind ⟨#[]⟩ 0 0 [] v.map from by unfold bareV; rw [if_neg (by omega), if_neg (by omega), if_neg (by omega), if_neg (by omega), if_pos (by omega)]]; rfl) | (rw [show bareV v = .mk v.kind ⟨#[]⟩ 0 0 [] [] from by unfold bareV; rw [if_neg (by omega), if_neg (by omega), if_neg (by omega), if_neg (by omega), if_neg (by omega)]]; rfl))))⟩, trivial⟩
      · skip
        have q := beq_eq_false_iff_ne.1 hb3
        refine aw_region ?_
        refine g_u (s_eqI rfl rfl rfl) ?_
        refine g_u (s_as_imm rfl rfl) ?_
        refine g_nil ?_
        refine normal_thn ?_
        refine aw_cond rfl (fun hb8 => ?_) (fun hb8 => ?_)
        · skip
          have q := beq_iff_eq.1 hb8
          refine aw_region ?_
          refine g_u (s_fieldAddr rfl rfl fa48_2 rfl) ?_
          refine g_u (s_load_imm rfl rfl rfl tA3 tS3 rfl rfl) ?_
          refine g_u (s_fieldAddr rfl rfl fa48_2 rfl) ?_
          refine g_u (s_store_imm rfl rfl rfl tS3 rfl rfl) ?_
          refine g_nil ?_
          refine normal_blk ?_
          refine normal_thn ?_
          refine aw_seq ?_
          refine aw_region ?_
          refine g_u (s_load_agg rfl rfl rfl tA48 tS48 rfl rfl) ?_
          refine g_u (s_store_imm rfl rfl rfl tS48 rfl rfl) ?_
          refine g_nil ?_
          refine normal_thn ?_
          refine aw_ret ?_
          exact ⟨⟨_, _, _, _, _, _, _, rfl, rfl, tA48, tS48, rfl, rfl, (rfl : toAV _ = some _).trans (congrArg some (by (first | (exfalso; omega) | (rw [show bareV v = .mk v.kind v.text 0 0 [] [] from by unfold bareV; rw [if_pos (by omega), if_neg (by omega), if_neg (by omega), if_neg (by omega), if_neg (by omega)]]; rfl) | (rw [show bareV v = .mk v.kind ⟨#[]⟩ v.num 0 [] [] from by unfold bareV; rw [if_neg (by omega), if_pos (by omega), if_neg (by omega), if_neg (by omega), if_neg (by omega)]]; rfl) | (rw [show bareV v = .mk v.kind ⟨#[]⟩ 0 v.bits [] [] from by unfold bareV; rw [if_neg (by omega), if_neg (by omega), if_pos (by omega), if_neg (by omega), if_neg (by omega)]]; rfl) | (rw [show bareV v = .mk v.kind ⟨#[]⟩ 0 0 v.list [] from by unfold bareV; rw [if_neg (by omega), if_neg (by omega), if_neg (by omega), if_pos (by omega), if_neg (by omega)]]; rfl) | (rw [show bareV v = .mk v.kind ⟨#[]⟩ 0 0 [] v.map from by unfold bareV; rw [if_neg (by omega), if_neg (by omega), if_neg (by omega), if_neg (by omega), if_pos (by omega)]]; rfl) | (rw [show bareV v = .mk v.kind ⟨#[]⟩ 0 0 [] [] from by unfold bareV; rw [if_neg (by omega), if_neg (by omega), if_neg (by omega), if_neg (by omega), if_neg (by omega)]]; rfl))))⟩, trivial⟩
        · skip
          have q := beq_eq_false_iff_ne.1 hb8
          refine aw_seq ?_
          refine aw_region ?_
          refine g_u (s_eqI rfl rfl rfl) ?_
          refine g_u (s_as_imm rfl rfl) ?_
          refine g_nil ?_
          refine normal_thn ?_
          refine aw_cond rfl (fun hb9 => ?_) (fun hb9 => ?_)
          · skip
            have q := beq_iff_eq.1 hb9
            refine aw_region ?_
            refine g_u (s_fieldAddr rfl rfl fa48_3 rfl) ?_
            refine g_u (s_load_imm rfl rfl rfl tA26 tS26 rfl rfl) ?_
            refine g_u (s_fieldAddr rfl rfl fa48_3 rfl) ?_
            refine g_u (s_store_imm rfl rfl rfl tS26 rfl rfl) ?_
            refine g_nil ?_
            refine normal_blk ?_
            refine normal_thn ?_
            refine aw_seq ?_
            refine aw_region ?_
            refine g_u (s_load_agg rfl rfl rfl tA48 tS48 rfl rfl) ?_
            refine g_u (s_store_imm rfl rfl rfl tS48 rfl rfl) ?_
            refine g_nil ?_
            refine normal_thn ?_
            refine aw_ret ?_
            exact ⟨⟨_, _, _, _, _, _, _, rfl, rfl, tA48, tS48, rfl, rfl, (rfl : toAV _ = some _).trans (congrArg some (by (first | (exfalso; omega) | (rw [show bareV v = .mk v.kind v.text 0 0 [] [] from by unfold bareV; rw [if_pos (by omega), if_neg (by omega), if_neg (by omega), if_neg (by omega), if_neg (by omega)]]; rfl) | (rw [show bareV v = .mk v.kind ⟨#[]⟩ v.num 0 [] [] from by unfold bareV; rw [if_neg (by omega), if_pos (by omega), if_neg (by omega), if_neg (by omega), if_neg (by omega)]]; rfl) | (rw [show bareV v = .mk v.kind ⟨#[]⟩ 0 v.bits [] [] from by unfold bareV; rw [if_neg (by omega), if_neg (by omega), if_pos (by omega), if_neg (by omega), if_neg (by omega)]]; rfl) | (rw [show bareV v = .mk v.kind ⟨#[]⟩ 0 0 v.list [] from by unfold bareV; rw [if_neg (by omega), if_neg (by omega), if_neg (by omega), if_pos (by omega), if_neg (by omega)]]; rfl) | (rw [show bareV v = .mk v.kind ⟨#[]⟩ 0 0 [] v.map from by unfold bareV; rw [if_neg (by omega), if_neg (by omega), if_neg (by omega), if_neg (by omega), if_pos (by omega)]]; rfl) | (rw [show bareV v = .mk v.kind ⟨#[]⟩ 0 0 [] [] from by unfold bareV; rw [if_neg (by omega), if_neg (by omega), if_neg (by omega), if_neg (by omega), if_neg (by omega)]]; rfl))))⟩, trivial⟩
          · skip
            have q := beq_eq_false_iff_ne.1 hb9
            refine aw_seq ?_
            refine aw_region ?_
            refine g_u (s_eqI rfl rfl rfl) ?_
            refine g_u (s_as_imm rfl rfl) ?_
            refine g_nil ?_
            refine normal_thn ?_
            refine aw_cond rfl (fun hb10 => ?_) (fun hb10 => ?_)
            · skip
              have q := beq_iff_eq.1 hb10
              refine aw_region ?_
              refine g_u (s_fieldAddr rfl rfl fa48_4 rfl) ?_
              refine g_u (s_load_imm rfl rfl rfl tA46 tS46 rfl rfl) ?_
              refine g_u (s_fieldAddr rfl rfl fa48_4 rfl) ?_
              refine g_u (s_store_imm rfl rfl rfl tS46 rfl rfl) ?_
              refine g_nil ?_
              refine normal_blk ?_
              refine normal_thn ?_
              refine aw_seq ?_
              refine aw_region ?_
              refine g_u (s_load_agg rfl rfl rfl tA48 tS48 rfl rfl) ?_
              refine g_u (s_store_imm rfl rfl rfl tS48 rfl rfl) ?_
              refine g_nil ?_
              refine normal_thn ?_
              refine aw_ret ?_
              exact ⟨⟨_, _, _, _, _, _, _, rfl, rfl, tA48, tS48, rfl, rfl, (rfl : toAV _ = some _).trans (congrArg some (by (first | (exfalso; omega) | (rw [show bareV v = .mk v.kind v.text 0 0 [] [] from by unfold bareV; rw [if_pos (by omega), if_neg (by omega), if_neg (by omega), if_neg (by omega), if_neg (by omega)]]; rfl) | (rw [show bareV v = .mk v.kind ⟨#[]⟩ v.num 0 [] [] from by unfold bareV; rw [if_neg (by omega), if_pos (by omega), if_neg (by omega), if_neg (by omega), if_neg (by omega)]]; rfl) | (rw [show bareV v = .mk v.kind ⟨#[]⟩ 0 v.bits [] [] from by unfold bareV; rw [if_neg (by omega), if_neg (by omega), if_pos (by omega), if_neg (by omega), if_neg (by omega)]]; rfl) | (rw [show bareV v = .mk v.kind ⟨#[]⟩ 0 0 v.list [] from by unfold bareV; rw [if_neg (by omega), if_neg (by omega), if_neg (by omega), if_pos (by omega), if_neg (by omega)]]; rfl) | (rw [show bareV v = .mk v.kind ⟨#[]⟩ 0 0 [] v.map from by unfold bareV; rw [if_neg (by omega), if_neg (by omega), if_neg (by omega), if_neg (by omega), if_pos (by omega)]]; rfl) | (rw [show bareV v = .mk v.kind ⟨#[]⟩ 0 0 [] [] from by unfold bareV; rw [if_neg (by omega), if_neg (by omega), if_neg (by omega), if_neg (by omega), if_neg (by omega)]]; rfl))))⟩, trivial⟩
            · skip
              have q := beq_eq_false_iff_ne.1 hb10
              refine aw_seq ?_
              refine aw_region ?_
              refine g_u (s_eqI rfl rfl rfl) ?_
              refine g_u (s_as_imm rfl rfl) ?_
              refine g_nil ?_
              refine normal_thn ?_
              refine aw_cond rfl (fun hb11 => ?_) (fun hb11 => ?_)
              · skip
                have q := beq_iff_eq.1 hb11
                refine aw_region ?_
                refine g_u (s_fieldAddr rfl rfl fa48_5 rfl) ?_
                refine g_u (s_load_imm rfl rfl rfl tA27 tS27 rfl rfl) ?_
                refine g_u (s_fieldAddr rfl rfl fa48_5 rfl) ?_
                refine g_u (s_store_imm rfl rfl rfl tS27 rfl rfl) ?_
                refine g_nil ?_
                refine normal_blk ?_
                refine normal_thn ?_
                refine aw_seq ?_
                refine aw_region ?_
                refine g_u (s_load_agg rfl rfl rfl tA48 tS48 rfl rfl) ?_
                refine g_u (s_store_imm rfl rfl rfl tS48 rfl rfl) ?_
                refine g_nil ?_
                refine normal_thn ?_
                refine aw_ret ?_
                exact ⟨⟨_, _, _, _, _, _, _, rfl, rfl, tA48, tS48, rfl, rfl, (rfl : toAV _ = some _).trans (congrArg some (by (first | (exfalso; omega) | (rw [show bareV v = .mk v.kind v.text 0 0 [] [] from by unfold bareV; rw [if_pos (by omega), if_neg (by omega), if_neg (by omega), if_neg (by omega), if_neg (by omega)]]; rfl) | (rw [show bareV v = .mk v.kind ⟨#[]⟩ v.num 0 [] [] from by unfold bareV; rw [if_neg (by omega), if_pos (by omega), if_neg (by omega), if_neg (by omega), if_neg (by omega)]]; rfl) | (rw [show bareV v = .mk v.kind ⟨#[]⟩ 0 v.bits [] [] from by unfold bareV; rw [if_neg (by omega), if_neg (by omega), if_pos (by omega), if_neg (by omega), if_neg (by omega)]]; rfl) | (rw [show bareV v = .mk v.kind ⟨#[]⟩ 0 0 v.list [] from by unfold bareV; rw [if_neg (by omega), if_neg (by omega), if_neg (by omega), if_pos (by omega), if_neg (by omega)]]; rfl) | (rw [show bareV v = .mk v.kind ⟨#[]⟩ 0 0 [] v.map from by unfold bareV; rw [if_neg (by omega), if_neg (by omega), if_neg (by omega), if_neg (by omega), if_pos (by omega)]]; rfl) | (rw [show bareV v = .mk v.kind ⟨#[]⟩ 0 0 [] [] from by unfold bareV; rw [if_neg (by omega), if_neg (by omega), if_neg (by omega), if_neg (by omega), if_neg (by omega)]]; rfl))))⟩, trivial⟩
              · skip
                have q := beq_eq_false_iff_ne.1 hb11
                refine aw_skip ?_
                refine normal_blk ?_
                refine normal_thn ?_
                refine aw_seq ?_
                refine aw_region ?_
                refine g_u (s_load_agg rfl rfl rfl tA48 tS48 rfl rfl) ?_
                refine g_u (s_store_imm rfl rfl rfl tS48 rfl rfl) ?_
                refine g_nil ?_
                refine normal_thn ?_
                refine aw_ret ?_
                exact ⟨⟨_, _, _, _, _, _, _, rfl, rfl, tA48, tS48, rfl, rfl, (rfl : toAV _ = some _).trans (congrArg some (by (first | (exfalso; omega) | (rw [show bareV v = .mk v.kind v.text 0 0 [] [] from by unfold bareV; rw [if_pos (by omega), if_neg (by omega), if_neg (by omega), if_neg (by omega), if_neg (by omega)]]; rfl) | (rw [show bareV v = .mk v.kind ⟨#[]⟩ v.num 0 [] [] from by unfold bareV; rw [if_neg (by omega), if_pos (by omega), if_neg (by omega), if_neg (by omega), if_neg (by omega)]]; rfl) | (rw [show bareV v = .mk v.kind ⟨#[]⟩ 0 v.bits [] [] from by unfold bareV; rw [if_neg (by omega), if_neg (by omega), if_pos (by omega), if_neg (by omega), if_neg (by omega)]]; rfl) | (rw [show bareV v = .mk v.kind ⟨#[]⟩ 0 0 v.list [] from by unfold bareV; rw [if_neg (by omega), if_neg (by omega), if_neg (by omega), if_pos (by omega), if_neg (by omega)]]; rfl) | (rw [show bareV v = .mk v.kind ⟨#[]⟩ 0 0 [] v.map from by unfold bareV; rw [if_neg (by omega), if_neg (by omega), if_neg (by omega), if_neg (by omega), if_pos (by omega)]]; rfl) | (rw [show bareV v = .mk v.kind ⟨#[]⟩ 0 0 [] [] from by unfold bareV; rw [if_neg (by omega), if_neg (by omega), if_neg (by omega), if_neg (by omega), if_neg (by omega)]]; rfl))))⟩, trivial⟩
  · skip
    have q := beq_eq_false_iff_ne.1 hb1
    refine aw_region ?_
    refine g_u (s_eqI rfl rfl rfl) ?_
    refine g_u (s_as_imm rfl rfl) ?_
    refine g_nil ?_
    refine normal_thn ?_
    refine aw_cond rfl (fun hb12 => ?_) (fun hb12 => ?_)
    · skip
      have q := beq_iff_eq.1 hb12
      refine aw_region ?_
      refine g_u (s_fieldAddr rfl rfl fa48_1 rfl) ?_
      refine g_u (s_load_imm rfl rfl rfl tA9 tS9 rfl rfl) ?_
      refine g_u (s_fieldAddr rfl rfl fa48_1 rfl) ?_
      refine g_u (s_store_imm rfl rfl rfl tS9 rfl rfl) ?_
      refine g_nil ?_
      refine normal_blk ?_
      refine normal_thn ?_
      refine aw_seq ?_
      refine aw_region ?_
      refine g_u (s_load_agg rfl rfl rfl tA48 tS48 rfl rfl) ?_
      refine g_u (s_store_imm rfl rfl rfl tS48 rfl rfl) ?_
      refine g_nil ?_
      refine normal_thn ?_
      refine aw_ret ?_
      exact ⟨⟨_, _, _, _, _, _, _, rfl, rfl, tA48, tS48, rfl, rfl, (rfl : toAV _ = some _).trans (congrArg some (by (first | (exfalso; omega) | (rw [show bareV v = .mk v.kind v.text 0 0 [] [] from by unfold bareV; rw [if_pos (by omega), if_neg (by omega), if_neg (by omega), if_neg (by omega), if_neg (by omega)]]; rfl) | (rw [show bareV v = .mk v.kind ⟨#[]⟩ v.num 0 [] [] from by unfold bareV; rw [if_neg (by omega), if_pos (by omega), if_neg (by omega), if_neg (by omega), if_neg (by omega)]]; rfl) | (rw [show bareV v = .mk v.kind ⟨#[]⟩ 0 v.bits [] [] from by unfold bareV; rw [if_neg (by omega), if_neg (by omega), if_pos (by omega), if_neg (by omega), if_neg (by omega)]]; rfl) | (rw [show bareV v = .mk v.kind ⟨#[]⟩ 0 0 v.list [] from by unfold bareV; rw [if_neg (by omega), if_neg (by omega), if_neg (by omega), if_pos (by omega), if_neg (by omega)]]; rfl) | (rw [show bareV v = .mk v.kind ⟨#[]⟩ 0 0 [] v.map from by unfold bareV; rw [if_neg (by omega), if_neg (by omega), if_neg (by omega), if_neg (by omega), if_pos (by omega)]]; rfl) | (rw [show bareV v = .mk v.kind ⟨#[]⟩ 0 0 [] [] from by unfold bareV; rw [if_neg (by omega), if_neg (by omega), if_neg (by omega), if_neg (by omega), if_neg (by omega)]]; rfl))))⟩, trivial⟩
    · skip
      have q := beq_eq_false_iff_ne.1 hb12
      refine aw_seq ?_
      refine aw_seq ?_
      refine aw_region ?_
      refine g_u (s_eqI rfl rfl rfl) ?_
      refine g_u (s_as_imm rfl rfl) ?_
      refine g_nil ?_
      refine normal_thn ?_
      refine aw_cond rfl (fun hb13 => ?_) (fun hb13 => ?_)
      · skip
        have q := beq_iff_eq.1 hb13
        refine aw_skip ?_
        refine normal_thn ?_
        refine aw_cond rfl (fun hb14 => ?_) (fun hb14 => ?_)
        · skip
          have q := beq_iff_eq.1 hb14
          refine aw_region ?_
          refine g_u (s_fieldAddr rfl rfl fa48_2 rfl) ?_
          refine g_u (s_load_imm rfl rfl rfl tA3 tS3 rfl rfl) ?_
          refine g_u (s_fieldAddr rfl rfl fa48_2 rfl) ?_
          refine g_u (s_store_imm rfl rfl rfl tS3 rfl rfl) ?_
          refine g_nil ?_
          refine normal_blk ?_
          refine normal_thn ?_
          refine aw_seq ?_
          refine aw_region ?_
          refine g_u (s_load_agg rfl rfl rfl tA48 tS48 rfl rfl) ?_
          refine g_u (s_store_imm rfl rfl rfl tS48 rfl rfl) ?_
          refine g_nil ?_
          refine normal_thn ?_
          refine aw_ret ?_
          exact ⟨⟨_, _, _, _, _, _, _, rfl, rfl, tA48, tS48, rfl, rfl, (rfl : toAV _ = some _).trans (congrArg some (by (first | (exfalso; omega) | (rw [show bareV v = .mk v.kind v.text 0 0 [] [] from by unfold bareV; rw [if_pos (by omega), if_neg (by omega), if_neg (by omega), if_neg (by omega), if_neg (by omega)]]; rfl) | (rw [show bareV v = .mk v.kind ⟨#[]⟩ v.num 0 [] [] from by unfold bareV; rw [if_neg (by omega), if_pos (by omega), if_neg (by omega), if_neg (by omega), if_neg (by omega)]]; rfl) | (rw [show bareV v = .mk v.kind ⟨#[]⟩ 0 v.bits [] [] from by unfold bareV; rw [if_neg (by omega), if_neg (by omega), if_pos (by omega), if_neg (by omega), if_neg (by omega)]]; rfl) | (rw [show bareV v = .mk v.kind ⟨#[]⟩ 0 0 v.list [] from by unfold bareV; rw [if_neg (by omega), if_neg (by omega), if_neg (by omega), if_pos (by omega), if_neg (by omega)]]; rfl) | (rw [show bareV v = .mk v.kind ⟨#[]⟩ 0 0 [] v.map from by unfold bareV; rw [if_neg (by omega), if_neg (by omega), if_neg (by omega), if_neg (by omega), if_pos (by omega)]]; rfl) | (rw [show bareV v = .mk v.kind ⟨#[]⟩ 0 0 [] [] from by unfold bareV; rw [if_neg (by omega), if_neg (by omega), if_neg (by omega), if_neg (by omega), if_neg (by omega)]]; rfl))))⟩, trivial⟩
        · skip
          have q := beq_eq_false_iff_ne.1 hb14
          refine aw_seq ?_
          refine aw_region ?_
          refine g_u (s_eqI rfl rfl rfl) ?_
          refine g_u (s_as_imm rfl rfl) ?_
          refine g_nil ?_
          refine normal_thn ?_
          refine aw_cond rfl (fun hb15 => ?_) (fun hb15 => ?_)
          · skip
            have q := beq_iff_eq.1 hb15
            refine aw_region ?_
            refine g_u (s_fieldAddr rfl rfl fa48_3 rfl) ?_
            refine g_u (s_load_imm rfl rfl rfl tA26 tS26 rfl rfl) ?_
            refine g_u (s_fieldAddr rfl rfl fa48_3 rfl) ?_
            refine g_u (s_store_imm rfl rfl rfl tS26 rfl rfl) ?_
            refine g_nil ?_
            refine normal_blk ?_
            refine normal_thn ?_
            refine aw_seq ?_
            refine aw_region ?_
            refine g_u (s_load_agg rfl rfl rfl tA48 tS48 rfl rfl) ?_
            refine g_u (s_store_imm rfl rfl rfl tS48 rfl rfl) ?_
            refine g_nil ?_
            refine normal_thn ?_
            refine aw_ret ?_
            exact ⟨⟨_, _, _, _, _, _, _, rfl, rfl, tA48, tS48, rfl, rfl, (rfl : toAV _ = some _).trans (congrArg some (by (first | (exfalso; omega) | (rw [show bareV v = .mk v.kind v.text 0 0 [] [] from by unfold bareV; rw [if_pos (by omega), if_neg (by omega), if_neg (by omega), if_neg (by omega), if_neg (by omega)]]; rfl) | (rw [show bareV v = .mk v.kind ⟨#[]⟩ v.num 0 [] [] from by unfold bareV; rw [if_neg (by omega), if_pos (by omega), if_neg (by omega), if_neg (by omega), if_neg (by omega)]]; rfl) | (rw [show bareV v = .mk v.kind ⟨#[]⟩ 0 v.bits [] [] from by unfold bareV; rw [if_neg (by omega), if_neg (by omega), if_pos (by omega), if_neg (by omega), if_neg (by omega)]]; rfl) | (rw [show bareV v = .mk v.kind ⟨#[]⟩ 0 0 v.list [] from by unfold bareV; rw [if_neg (by omega), if_neg (by omega), if_neg (by omega), if_pos (by omega), if_neg (by omega)]]; rfl) | (rw [show bareV v = .mk v.kind ⟨#[]⟩ 0 0 [] v.map from by unfold bareV; rw [if_neg (by omega), if_neg (by omega), if_neg (by omega), if_neg (by omega), if_pos (by omega)]]; rfl) | (rw [show bareV v = .mk v.kind ⟨#[]⟩ 0 0 [] [] from by unfold bareV; rw [if_neg (by omega), if_neg (by omega), if_neg (by omega), if_neg (by omega), if_neg (by omega)]]; rfl))))⟩, trivial⟩
          · skip
            have q := beq_eq_false_iff_ne.1 hb15
            refine aw_seq ?_
            refine aw_region ?_
            refine g_u (s_eqI rfl rfl rfl) ?_
            refine g_u (s_as_imm rfl rfl) ?_
            refine g_nil ?_
            refine normal_thn ?_
            refine aw_cond rfl (fun hb16 => ?_) (fun hb16 => ?_)
            · skip
              have q := beq_iff_eq.1 hb16
              refine aw_region ?_
              refine g_u (s_fieldAddr rfl rfl fa48_4 rfl) ?_
              refine g_u (s_load_imm rfl rfl rfl tA46 tS46 rfl rfl) ?_
              refine g_u (s_fieldAddr rfl rfl fa48_4 rfl) ?_
              refine g_u (s_store_imm rfl rfl rfl tS46 rfl rfl) ?_
              refine g_nil ?_
              refine normal_blk ?_
              refine normal_thn ?_
              refine aw_seq ?_
              refine aw_region ?_
              refine g_u (s_load_agg rfl rfl rfl tA48 tS48 rfl rfl) ?_
              refine g_u (s_store_imm rfl rfl rfl tS48 rfl rfl) ?_
              refine g_nil ?_
              refine normal_thn ?_
              refine aw_ret ?_
              exact ⟨⟨_, _, _, _, _, _, _, rfl, rfl, tA48, tS48, rfl, rfl, (rfl : toAV _ = some _).trans (congrArg some (by (first | (exfalso; omega) | (rw [show bareV v = .mk v.kind v.text 0 0 [] [] from by unfold bareV; rw [if_pos (by omega), if_neg (by omega), if_neg (by omega), if_neg (by omega), if_neg (by omega)]]; rfl) | (rw [show bareV v = .mk v.kind ⟨#[]⟩ v.num 0 [] [] from by unfold bareV; rw [if_neg (by omega), if_pos (by omega), if_neg (by omega), if_neg (by omega), if_neg (by omega)]]; rfl) | (rw [show bareV v = .mk v.kind ⟨#[]⟩ 0 v.bits [] [] from by unfold bareV; rw [if_neg (by omega), if_neg (by omega), if_pos (by omega), if_neg (by omega), if_neg (by omega)]]; rfl) | (rw [show bareV v = .mk v.kind ⟨#[]⟩ 0 0 v.list [] from by unfold bareV; rw [if_neg (by omega), if_neg (by omega), if_neg (by omega), if_pos (by omega), if_neg (by omega)]]; rfl) | (rw [show bareV v = .mk v.kind ⟨#[]⟩ 0 0 [] v.map from by unfold bareV; rw [if_neg (by omega), if_neg (by omega), if_neg (by omega), if_neg (by omega), if_pos (by omega)]]; rfl) | (rw [show bareV v = .mk v.kind ⟨#[]⟩ 0 0 [] [] from by unfold bareV; rw [if_neg (by omega), if_neg (by omega), if_neg (by omega), if_neg (by omega), if_neg (by omega)]]; rfl))))⟩, trivial⟩
            · skip
              have q := beq_eq_false_iff_ne.1 hb16
              refine aw_seq ?_
              refine aw_region ?_
              refine g_u (s_eqI rfl rfl rfl) ?_
              refine g_u (s_as_imm rfl rfl) ?_
              refine g_nil ?_
              refine normal_thn ?_
              refine aw_cond rfl (fun hb17 => ?_) (fun hb17 => ?_)
              · skip
                have q := beq_iff_eq.1 hb17
                refine aw_region ?_
                refine g_u (s_fieldAddr rfl rfl fa48_5 rfl) ?_
                refine g_u (s_load_imm rfl rfl rfl tA27 tS27 rfl rfl) ?_
                refine g_u (s_fieldAddr rfl rfl fa48_5 rfl) ?_
                refine g_u (s_store_imm rfl rfl rfl tS27 rfl rfl) ?_
                refine g_nil ?_
                refine normal_blk ?_
                refine normal_thn ?_
                refine aw_seq ?_
                refine aw_region ?_
                refine g_u (s_load_agg rfl rfl rfl tA48 tS48 rfl rfl) ?_
                refine g_u (s_store_imm rfl rfl rfl tS48 rfl rfl) ?_
                refine g_nil ?_
                refine normal_thn ?_
                refine aw_ret ?_
                exact ⟨⟨_, _, _, _, _, _, _, rfl, rfl, tA48, tS48, rfl, rfl, (rfl : toAV _ = some _).trans (congrArg some (by (first | (exfalso; omega) | (rw [show bareV v = .mk v.kind v.text 0 0 [] [] from by unfold bareV; rw [if_pos (by omega), if_neg (by omega), if_neg (by omega), if_neg (by omega), if_neg (by omega)]]; rfl) | (rw [show bareV v = .mk v.kind ⟨#[]⟩ v.num 0 [] [] from by unfold bareV; rw [if_neg (by omega), if_pos (by omega), if_neg (by omega), if_neg (by omega), if_neg (by omega)]]; rfl) | (rw [show bareV v = .mk v.kind ⟨#[]⟩ 0 v.bits [] [] from by unfold bareV; rw [if_neg (by omega), if_neg (by omega), if_pos (by omega), if_neg (by omega), if_neg (by omega)]]; rfl) | (rw [show bareV v = .mk v.kind ⟨#[]⟩ 0 0 v.list [] from by unfold bareV; rw [if_neg (by omega), if_neg (by omega), if_neg (by omega), if_pos (by omega), if_neg (by omega)]]; rfl) | (rw [show bareV v = .mk v.kind ⟨#[]⟩ 0 0 [] v.map from by unfold bareV; rw [if_neg (by omega), if_neg (by omega), if_neg (by omega), if_neg (by omega), if_pos (by omega)]]; rfl) | (rw [show bareV v = .mk v.kind ⟨#[]⟩ 0 0 [] [] from by unfold bareV; rw [if_neg (by omega), if_neg (by omega), if_neg (by omega), if_neg (by omega), if_neg (by omega)]]; rfl))))⟩, trivial⟩
              · skip
                have q := beq_eq_false_iff_ne.1 hb17
                refine aw_skip ?_
                refine normal_blk ?_
                refine normal_thn ?_
                refine aw_seq ?_
                refine aw_region ?_
                refine g_u (s_load_agg rfl rfl rfl tA48 tS48 rfl rfl) ?_
                refine g_u (s_store_imm rfl rfl rfl tS48 rfl rfl) ?_
                refine g_nil ?_
                refine normal_thn ?_
                refine aw_ret ?_
                exact ⟨⟨_, _, _, _, _, _, _, rfl, rfl, tA48, tS48, rfl, rfl, (rfl : toAV _ = some _).trans (congrArg some (by (first | (exfalso; omega) | (rw [show bareV v = .mk v.kind v.text 0 0 [] [] from by unfold bareV; rw [if_pos (by omega), if_neg (by omega), if_neg (by omega), if_neg (by omega), if_neg (by omega)]]; rfl) | (rw [show bareV v = .mk v.kind ⟨#[]⟩ v.num 0 [] [] from by unfold bareV; rw [if_neg (by omega), if_pos (by omega), if_neg (by omega), if_neg (by omega), if_neg (by omega)]]; rfl) | (rw [show bareV v = .mk v.kind ⟨#[]⟩ 0 v.bits [] [] from by unfold bareV; rw [if_neg (by omega), if_neg (by omega), if_pos (by omega), if_neg (by omega), if_neg (by omega)]]; rfl) | (rw [show bareV v = .mk v.kind ⟨#[]⟩ 0 0 v.list [] from by unfold bareV; rw [if_neg (by omega), if_neg (by omega), if_neg (by omega), if_pos (by omega), if_neg (by omega)]]; rfl) | (rw [show bareV v = .mk v.kind ⟨#[]⟩ 0 0 [] v.map from by unfold bareV; rw [if_neg (by omega), if_neg (by omega), if_neg (by omega), if_neg (by omega), if_pos (by omega)]]; rfl) | (rw [show bareV v = .mk v.kind ⟨#[]⟩ 0 0 [] [] from by unfold bareV; rw [if_neg (by omega), if_neg (by omega), if_neg (by omega), if_neg (by omega), if_neg (by omega)]]; rfl))))⟩, trivial⟩
      · skip
        have q := beq_eq_false_iff_ne.1 hb13
        refine aw_region ?_
        refine g_u (s_eqI rfl rfl rfl) ?_
        refine g_u (s_as_imm rfl rfl) ?_
        refine g_nil ?_
        refine normal_thn ?_
        refine aw_cond rfl (fun hb18 => ?_) (fun hb18 => ?_)
        · skip
          have q := beq_iff_eq.1 hb18
          refine aw_region ?_
          refine g_u (s_fieldAddr rfl rfl fa48_2 rfl) ?_
          refine g_u (s_load_imm rfl rfl rfl tA3 tS3 rfl rfl) ?_
          refine g_u (s_fieldAddr rfl rfl fa48_2 rfl) ?_
          refine g_u (s_store_imm rfl rfl rfl tS3 rfl rfl) ?_
          refine g_nil ?_
          refine normal_blk ?_
          refine normal_thn ?_
          refine aw_seq ?_
          refine aw_region ?_
          refine g_u (s_load_agg rfl rfl rfl tA48 tS48 rfl rfl) ?_
          refine g_u (s_store_imm rfl rfl rfl tS48 rfl rfl) ?_
          refine g_nil ?_
          refine normal_thn ?_
          refine aw_ret ?_
          exact ⟨⟨_, _, _, _, _, _, _, rfl, rfl, tA48, tS48, rfl, rfl, (rfl : toAV _ = some _).trans (congrArg some (by (first | (exfalso; omega) | (rw [show bareV v = .mk v.kind v.text 0 0 [] [] from by unfold bareV; rw [if_pos (by omega), if_neg (by omega), if_neg (by omega), if_neg (by omega), if_neg (by omega)]]; rfl) | (rw [show bareV v = .mk v.kind ⟨#[]⟩ v.num 0 [] [] from by unfold bareV; rw [if_neg (by omega), if_pos (by omega), if_neg (by omega), if_neg (by omega), if_neg (by omega)]]; rfl) | (rw [show bareV v = .mk v.kind ⟨#[]⟩ 0 v.bits [] [] from by unfold bareV; rw [if_neg (by omega), if_neg (by omega), if_pos (by omega), if_neg (by omega), if_neg (by omega)]]; rfl) | (rw [show bareV v = .mk v.kind ⟨#[]⟩ 0 0 v.list [] from by unfold bareV; rw [if_neg (by omega), if_neg (by omega), if_neg (by omega), if_pos (by omega), if_neg (by omega)]]; rfl) | (rw [show bareV v = .mk v.kind ⟨#[]⟩ 0 0 [] v.map from by unfold bareV; rw [if_neg (by omega), if_neg (by omega), if_neg (by omega), if_neg (by omega), if_pos (by omega)]]; rfl) | (rw [show bareV v = .mk v.kind ⟨#[]⟩ 0 0 [] [] from by unfold bareV; rw [if_neg (by omega), if_neg (by omega), if_neg (by omega), if_neg (by omega), if_neg (by omega)]]; rfl))))⟩, trivial⟩
        · skip
          have q := beq_eq_false_iff_ne.1 hb18
          refine aw_seq ?_
          refine aw_region ?_
          refine g_u (s_eqI rfl rfl rfl) ?_
          refine g_u (s_as_imm rfl rfl) ?_
          refine g_nil ?_
          refine normal_thn ?_
          refine aw_cond rfl (fun hb19 => ?_) (fun hb19 => ?_)
          · skip
            have q := beq_iff_eq.1 hb19
            refine aw_region ?_
            refine g_u (s_fieldAddr rfl rfl fa48_3 rfl) ?_
            refine g_u (s_load_imm rfl rfl rfl tA26 tS26 rfl rfl) ?_
            refine g_u (s_fieldAddr rfl rfl fa48_3 rfl) ?_
            refine g_u (s_store_imm rfl rfl rfl tS26 rfl rfl) ?_
            refine g_nil ?_
            refine normal_blk ?_
            refine normal_thn ?_
            refine aw_seq ?_
            refine aw_region ?_
            refine g_u (s_load_agg rfl rfl rfl tA48 tS48 rfl rfl) ?_
            refine g_u (s_store_imm rfl rfl rfl tS48 rfl rfl) ?_
            refine g_nil ?_
            refine normal_thn ?_
            refine aw_ret ?_
            exact ⟨⟨_, _, _, _, _, _, _, rfl, rfl, tA48, tS48, rfl, rfl, (rfl : toAV _ = some _).trans (congrArg some (by (first | (exfalso; omega) | (rw [show bareV v = .mk v.kind v.text 0 0 [] [] from by unfold bareV; rw [if_pos (by omega), if_neg (by omega), if_neg (by omega), if_neg (by omega), if_neg (by omega)]]; rfl) | (rw [show bareV v = .mk v.kind ⟨#[]⟩ v.num 0 [] [] from by unfold bareV; rw [if_neg (by omega), if_pos (by omega), if_neg (by omega), if_neg (by omega), if_neg (by omega)]]; rfl) | (rw [show bareV v = .mk v.kind ⟨#[]⟩ 0 v.bits [] [] from by unfold bareV; rw [if_neg (by omega), if_neg (by omega), if_pos (by omega), if_neg (by omega), if_neg (by omega)]]; rfl) | (rw [show bareV v = .mk v.kind ⟨#[]⟩ 0 0 v.list [] from by unfold bareV; rw [if_neg (by omega), if_neg (by omega), if_neg (by omega), if_pos (by omega), if_neg (by omega)]]; rfl) | (rw [show bareV v = .mk v.kind ⟨#[]⟩ 0 0 [] v.map from by unfold bareV; rw [if_neg (by omega), if_neg (by omega), if_neg (by omega), if_neg (by omega), if_pos (by omega)]]; rfl) | (rw [show bareV v = .mk v.kind ⟨#[]⟩ 0 0 [] [] from by unfold bareV; rw [if_neg (by omega), if_neg (by omega), if_neg (by omega), if_neg (by omega), if_neg (by omega)]]; rfl))))⟩, trivial⟩
          · skip
            have q := beq_eq_false_iff_ne.1 hb19
            refine aw_seq ?_
            refine aw_region ?_
            refine g_u (s_eqI rfl rfl rfl) ?_
            refine g_u (s_as_imm rfl rfl) ?_
            refine g_nil ?_
            refine normal_thn ?_
            refine aw_cond rfl (fun hb20 => ?_) (fun hb20 => ?_)
            · skip
              have q := beq_iff_eq.1 hb20
              refine aw_region ?_
              refine g_u (s_fieldAddr rfl rfl fa48_4 rfl) ?_
              refine g_u (s_load_imm rfl rfl rfl tA46 tS46 rfl rfl) ?_
              refine g_u (s_fieldAddr rfl rfl fa48_4 rfl) ?_
              refine g_u (s_store_imm rfl rfl rfl tS46 rfl rfl) ?_
              refine g_nil ?_
              refine normal_blk ?_
              refine normal_thn ?_
              refine aw_seq ?_
              refine aw_region ?_
              refine g_u (s_load_agg rfl rfl rfl tA48 tS48 rfl rfl) ?_
              refine g_u (s_store_imm rfl rfl rfl tS48 rfl rfl) ?_
              refine g_nil ?_
              refine normal_thn ?_
              refine aw_ret ?_
              exact ⟨⟨_, _, _, _, _, _, _, rfl, rfl, tA48, tS48, rfl, rfl, (rfl : toAV _ = some _).trans (congrArg some (by (first | (exfalso; omega) | (rw [show bareV v = .mk v.kind v.text 0 0 [] [] from by unfold bareV; rw [if_pos (by omega), if_neg (by omega), if_neg (by omega), if_neg (by omega), if_neg (by omega)]]; rfl) | (rw [show bareV v = .mk v.kind ⟨#[]⟩ v.num 0 [] [] from by unfold bareV; rw [if_neg (by omega), if_pos (by omega), if_neg (by omega), if_neg (by omega), if_neg (by omega)]]; rfl) | (rw [show bareV v = .mk v.kind ⟨#[]⟩ 0 v.bits [] [] from by unfold bareV; rw [if_neg (by omega), if_neg (by omega), if_pos (by omega), if_neg (by omega), if_neg (by omega)]]; rfl) | (rw [show bareV v = .mk v.kind ⟨#[]⟩ 0 0 v.list [] from by unfold bareV; rw [if_neg (by omega), if_neg (by omega), if_neg (by omega), if_pos (by omega), if_neg (by omega)]]; rfl) | (rw [show bareV v = .mk v.kind ⟨#[]⟩ 0 0 [] v.map from by unfold bareV; rw [if_neg (by omega), if_neg (by omega), if_neg (by omega), if_neg (by omega), if_pos (by omega)]]; rfl) | (rw [show bareV v = .mk v.kind ⟨#[]⟩ 0 0 [] [] from by unfold bareV; rw [if_neg (by omega), if_neg (by omega), if_neg (by omega), if_neg (by omega), if_neg (by omega)]]; rfl))))⟩, trivial⟩
            · skip
              have q := beq_eq_false_iff_ne.1 hb20
              refine aw_seq ?_
              refine aw_region ?_
              refine g_u (s_eqI rfl rfl rfl) ?_
              refine g_u (s_as_imm rfl rfl) ?_
              refine g_nil ?_
              refine normal_thn ?_
              refine aw_cond rfl (fun hb21 => ?_) (fun hb21 => ?_)
              · skip
                have q := beq_iff_eq.1 hb21
                refine aw_region ?_
                refine g_u (s_fieldAddr rfl rfl fa48_5 rfl) ?_
                refine g_u (s_load_imm rfl rfl rfl tA27 tS27 rfl rfl) ?_
                refine g_u (s_fieldAddr rfl rfl fa48_5 rfl) ?_
                refine g_u (s_store_imm rfl rfl rfl tS27 rfl rfl) ?_
                refine g_nil ?_
                refine normal_blk ?_
                refine normal_thn ?_
                refine aw_seq ?_
                refine aw_region ?_
                refine g_u (s_load_agg rfl rfl rfl tA48 tS48 rfl rfl) ?_
                refine g_u (s_store_imm rfl rfl rfl tS48 rfl rfl) ?_
                refine g_nil ?_
                refine normal_thn ?_
                refine aw_ret ?_
                exact ⟨⟨_, _, _, _, _, _, _, rfl, rfl, tA48, tS48, rfl, rfl, (rfl : toAV _ = some _).trans (congrArg some (by (first | (exfalso; omega) | (rw [show bareV v = .mk v.kind v.text 0 0 [] [] from by unfold bareV; rw [if_pos (by omega), if_neg (by omega), if_neg (by omega), if_neg (by omega), if_neg (by omega)]]; rfl) | (rw [show bareV v = .mk v.kind ⟨#[]⟩ v.num 0 [] [] from by unfold bareV; rw [if_neg (by omega), if_pos (by omega), if_neg (by omega), if_neg (by omega), if_neg (by omega)]]; rfl) | (rw [show bareV v = .mk v.kind ⟨#[]⟩ 0 v.bits [] [] from by unfold bareV; rw [if_neg (by omega), if_neg (by omega), if_pos (by omega), if_neg (by omega), if_neg (by omega)]]; rfl) | (rw [show bareV v = .mk v.kind ⟨#[]⟩ 0 0 v.list [] from by unfold bareV; rw [if_neg (by omega), if_neg (by omega), if_neg (by omega), if_pos (by omega), if_neg (by omega)]]; rfl) | (rw [show bareV v = .mk v.kind ⟨#[]⟩ 0 0 [] v.map from by unfold bareV; rw [if_neg (by omega), if_neg (by omega), if_neg (by omega), if_neg (by omega), if_pos (by omega)]]; rfl) | (rw [show bareV v = .mk v.kind ⟨#[]⟩ 0 0 [] [] from by unfold bareV; rw [if_neg (by omega), if_neg (by omega), if_neg (by omega), if_neg (by omega), if_neg (by omega)]]; rfl))))⟩, trivial⟩
              · skip
                have q := beq_eq_false_iff_ne.1 hb21
                refine aw_skip ?_
                refine normal_blk ?_
                refine normal_thn ?_
                refine aw_seq ?_
                refine aw_region ?_
                refine g_u (s_load_agg rfl rfl rfl tA48 tS48 rfl rfl) ?_
                refine g_u (s_store_imm rfl rfl rfl tS48 rfl rfl) ?_
                refine g_nil ?_
                refine normal_thn ?_
                refine aw_ret ?_
                exact ⟨⟨_, _, _, _, _, _, _, rfl, rfl, tA48, tS48, rfl, rfl, (rfl : toAV _ = some _).trans (congrArg some (by (first | (exfalso; omega) | (rw [show bareV v = .mk v.kind v.text 0 0 [] [] from by unfold bareV; rw [if_pos (by omega), if_neg (by omega), if_neg (by omega), if_neg (by omega), if_neg (by omega)]]; rfl) | (rw [show bareV v = .mk v.kind ⟨#[]⟩ v.num 0 [] [] from by unfold bareV; rw [if_neg (by omega), if_pos (by omega), if_neg (by omega), if_neg (by omega), if_neg (by omega)]]; rfl) | (rw [show bareV v = .mk v.kind ⟨#[]⟩ 0 v.bits [] [] from by unfold bareV; rw [if_neg (by omega), if_neg (by omega), if_pos (by omega), if_neg (by omega), if_neg (by omega)]]; rfl) | (rw [show bareV v = .mk v.kind ⟨#[]⟩ 0 0 v.list [] from by unfold bareV; rw [if_neg (by omega), if_neg (by omega), if_neg (by omega), if_pos (by omega), if_neg (by omega)]]; rfl) | (rw [show bareV v = .mk v.kind ⟨#[]⟩ 0 0 [] v.map from by unfold bareV; rw [if_neg (by omega), if_neg (by omega), if_neg (by omega), if_neg (by omega), if_pos (by omega)]]; rfl) | (rw [show bareV v = .mk v.kind ⟨#[]⟩ 0 0 [] [] from by unfold bareV; rw [if_neg (by omega), if_neg (by omega), if_neg (by omega), if_neg (by omega), if_neg (by omega)]]; rfl))))⟩, trivial⟩

set_option maxHeartbeats 400000 in
theorem more_c (v : GV) : PCall Tryz.prog Γ0 76 [v.av] [bv (!emptyV v)] := by
  refine pcall_of Tryz.func76 rfl Tryz.ntmps76 (by kernel_rfl) rfl fun w0 I0 G0 => ?_
  refine aw_seq ?_
  refine aw_region ?_
  refine g_uG (s_box_imm 1001 rfl rfl rfl rfl) rfl ?_
  refine g_u (s_as_imm rfl rfl) ?_
  refine g_nil ?_
  refine normal_thn ?_
  refine aw_seq ?_
  refine aw_region ?_
  refine g_u (s_load_imm rfl rfl rfl tA48 tS48 rfl rfl) ?_
  refine g_u (s_call1 (bare_c _) rfl rfl) ?_
  refine g_uG (s_alloc' 1003 rfl rfl rfl tZ48) rfl ?_
  refine g_u (s_store_imm rfl rfl rfl tS48 rfl rfl) ?_
  refine g_nil ?_
  refine normal_thn ?_
  refine aw_seq ?_
  refine aw_region ?_
  refine g_u (s_fieldAddr rfl rfl fa48_1 rfl) ?_
  refine g_u (s_load_imm rfl rfl rfl tA9 tS9 rfl rfl) ?_
  refine g_u (s_fieldAddr rfl rfl fa48_1 rfl) ?_
  refine g_u (s_load_imm rfl rfl rfl tA9 tS9 rfl rfl) ?_
  refine g_u (s_neS rfl rfl rfl) ?_
  refine g_u (s_mv_imm rfl rfl) ?_
  refine g_case (t := 11) rfl ?_
  rintro (hb1 | hb1)
  · rw [hb1]
    refine g_skip rfl rfl rfl ?_
    refine g_skip rfl rfl rfl ?_
    refine g_skip rfl rfl rfl ?_
    refine g_skip rfl rfl rfl ?_
    refine g_skip rfl rfl rfl ?_
    refine g_u (s_pick_t rfl rfl rfl) ?_
    refine g_u (s_mv_imm rfl rfl) ?_
    refine g_skip rfl rfl rfl ?_
    refine g_skip rfl rfl rfl ?_
    refine g_skip rfl rfl rfl ?_
    refine g_skip rfl rfl rfl ?_
    refine g_skip rfl rfl rfl ?_
    refine g_u (s_pick_t rfl rfl rfl) ?_
    refine g_u (s_mv_imm rfl rfl) ?_
    refine g_skip rfl rfl rfl ?_
    refine g_skip rfl rfl rfl ?_
    refine g_skip rfl rfl rfl ?_
    refine g_skip rfl rfl rfl ?_
    refine g_skip rfl rfl rfl ?_
    refine g_skip rfl rfl rfl ?_
    refine g_skip rfl rfl rfl ?_
    refine g_u (s_pick_t rfl rfl rfl) ?_
    refine g_u (s_mv_imm rfl rfl) ?_
    refine g_skip rfl rfl rfl ?_
    refine g_skip rfl rfl rfl ?_
    refine g_skip rfl rfl rfl ?_
    refine g_skip rfl rfl rfl ?_
    refine g_skip rfl rfl rfl ?_
    refine g_skip rfl rfl rfl ?_
    refine g_skip rfl rfl rfl ?_
    refine g_u (s_pick_t rfl rfl rfl) ?_
    refine g_u (s_as_imm rfl rfl) ?_
    refine g_nil ?_
    refine normal_thn ?_
    refine aw_ret ?_
    exact ⟨⟨(rfl : toAV (Al.look _ _) = some _).trans (congrArg some (by (exact congrArg bv (by (try simp only [List.length_map] at *); rw [← more_eq]; unfold moreM; simp [*])))), rfl⟩, trivial⟩
  · rw [hb1]
    refine g_run rfl rfl (s_fieldAddr rfl rfl fa48_2 rfl) ?_
    refine g_run rfl rfl (s_load_imm rfl rfl rfl tA3 tS3 rfl rfl) ?_
    refine g_run rfl rfl (s_fieldAddr rfl rfl fa48_2 rfl) ?_
    refine g_run rfl rfl (s_load_imm rfl rfl rfl tA3 tS3 rfl rfl) ?_
    refine g_run rfl rfl (s_neI rfl rfl rfl) ?_
    refine g_u (s_pick_f rfl rfl rfl) ?_
    refine g_u (s_mv_imm rfl rfl) ?_
    refine g_case (t := 18) rfl ?_
    rintro (hb2 | hb2)
    · rw [hb2]
      refine g_skip rfl rfl rfl ?_
      refine g_skip rfl rfl rfl ?_
      refine g_skip rfl rfl rfl ?_
      refine g_skip rfl rfl rfl ?_
      refine g_skip rfl rfl rfl ?_
      refine g_u (s_pick_t rfl rfl rfl) ?_
      refine g_u (s_mv_imm rfl rfl) ?_
      refine g_skip rfl rfl rfl ?_
      refine g_skip rfl rfl rfl ?_
      refine g_skip rfl rfl rfl ?_
      refine g_skip rfl rfl rfl ?_
      refine g_skip rfl rfl rfl ?_
      refine g_skip rfl rfl rfl ?_
      refine g_skip rfl rfl rfl ?_
      refine g_u (s_pick_t rfl rfl rfl) ?_
      refine g_u (s_mv_imm rfl rfl) ?_
      refine g_skip rfl rfl rfl ?_
      refine g_skip rfl rfl rfl ?_
      refine g_skip rfl rfl rfl ?_
      refine g_skip rfl rfl rfl ?_
      refine g_skip rfl rfl rfl ?_
      refine g_skip rfl rfl rfl ?_
      refine g_skip rfl rfl rfl ?_
      refine g_u (s_pick_t rfl rfl rfl) ?_
      refine g_u (s_as_imm rfl rfl) ?_
      refine g_nil ?_
      refine normal_thn ?_
      refine aw_ret ?_
      exact ⟨⟨(rfl : toAV (Al.look _ _) = some _).trans (congrArg some (by (exact congrArg bv (by (try simp only [List.length_map] at *); rw [← more_eq]; unfold moreM; simp [*])))), rfl⟩, trivial⟩
    · rw [hb2]
      refine g_run rfl rfl (s_fieldAddr rfl rfl fa48_3 rfl) ?_
      refine g_run rfl rfl (s_load_imm rfl rfl rfl tA26 tS26 rfl rfl) ?_
      refine g_run rfl rfl (s_fieldAddr rfl rfl fa48_3 rfl) ?_
      refine g_run rfl rfl (s_load_imm rfl rfl rfl tA26 tS26 rfl rfl) ?_
      refine g_run rfl rfl (s_neI rfl rfl rfl) ?_
      refine g_u (s_pick_f rfl rfl rfl) ?_
      refine g_u (s_mv_imm rfl rfl) ?_
      refine g_case (t := 25) rfl ?_
      rintro (hb3 | hb3)
      · rw [hb3]
        refine g_skip rfl rfl rfl ?_
        refine g_skip rfl rfl rfl ?_
        refine g_skip rfl rfl rfl ?_
        refine g_skip rfl rfl rfl ?_
        refine g_skip rfl rfl rfl ?_
        refine g_skip rfl rfl rfl ?_
        refine g_skip rfl rfl rfl ?_
        refine g_u (s_pick_t rfl rfl rfl) ?_
        refine g_u (s_mv_imm rfl rfl) ?_
        refine g_skip rfl rfl rfl ?_
        refine g_skip rfl rfl rfl ?_
        refine g_skip rfl rfl rfl ?_
        refine g_skip rfl rfl rfl ?_
        refine g_skip rfl rfl rfl ?_
        refine g_skip rfl rfl rfl ?_
        refine g_skip rfl rfl rfl ?_
        refine g_u (s_pick_t rfl rfl rfl) ?_
        refine g_u (s_as_imm rfl rfl) ?_
        refine g_nil ?_
        refine normal_thn ?_
        refine aw_ret ?_
        exact ⟨⟨(rfl : toAV (Al.look _ _) = some _).trans (congrArg some (by (exact congrArg bv (by (try simp only [List.length_map] at *); rw [← more_eq]; unfold moreM; simp [*])))), rfl⟩, trivial⟩
      · rw [hb3]
        refine g_run rfl rfl (s_fieldAddr rfl rfl fa48_4 rfl) ?_
        refine g_run rfl rfl (s_load_imm rfl rfl rfl tA46 tS46 rfl rfl) ?_
        refine g_run rfl rfl (s_lenL rfl rfl Tryz.underlying46) ?_
        refine g_run rfl rfl (s_fieldAddr rfl rfl fa48_4 rfl) ?_
        refine g_run rfl rfl (s_load_imm rfl rfl rfl tA46 tS46 rfl rfl) ?_
        refine g_run rfl rfl (s_lenL rfl rfl Tryz.underlying46) ?_
        refine g_run rfl rfl (s_neI rfl rfl rfl) ?_
        refine g_u (s_pick_f rfl rfl rfl) ?_
        refine g_u (s_mv_imm rfl rfl) ?_
        refine g_case (t := 34) rfl ?_
        rintro (hb4 | hb4)
        · rw [hb4]
          refine g_skip rfl rfl rfl ?_
          refine g_skip rfl rfl rfl ?_
          refine g_skip rfl rfl rfl ?_
          refine g_skip rfl rfl rfl ?_
          refine g_skip rfl rfl rfl ?_
          refine g_skip rfl rfl rfl ?_
          refine g_skip rfl rfl rfl ?_
          refine g_u (s_pick_t rfl rfl rfl) ?_
          refine g_u (s_as_imm rfl rfl) ?_
          refine g_nil ?_
          refine normal_thn ?_
          refine aw_ret ?_
          exact ⟨⟨(rfl : toAV (Al.look _ _) = some _).trans (congrArg some (by (exact congrArg bv (by (try simp only [List.length_map] at *); rw [← more_eq]; unfold moreM; simp [*])))), rfl⟩, trivial⟩
        · rw [hb4]
          refine g_run rfl rfl (s_fieldAddr rfl rfl fa48_5 rfl) ?_
          refine g_run rfl rfl (s_load_imm rfl rfl rfl tA27 tS27 rfl rfl) ?_
          refine g_run rfl rfl (s_lenL rfl rfl Tryz.underlying27) ?_
          refine g_run rfl rfl (s_fieldAddr rfl rfl fa48_5 rfl) ?_
          refine g_run rfl rfl (s_load_imm rfl rfl rfl tA27 tS27 rfl rfl) ?_
          refine g_run rfl rfl (s_lenL rfl rfl Tryz.underlying27) ?_
          refine g_run rfl rfl (s_neI rfl rfl rfl) ?_
          refine g_u (s_pick_f rfl rfl rfl) ?_
          refine g_u (s_as_imm rfl rfl) ?_
          refine g_nil ?_
          refine normal_thn ?_
          refine aw_ret ?_
          exact ⟨⟨(rfl : toAV (Al.look _ _) = some _).trans (congrArg some (by (exact congrArg bv (by (try simp only [List.length_map] at *); rw [← more_eq]; unfold moreM; simp [*])))), rfl⟩, trivial⟩

set_option maxHeartbeats 400000 in
theorem holds_c (v : GV) : PCall Tryz.prog Γ0 77 [v.av] [bv (v.kind == 6 || v.kind == 7)] := by
  refine pcall_of Tryz.func77 rfl Tryz.ntmps77 (by kernel_rfl) rfl fun w0 I0 G0 => ?_
  refine aw_seq ?_
  refine aw_region ?_
  refine g_uG (s_box_imm 1001 rfl rfl rfl rfl) rfl ?_
  refine g_u (s_as_imm rfl rfl) ?_
  refine g_nil ?_
  refine normal_thn ?_
  refine aw_seq ?_
  refine aw_region ?_
  refine g_u (s_fieldAddr rfl rfl fa48_0 rfl) ?_
  refine g_u (s_load_imm rfl rfl rfl tA5 tS5 rfl rfl) ?_
  refine g_u (s_eqI rfl rfl rfl) ?_
  refine g_u (s_mv_imm rfl rfl) ?_
  refine g_case (t := 6) rfl ?_
  rintro (hb1 | hb1)
  · rw [hb1]
    refine g_skip rfl rfl rfl ?_
    refine g_skip rfl rfl rfl ?_
    refine g_skip rfl rfl rfl ?_
    refine g_u (s_pick_t rfl rfl rfl) ?_
    refine g_u (s_as_imm rfl rfl) ?_
    refine g_nil ?_
    refine normal_thn ?_
    refine aw_ret ?_
    exact ⟨⟨(rfl : toAV (Al.look _ _) = some _).trans (congrArg some (by (exact congrArg bv (by simp [*])))), rfl⟩, trivial⟩
  · rw [hb1]
    refine g_run rfl rfl (s_fieldAddr rfl rfl fa48_0 rfl) ?_
    refine g_run rfl rfl (s_load_imm rfl rfl rfl tA5 tS5 rfl rfl) ?_
    refine g_run rfl rfl (s_eqI rfl rfl rfl) ?_
    refine g_u (s_pick_f rfl rfl rfl) ?_
    refine g_u (s_as_imm rfl rfl) ?_
    refine g_nil ?_
    refine normal_thn ?_
    refine aw_ret ?_
    exact ⟨⟨(rfl : toAV (Al.look _ _) = some _).trans (congrArg some (by (exact congrArg bv (by simp [*])))), rfl⟩, trivial⟩

set_option maxHeartbeats 2000000 in
theorem entC_st (l : List GA) (d : Int) (hd : 0 ≤ d ∧ d + wtAs l ≤ 1000000000) (ih : ∀ a ∈ l, ∀ d : Int, 0 ≤ d ∧ d + a.val.wt ≤ 1000000000 → PCall Tryz.prog Γ0 62 [a.val.av, iv d] [iv (checkV d a.val)]) : PCall Tryz.prog Γ0 45 [.sl 7 (l.map avA), iv d] [iv (entC d none l)] := by
  refine pcall_of Tryz.func45 rfl Tryz.ntmps45 (by kernel_rfl) rfl fun w0 I0 G0 => ?_
  refine aw_seq ?_
  refine aw_region ?_
  refine g_u (s_as_imm rfl rfl) ?_
  refine g_nil ?_
  refine normal_thn ?_
  refine aw_seq ?_
  refine aw_seq ?_
  refine aw_region ?_
  refine g_u (s_mv_imm rfl rfl) ?_
  refine g_u (s_lenL rfl rfl Tryz.underlying27) ?_
  refine g_u (s_mv_imm rfl rfl) ?_
  refine g_nil ?_
  refine normal_thn ?_
  refine aw_block ?_
  refine aw_loop' (fun i : Nat => [(0, .imm (.sl 7 (l.map avA))), (1, .imm (iv d)), (8, .imm (.sl 7 (l.map avA))), (9, .imm (iv (l.length : Int))), (10, .imm (iv (i : Int)))]) (fun i => i ≤ l.length ∧ entC d none l = entC d (prevOf l i) (l.drop i)) (fun i => l.length - i) (0) ?_ ⟨rfl, rfl, rfl, look_int rfl (by rw [List.length_map]), rfl, trivial⟩ ?_
  · exact ⟨Nat.zero_le _, rfl⟩
  · rintro i ⟨h1, h2⟩; (try dsimp only at h1 h2)
    refine aw_seq ?_
    refine aw_region ?_
    refine g_u (s_ltI rfl rfl rfl) ?_
    refine g_nil ?_
    refine normal_thn ?_
    refine aw_seq ?_
    refine aw_cond rfl (fun hb1 => ?_) (fun hb1 => ?_)
    · skip
      have hi : i < l.length := by have := of_decide_eq_true hb1; (try simp only [List.length_map] at this); omega
      have hw1 := wtAs_mem (nthA_mem hi)
      have hw2 := (nthA l i).wt_eq
      have E := entC_drop d hi
      have ll := len_wtAs l
      refine aw_skip ?_
      refine normal_thn ?_
      refine aw_seq ?_
      refine aw_block ?_
      refine aw_seq ?_
      refine aw_region ?_
      refine g_u (s_mv_imm rfl rfl) ?_
      refine g_u (s_indexAddr rfl rfl rfl Tryz.underlying27 tS50 (by omega) (ixA hi)) ?_
      refine g_u (s_load_cp rfl rfl tA50 tS50 rfl rfl) ?_
      refine g_uG (s_alloc' 1006 rfl rfl rfl tZ50) rfl ?_
      refine g_u (s_as_imm rfl rfl) ?_
      refine g_u (s_store_imm rfl rfl rfl tS50 rfl rfl) ?_
      refine g_nil ?_
      refine normal_thn ?_
      refine aw_seq ?_
      refine aw_region ?_
      refine g_u (s_fieldAddr rfl rfl fa50_0 rfl) ?_
      refine g_u (s_load_imm rfl rfl rfl tA9 tS9 rfl rfl) ?_
      refine g_u (s_call1 (keyP_c _ (by omega)) rfl rfl) ?_
      refine g_u (s_as_imm rfl rfl) ?_
      refine g_nil ?_
      refine normal_thn ?_
      refine aw_seq ?_
      refine aw_seq ?_
      refine aw_draw mixed ?_
      refine g_u (s_mv_imm rfl rfl) ?_
      refine g_u (s_eqI rfl rfl rfl) ?_
      refine g_u (s_mv_imm rfl rfl) ?_
      refine g_case (t := 20) rfl ?_
      rintro (hb2 | hb2)
      · rw [hb2]
        have q := beq_iff_eq.1 hb2
        refine g_run rfl rfl (s_mv_imm rfl rfl) ?_
        refine g_run rfl rfl (s_gtI rfl rfl rfl) ?_
        refine g_u (s_pick_t rfl rfl rfl) ?_
        refine g_u (s_mv_imm rfl rfl) ?_
        refine g_case (t := 24) rfl ?_
        rintro (hb3 | hb3)
        · rw [hb3]
          have hi0 : i ≠ 0 := by have := of_decide_eq_true hb3; omega
          have hm : i - 1 < l.length := by omega
          have em : IntKind.i64.wrap ((i : Int) - 1) = ((i - 1 : Nat) : Int) := by rw [wrap64 (by omega) (by omega)]; omega
          refine g_run rfl rfl (s_mv_imm rfl rfl) ?_
          refine g_run rfl rfl (s_mv_imm rfl rfl) ?_
          refine g_run rfl rfl (s_sub rfl rfl rfl) ?_
          refine g_run rfl rfl (s_indexAddr rfl rfl rfl Tryz.underlying27 tS50 (by rw [em]; omega) ((congrArg (fun z : Int => (l.map avA)[z.toNat]?) em).trans (ixA hm))) ?_
          refine g_run rfl rfl (s_fieldAddr_cp rfl rfl fa50_0 rfl rfl) ?_
          refine g_run rfl rfl (s_load_cp rfl rfl tA9 tS9 rfl rfl) ?_
          refine g_run rfl rfl (s_fieldAddr rfl rfl fa50_0 rfl) ?_
          refine g_run rfl rfl (s_load_imm rfl rfl rfl tA9 tS9 rfl rfl) ?_
          refine g_run rfl rfl (s_geS rfl rfl rfl) ?_
          refine g_u (s_pick_t rfl rfl rfl) ?_
          refine g_nil ⟨by kernel_rfl, ?_⟩
          refine normal_thn ?_
          refine aw_cond rfl (fun hb4 => ?_) (fun hb4 => ?_)
          · skip
            have pb : prevBad (prevOf l i) (nthA l i).key = true := by rw [prevBad_pos hi0, ← less_eq]; exact hb4
            refine aw_region ?_
            refine g_u (s_as_imm rfl rfl) ?_
            refine g_nil ?_
            refine normal_thn ?_
            refine aw_seq ?_
            refine aw_seq ?_
            refine aw_region ?_
            refine g_u (s_mv_imm rfl rfl) ?_
            refine g_u (s_eqI rfl rfl rfl) ?_
            refine g_nil ?_
            refine normal_thn ?_
            refine aw_cond rfl (fun hb5 => ?_) (fun hb5 => ?_)
            · skip
              have q := beq_iff_eq.1 hb5
              refine aw_region ?_
              refine g_u (s_fieldAddr rfl rfl fa50_1 rfl) ?_
              refine g_u (s_load_imm rfl rfl rfl tA48 tS48 rfl rfl) ?_
              refine g_u (s_mv_imm rfl rfl) ?_
              refine g_u (s_call1 (ih _ (nthA_mem hi) d ⟨by omega, by omega⟩) rfl rfl) ?_
              refine g_u (s_as_imm rfl rfl) ?_
              refine g_nil ?_
              refine normal_thn ?_
              refine aw_seq ?_
              refine aw_region ?_
              refine g_u (s_mv_imm rfl rfl) ?_
              refine g_u (s_neI rfl rfl rfl) ?_
              refine g_nil ?_
              refine normal_thn ?_
              refine aw_cond rfl (fun hb6 => ?_) (fun hb6 => ?_)
              · skip
                have q := bne_iff_ne.1 hb6
                refine aw_seq ?_
                refine aw_region ?_
                refine g_u (s_mv_imm rfl rfl) ?_
                refine g_u (s_as_imm rfl rfl) ?_
                refine g_nil ?_
                refine normal_thn ?_
                refine aw_ret ?_
                refine ret_blk ?_
                refine ret_thn ?_
                refine ret_thn ?_
                refine ret_blk ?_
                refine ret_thn ?_
                exact ⟨⟨(rfl : toAV (Al.look _ _) = some _).trans (congrArg some (by (exact congrArg iv (by first | (exfalso; omega) | (rw [h2, hin, List.drop_length]; rfl) | (rw [h2, E, orC_pos _ _ (by omega)]; done) | (rw [h2, E, orC_zero _ _ (by omega), if_pos pb]; done) | (rw [h2, E, orC_zero _ _ (by omega), if_neg (by rw [pb]; decide), orC_pos _ _ (by omega)]; done))))), rfl⟩, trivial⟩
              · skip
                have q := bne_eq_false_iff_eq.1 hb6
                refine aw_skip ?_
                refine normal_blk ?_
                refine normal_thn ?_
                refine aw_region ?_
                refine g_u (s_add rfl rfl rfl) ?_
                refine g_u (s_mv_imm rfl rfl) ?_
                refine g_nil ?_
                refine normal_thn ?_
                first | (exfalso; omega) | refine ⟨i + 1, ⟨hi, by (try dsimp only); rw [h2, E, orC_zero _ _ (by omega), if_neg (by rw [pb]; decide), orC_zero _ _ (by omega)]⟩, ⟨rfl, rfl, rfl, rfl, look_int rfl (by rw [wrap64 (by omega) (by omega)]; rfl), trivial⟩, by (try dsimp only); omega⟩
            · skip
              have q := beq_eq_false_iff_ne.1 hb5
              refine aw_skip ?_
              refine normal_thn ?_
              refine aw_seq ?_
              refine aw_region ?_
              refine g_u (s_mv_imm rfl rfl) ?_
              refine g_u (s_neI rfl rfl rfl) ?_
              refine g_nil ?_
              refine normal_thn ?_
              refine aw_cond rfl (fun hb7 => ?_) (fun hb7 => ?_)
              · skip
                have q := bne_iff_ne.1 hb7
                refine aw_seq ?_
                refine aw_region ?_
                refine g_u (s_mv_imm rfl rfl) ?_
                refine g_u (s_as_imm rfl rfl) ?_
                refine g_nil ?_
                refine normal_thn ?_
                refine aw_ret ?_
                refine ret_blk ?_
                refine ret_thn ?_
                refine ret_thn ?_
                refine ret_blk ?_
                refine ret_thn ?_
                exact ⟨⟨(rfl : toAV (Al.look _ _) = some _).trans (congrArg some (by (exact congrArg iv (by first | (exfalso; omega) | (rw [h2, hin, List.drop_length]; rfl) | (rw [h2, E, orC_pos _ _ (by omega)]; done) | (rw [h2, E, orC_zero _ _ (by omega), if_pos pb]; done) | (rw [h2, E, orC_zero _ _ (by omega), if_neg (by rw [pb]; decide), orC_pos _ _ (by omega)]; done))))), rfl⟩, trivial⟩
              · skip
                have q := bne_eq_false_iff_eq.1 hb7
                refine aw_skip ?_
                refine normal_blk ?_
                refine normal_thn ?_
                refine aw_region ?_
                refine g_u (s_add rfl rfl rfl) ?_
                refine g_u (s_mv_imm rfl rfl) ?_
                refine g_nil ?_
                refine normal_thn ?_
                first | (exfalso; omega) | refine ⟨i + 1, ⟨hi, by (try dsimp only); rw [h2, E, orC_zero _ _ (by omega), if_neg (by rw [pb]; decide), orC_zero _ _ (by omega)]⟩, ⟨rfl, rfl, rfl, rfl, look_int rfl (by rw [wrap64 (by omega) (by omega)]; rfl), trivial⟩, by (try dsimp only); omega⟩
          · skip
            have pb : prevBad (prevOf l i) (nthA l i).key = false := by rw [prevBad_pos hi0, ← less_eq]; exact hb4
            refine aw_skip ?_
            refine normal_thn ?_
            refine aw_seq ?_
            refine aw_seq ?_
            refine aw_region ?_
            refine g_u (s_mv_imm rfl rfl) ?_
            refine g_u (s_eqI rfl rfl rfl) ?_
            refine g_nil ?_
            refine normal_thn ?_
            refine aw_cond rfl (fun hb8 => ?_) (fun hb8 => ?_)
            · skip
              have q := beq_iff_eq.1 hb8
              refine aw_region ?_
              refine g_u (s_fieldAddr rfl rfl fa50_1 rfl) ?_
              refine g_u (s_load_imm rfl rfl rfl tA48 tS48 rfl rfl) ?_
              refine g_u (s_mv_imm rfl rfl) ?_
              refine g_u (s_call1 (ih _ (nthA_mem hi) d ⟨by omega, by omega⟩) rfl rfl) ?_
              refine g_u (s_as_imm rfl rfl) ?_
              refine g_nil ?_
              refine normal_thn ?_
              refine aw_seq ?_
              refine aw_region ?_
              refine g_u (s_mv_imm rfl rfl) ?_
              refine g_u (s_neI rfl rfl rfl) ?_
              refine g_nil ?_
              refine normal_thn ?_
              refine aw_cond rfl (fun hb9 => ?_) (fun hb9 => ?_)
              · skip
                have q := bne_iff_ne.1 hb9
                refine aw_seq ?_
                refine aw_region ?_
                refine g_u (s_mv_imm rfl rfl) ?_
                refine g_u (s_as_imm rfl rfl) ?_
                refine g_nil ?_
                refine normal_thn ?_
                refine aw_ret ?_
                refine ret_blk ?_
                refine ret_thn ?_
                refine ret_thn ?_
                refine ret_blk ?_
                refine ret_thn ?_
                exact ⟨⟨(rfl : toAV (Al.look _ _) = some _).trans (congrArg some (by (exact congrArg iv (by first | (exfalso; omega) | (rw [h2, hin, List.drop_length]; rfl) | (rw [h2, E, orC_pos _ _ (by omega)]; done) | (rw [h2, E, orC_zero _ _ (by omega), if_pos pb]; done) | (rw [h2, E, orC_zero _ _ (by omega), if_neg (by rw [pb]; decide), orC_pos _ _ (by omega)]; done))))), rfl⟩, trivial⟩
              · skip
                have q := bne_eq_false_iff_eq.1 hb9
                refine aw_skip ?_
                refine normal_blk ?_
                refine normal_thn ?_
                refine aw_region ?_
                refine g_u (s_add rfl rfl rfl) ?_
                refine g_u (s_mv_imm rfl rfl) ?_
                refine g_nil ?_
                refine normal_thn ?_
                first | (exfalso; omega) | refine ⟨i + 1, ⟨hi, by (try dsimp only); rw [h2, E, orC_zero _ _ (by omega), if_neg (by rw [pb]; decide), orC_zero _ _ (by omega)]⟩, ⟨rfl, rfl, rfl, rfl, look_int rfl (by rw [wrap64 (by omega) (by omega)]; rfl), trivial⟩, by (try dsimp only); omega⟩
            · skip
              have q := beq_eq_false_iff_ne.1 hb8
              refine aw_skip ?_
              refine normal_thn ?_
              refine aw_seq ?_
              refine aw_region ?_
              refine g_u (s_mv_imm rfl rfl) ?_
              refine g_u (s_neI rfl rfl rfl) ?_
              refine g_nil ?_
              refine normal_thn ?_
              refine aw_cond rfl (fun hb10 => ?_) (fun hb10 => ?_)
              · skip
                have q := bne_iff_ne.1 hb10
                refine aw_seq ?_
                refine aw_region ?_
                refine g_u (s_mv_imm rfl rfl) ?_
                refine g_u (s_as_imm rfl rfl) ?_
                refine g_nil ?_
                refine normal_thn ?_
                refine aw_ret ?_
                refine ret_blk ?_
                refine ret_thn ?_
                refine ret_thn ?_
                refine ret_blk ?_
                refine ret_thn ?_
                exact ⟨⟨(rfl : toAV (Al.look _ _) = some _).trans (congrArg some (by (exact congrArg iv (by first | (exfalso; omega) | (rw [h2, hin, List.drop_length]; rfl) | (rw [h2, E, orC_pos _ _ (by omega)]; done) | (rw [h2, E, orC_zero _ _ (by omega), if_pos pb]; done) | (rw [h2, E, orC_zero _ _ (by omega), if_neg (by rw [pb]; decide), orC_pos _ _ (by omega)]; done))))), rfl⟩, trivial⟩
              · skip
                have q := bne_eq_false_iff_eq.1 hb10
                refine aw_skip ?_
                refine normal_blk ?_
                refine normal_thn ?_
                refine aw_region ?_
                refine g_u (s_add rfl rfl rfl) ?_
                refine g_u (s_mv_imm rfl rfl) ?_
                refine g_nil ?_
                refine normal_thn ?_
                first | (exfalso; omega) | refine ⟨i + 1, ⟨hi, by (try dsimp only); rw [h2, E, orC_zero _ _ (by omega), if_neg (by rw [pb]; decide), orC_zero _ _ (by omega)]⟩, ⟨rfl, rfl, rfl, rfl, look_int rfl (by rw [wrap64 (by omega) (by omega)]; rfl), trivial⟩, by (try dsimp only); omega⟩
        · rw [hb3]
          have hi0 : i = 0 := by have := of_decide_eq_false hb3; omega
          have pb : prevBad (prevOf l i) (nthA l i).key = false := by unfold prevOf; rw [if_pos hi0]; rfl
          refine g_skip rfl rfl rfl ?_
          refine g_skip rfl rfl rfl ?_
          refine g_skip rfl rfl rfl ?_
          refine g_skip rfl rfl rfl ?_
          refine g_skip rfl rfl rfl ?_
          refine g_skip rfl rfl rfl ?_
          refine g_skip rfl rfl rfl ?_
          refine g_skip rfl rfl rfl ?_
          refine g_skip rfl rfl rfl ?_
          refine g_u (s_pick_f rfl rfl rfl) ?_
          refine g_nil ⟨by kernel_rfl, ?_⟩
          refine normal_thn ?_
          refine aw_cond_false rfl ?_
          refine aw_skip ?_
          refine normal_thn ?_
          refine aw_seq ?_
          refine aw_seq ?_
          refine aw_region ?_
          refine g_u (s_mv_imm rfl rfl) ?_
          refine g_u (s_eqI rfl rfl rfl) ?_
          refine g_nil ?_
          refine normal_thn ?_
          refine aw_cond rfl (fun hb11 => ?_) (fun hb11 => ?_)
          · skip
            have q := beq_iff_eq.1 hb11
            refine aw_region ?_
            refine g_u (s_fieldAddr rfl rfl fa50_1 rfl) ?_
            refine g_u (s_load_imm rfl rfl rfl tA48 tS48 rfl rfl) ?_
            refine g_u (s_mv_imm rfl rfl) ?_
            refine g_u (s_call1 (ih _ (nthA_mem hi) d ⟨by omega, by omega⟩) rfl rfl) ?_
            refine g_u (s_as_imm rfl rfl) ?_
            refine g_nil ?_
            refine normal_thn ?_
            refine aw_seq ?_
            refine aw_region ?_
            refine g_u (s_mv_imm rfl rfl) ?_
            refine g_u (s_neI rfl rfl rfl) ?_
            refine g_nil ?_
            refine normal_thn ?_
            refine aw_cond rfl (fun hb12 => ?_) (fun hb12 => ?_)
            · skip
              have q := bne_iff_ne.1 hb12
              refine aw_seq ?_
              refine aw_region ?_
              refine g_u (s_mv_imm rfl rfl) ?_
              refine g_u (s_as_imm rfl rfl) ?_
              refine g_nil ?_
              refine normal_thn ?_
              refine aw_ret ?_
              refine ret_blk ?_
              refine ret_thn ?_
              refine ret_thn ?_
              refine ret_blk ?_
              refine ret_thn ?_
              exact ⟨⟨(rfl : toAV (Al.look _ _) = some _).trans (congrArg some (by (exact congrArg iv (by first | (exfalso; omega) | (rw [h2, hin, List.drop_length]; rfl) | (rw [h2, E, orC_pos _ _ (by omega)]; done) | (rw [h2, E, orC_zero _ _ (by omega), if_pos pb]; done) | (rw [h2, E, orC_zero _ _ (by omega), if_neg (by rw [pb]; decide), orC_pos _ _ (by omega)]; done))))), rfl⟩, trivial⟩
            · skip
              have q := bne_eq_false_iff_eq.1 hb12
              refine aw_skip ?_
              refine normal_blk ?_
              refine normal_thn ?_
              refine aw_region ?_
              refine g_u (s_add rfl rfl rfl) ?_
              refine g_u (s_mv_imm rfl rfl) ?_
              refine g_nil ?_
              refine normal_thn ?_
              first | (exfalso; omega) | refine ⟨i + 1, ⟨hi, by (try dsimp only); rw [h2, E, orC_zero _ _ (by omega), if_neg (by rw [pb]; decide), orC_zero _ _ (by omega)]⟩, ⟨rfl, rfl, rfl, rfl, look_int rfl (by rw [wrap64 (by omega) (by omega)]; rfl), trivial⟩, by (try dsimp only); omega⟩
          · skip
            have q := beq_eq_false_iff_ne.1 hb11
            refine aw_skip ?_
            refine normal_thn ?_
            refine aw_seq ?_
            refine aw_region ?_
            refine g_u (s_mv_imm rfl rfl) ?_
            refine g_u (s_neI rfl rfl rfl) ?_
            refine g_nil ?_
            refine normal_thn ?_
            refine aw_cond rfl (fun hb13 => ?_) (fun hb13 => ?_)
            · skip
              have q := bne_iff_ne.1 hb13
              refine aw_seq ?_
              refine aw_region ?_
              refine g_u (s_mv_imm rfl rfl) ?_
              refine g_u (s_as_imm rfl rfl) ?_
              refine g_nil ?_
              refine normal_thn ?_
              refine aw_ret ?_
              refine ret_blk ?_
              refine ret_thn ?_
              refine ret_thn ?_
              refine ret_blk ?_
              refine ret_thn ?_
              exact ⟨⟨(rfl : toAV (Al.look _ _) = some _).trans (congrArg some (by (exact congrArg iv (by first | (exfalso; omega) | (rw [h2, hin, List.drop_length]; rfl) | (rw [h2, E, orC_pos _ _ (by omega)]; done) | (rw [h2, E, orC_zero _ _ (by omega), if_pos pb]; done) | (rw [h2, E, orC_zero _ _ (by omega), if_neg (by rw [pb]; decide), orC_pos _ _ (by omega)]; done))))), rfl⟩, trivial⟩
            · skip
              have q := bne_eq_false_iff_eq.1 hb13
              refine aw_skip ?_
              refine normal_blk ?_
              refine normal_thn ?_
              refine aw_region ?_
              refine g_u (s_add rfl rfl rfl) ?_
              refine g_u (s_mv_imm rfl rfl) ?_
              refine g_nil ?_
              refine normal_thn ?_
              first | (exfalso; omega) | refine ⟨i + 1, ⟨hi, by (try dsimp only); rw [h2, E, orC_zero _ _ (by omega), if_neg (by rw [pb]; decide), orC_zero _ _ (by omega)]⟩, ⟨rfl, rfl, rfl, rfl, look_int rfl (by rw [wrap64 (by omega) (by omega)]; rfl), trivial⟩, by (try dsimp only); omega⟩
      · rw [hb2]
        have q := beq_eq_false_iff_ne.1 hb2
        refine g_skip rfl rfl rfl ?_
        refine g_skip rfl rfl rfl ?_
        refine g_u (s_pick_f rfl rfl rfl) ?_
        refine g_u (s_mv_imm rfl rfl) ?_
        refine g_skip rfl rfl rfl ?_
        refine g_skip rfl rfl rfl ?_
        refine g_skip rfl rfl rfl ?_
        refine g_skip rfl rfl rfl ?_
        refine g_skip rfl rfl rfl ?_
        refine g_skip rfl rfl rfl ?_
        refine g_skip rfl rfl rfl ?_
        refine g_skip rfl rfl rfl ?_
        refine g_skip rfl rfl rfl ?_
        refine g_u (s_pick_f rfl rfl rfl) ?_
        refine g_nil ⟨by kernel_rfl, ?_⟩
        refine normal_thn ?_
        refine aw_cond_false rfl ?_
        refine aw_skip ?_
        refine normal_thn ?_
        refine aw_seq ?_
        refine aw_seq ?_
        refine aw_region ?_
        refine g_u (s_mv_imm rfl rfl) ?_
        refine g_u (s_eqI rfl rfl rfl) ?_
        refine g_nil ?_
        refine normal_thn ?_
        refine aw_cond rfl (fun hb14 => ?_) (fun hb14 => ?_)
        · skip
          have q := beq_iff_eq.1 hb14
          refine aw_region ?_
          refine g_u (s_fieldAddr rfl rfl fa50_1 rfl) ?_
          refine g_u (s_load_imm rfl rfl rfl tA48 tS48 rfl rfl) ?_
          refine g_u (s_mv_imm rfl rfl) ?_
          refine g_u (s_call1 (ih _ (nthA_mem hi) d ⟨by omega, by omega⟩) rfl rfl) ?_
          refine g_u (s_as_imm rfl rfl) ?_
          refine g_nil ?_
          refine normal_thn ?_
          refine aw_seq ?_
          refine aw_region ?_
          refine g_u (s_mv_imm rfl rfl) ?_
          refine g_u (s_neI rfl rfl rfl) ?_
          refine g_nil ?_
          refine normal_thn ?_
          refine aw_cond rfl (fun hb15 => ?_) (fun hb15 => ?_)
          · skip
            have q := bne_iff_ne.1 hb15
            refine aw_seq ?_
            refine aw_region ?_
            refine g_u (s_mv_imm rfl rfl) ?_
            refine g_u (s_as_imm rfl rfl) ?_
            refine g_nil ?_
            refine normal_thn ?_
            refine aw_ret ?_
            refine ret_blk ?_
            refine ret_thn ?_
            refine ret_thn ?_
            refine ret_blk ?_
            refine ret_thn ?_
            exact ⟨⟨(rfl : toAV (Al.look _ _) = some _).trans (congrArg some (by (exact congrArg iv (by first | (exfalso; omega) | (rw [h2, hin, List.drop_length]; rfl) | (rw [h2, E, orC_pos _ _ (by omega)]; done) | (rw [h2, E, orC_zero _ _ (by omega), if_pos pb]; done) | (rw [h2, E, orC_zero _ _ (by omega), if_neg (by rw [pb]; decide), orC_pos _ _ (by omega)]; done))))), rfl⟩, trivial⟩
          · skip
            have q := bne_eq_false_iff_eq.1 hb15
            refine aw_skip ?_
            refine normal_blk ?_
            refine normal_thn ?_
            refine aw_region ?_
            refine g_u (s_add rfl rfl rfl) ?_
            refine g_u (s_mv_imm rfl rfl) ?_
            refine g_nil ?_
            refine normal_thn ?_
            first | (exfalso; omega) | refine ⟨i + 1, ⟨hi, by (try dsimp only); rw [h2, E, orC_zero _ _ (by omega), if_neg (by rw [pb]; decide), orC_zero _ _ (by omega)]⟩, ⟨rfl, rfl, rfl, rfl, look_int rfl (by rw [wrap64 (by omega) (by omega)]; rfl), trivial⟩, by (try dsimp only); omega⟩
        · skip
          have q := beq_eq_false_iff_ne.1 hb14
          refine aw_skip ?_
          refine normal_thn ?_
          refine aw_seq ?_
          refine aw_region ?_
          refine g_u (s_mv_imm rfl rfl) ?_
          refine g_u (s_neI rfl rfl rfl) ?_
          refine g_nil ?_
          refine normal_thn ?_
          refine aw_cond rfl (fun hb16 => ?_) (fun hb16 => ?_)
          · skip
            have q := bne_iff_ne.1 hb16
            refine aw_seq ?_
            refine aw_region ?_
            refine g_u (s_mv_imm rfl rfl) ?_
            refine g_u (s_as_imm rfl rfl) ?_
            refine g_nil ?_
            refine normal_thn ?_
            refine aw_ret ?_
            refine ret_blk ?_
            refine ret_thn ?_
            refine ret_thn ?_
            refine ret_blk ?_
            refine ret_thn ?_
            exact ⟨⟨(rfl : toAV (Al.look _ _) = some _).trans (congrArg some (by (exact congrArg iv (by first | (exfalso; omega) | (rw [h2, hin, List.drop_length]; rfl) | (rw [h2, E, orC_pos _ _ (by omega)]; done) | (rw [h2, E, orC_zero _ _ (by omega), if_pos pb]; done) | (rw [h2, E, orC_zero _ _ (by omega), if_neg (by rw [pb]; decide), orC_pos _ _ (by omega)]; done))))), rfl⟩, trivial⟩
          · skip
            have q := bne_eq_false_iff_eq.1 hb16
            refine aw_skip ?_
            refine normal_blk ?_
            refine normal_thn ?_
            refine aw_region ?_
            refine g_u (s_add rfl rfl rfl) ?_
            refine g_u (s_mv_imm rfl rfl) ?_
            refine g_nil ?_
            refine normal_thn ?_
            first | (exfalso; omega) | refine ⟨i + 1, ⟨hi, by (try dsimp only); rw [h2, E, orC_zero _ _ (by omega), if_neg (by rw [pb]; decide), orC_zero _ _ (by omega)]⟩, ⟨rfl, rfl, rfl, rfl, look_int rfl (by rw [wrap64 (by omega) (by omega)]; rfl), trivial⟩, by (try dsimp only); omega⟩
    · skip
      have hin : i = l.length := by have := of_decide_eq_false hb1; (try simp only [List.length_map] at this); omega
      refine aw_exit ?_
      refine exit_thn ?_
      refine exit_thn ?_
      refine exit_blk ?_
      refine normal_thn ?_
      refine aw_seq ?_
      refine aw_region ?_
      refine g_u (s_as_imm rfl rfl) ?_
      refine g_nil ?_
      refine normal_thn ?_
      refine aw_ret ?_
      exact ⟨⟨(rfl : toAV (Al.look _ _) = some _).trans (congrArg some (by (exact congrArg iv (by first | (exfalso; omega) | (rw [h2, hin, List.drop_length]; rfl) | (rw [h2, E, orC_pos _ _ (by omega)]; done) | (rw [h2, E, orC_zero _ _ (by omega), if_pos pb]; done) | (rw [h2, E, orC_zero _ _ (by omega), if_neg (by rw [pb]; decide), orC_pos _ _ (by omega)]; done))))), rfl⟩, trivial⟩

set_option maxHeartbeats 2000000 in
theorem rentC_st (l : List GA) (d : Int) (hd : 0 ≤ d ∧ d + wtAs l ≤ 1000000000) (ih : ∀ a ∈ l, ∀ d : Int, 0 ≤ d ∧ d + a.val.wt ≤ 1000000000 → PCall Tryz.prog Γ0 66 [a.val.av, iv d] [iv (checkV d a.val)]) : PCall Tryz.prog Γ0 52 [.sl 7 (l.map avA), iv d] [iv (entC d none l)] := by
  refine pcall_of Tryz.func52 rfl Tryz.ntmps52 (by kernel_rfl) rfl fun w0 I0 G0 => ?_
  refine aw_seq ?_
  refine aw_region ?_
  refine g_u (s_as_imm rfl rfl) ?_
  refine g_nil ?_
  refine normal_thn ?_
  refine aw_seq ?_
  refine aw_seq ?_
  refine aw_region ?_
  refine g_u (s_as_imm rfl rfl) ?_
  refine g_nil ?_
  refine normal_thn ?_
  refine aw_block ?_
  refine aw_loop' (fun i : Nat => [(0, .imm (.sl 7 (l.map avA))), (1, .imm (iv d)), (5, .imm (iv (i : Int)))]) (fun i => i ≤ l.length ∧ entC d none l = entC d (prevOf l i) (l.drop i)) (fun i => l.length - i) (0) ?_ ⟨rfl, rfl, rfl, trivial⟩ ?_
  · exact ⟨Nat.zero_le _, rfl⟩
  · rintro i ⟨h1, h2⟩; (try dsimp only at h1 h2)
    refine aw_seq ?_
    refine aw_seq ?_
    refine aw_region ?_
    refine g_u (s_mv_imm rfl rfl) ?_
    refine g_u (s_mv_imm rfl rfl) ?_
    refine g_u (s_lenL rfl rfl Tryz.underlying27) ?_
    refine g_u (s_ltI rfl rfl rfl) ?_
    refine g_nil ?_
    refine normal_thn ?_
    refine aw_cond rfl (fun hb1 => ?_) (fun hb1 => ?_)
    · skip
      have hi : i < l.length := by have := of_decide_eq_true hb1; (try simp only [List.length_map] at this); omega
      have hw1 := wtAs_mem (nthA_mem hi)
      have hw2 := (nthA l i).wt_eq
      have E := entC_drop d hi
      have ll := len_wtAs l
      refine aw_skip ?_
      refine normal_thn ?_
      refine aw_seq ?_
      refine aw_block ?_
      refine aw_seq ?_
      refine aw_seq ?_
      refine aw_region ?_
      refine g_u (s_mv_imm rfl rfl) ?_
      refine g_u (s_mv_imm rfl rfl) ?_
      refine g_u (s_indexAddr rfl rfl rfl Tryz.underlying27 tS50 (by omega) (ixA hi)) ?_
      refine g_u (s_fieldAddr_cp rfl rfl fa50_0 rfl rfl) ?_
      refine g_u (s_load_cp rfl rfl tA9 tS9 rfl rfl) ?_
      refine g_u (s_call1 (rkeyP_c _ (by omega)) rfl rfl) ?_
      refine g_u (s_as_imm rfl rfl) ?_
      refine g_nil ?_
      refine normal_thn ?_
      refine aw_seq ?_
      refine aw_region ?_
      refine g_u (s_mv_imm rfl rfl) ?_
      refine g_u (s_neI rfl rfl rfl) ?_
      refine g_nil ?_
      refine normal_thn ?_
      refine aw_cond rfl (fun hb2 => ?_) (fun hb2 => ?_)
      · skip
        have q := bne_iff_ne.1 hb2
        refine aw_seq ?_
        refine aw_region ?_
        refine g_u (s_mv_imm rfl rfl) ?_
        refine g_u (s_as_imm rfl rfl) ?_
        refine g_nil ?_
        refine normal_thn ?_
        refine aw_ret ?_
        refine ret_thn ?_
        refine ret_blk ?_
        refine ret_thn ?_
        refine ret_thn ?_
        refine ret_blk ?_
        refine ret_thn ?_
        exact ⟨⟨(rfl : toAV (Al.look _ _) = some _).trans (congrArg some (by (exact congrArg iv (by first | (exfalso; omega) | (rw [h2, hin, List.drop_length]; rfl) | (rw [h2, E, orC_pos _ _ (by omega)]; done) | (rw [h2, E, orC_zero _ _ (by omega), if_pos pb]; done) | (rw [h2, E, orC_zero _ _ (by omega), if_neg (by rw [pb]; decide), orC_pos _ _ (by omega)]; done))))), rfl⟩, trivial⟩
      · skip
        have q := bne_eq_false_iff_eq.1 hb2
        refine aw_skip ?_
        refine normal_thn ?_
        refine aw_seq ?_
        refine aw_seq ?_
        refine aw_draw mixed ?_
        refine g_u (s_mv_imm rfl rfl) ?_
        refine g_u (s_gtI rfl rfl rfl) ?_
        refine g_u (s_mv_imm rfl rfl) ?_
        refine g_case (t := 25) rfl ?_
        rintro (hb3 | hb3)
        · rw [hb3]
          have hi0 : i ≠ 0 := by have := of_decide_eq_true hb3; omega
          have hm : i - 1 < l.length := by omega
          have em : IntKind.i64.wrap ((i : Int) - 1) = ((i - 1 : Nat) : Int) := by rw [wrap64 (by omega) (by omega)]; omega
          refine g_run rfl rfl (s_mv_imm rfl rfl) ?_
          refine g_run rfl rfl (s_mv_imm rfl rfl) ?_
          refine g_run rfl rfl (s_indexAddr rfl rfl rfl Tryz.underlying27 tS50 (by omega) (ixA hi)) ?_
          refine g_run rfl rfl (s_fieldAddr_cp rfl rfl fa50_0 rfl rfl) ?_
          refine g_run rfl rfl (s_load_cp rfl rfl tA9 tS9 rfl rfl) ?_
          refine g_run rfl rfl (s_mv_imm rfl rfl) ?_
          refine g_run rfl rfl (s_mv_imm rfl rfl) ?_
          refine g_run rfl rfl (s_sub rfl rfl rfl) ?_
          refine g_run rfl rfl (s_indexAddr rfl rfl rfl Tryz.underlying27 tS50 (by rw [em]; omega) ((congrArg (fun z : Int => (l.map avA)[z.toNat]?) em).trans (ixA hm))) ?_
          refine g_run rfl rfl (s_fieldAddr_cp rfl rfl fa50_0 rfl rfl) ?_
          refine g_run rfl rfl (s_load_cp rfl rfl tA9 tS9 rfl rfl) ?_
          refine g_run rfl rfl (s_leS rfl rfl rfl) ?_
          refine g_u (s_pick_t rfl rfl rfl) ?_
          refine g_nil ⟨by kernel_rfl, ?_⟩
          refine normal_thn ?_
          refine aw_cond rfl (fun hb4 => ?_) (fun hb4 => ?_)
          · skip
            have pb : prevBad (prevOf l i) (nthA l i).key = true := by rw [prevBad_pos hi0, ← leB]; exact hb4
            refine aw_seq ?_
            refine aw_region ?_
            refine g_u (s_as_imm rfl rfl) ?_
            refine g_nil ?_
            refine normal_thn ?_
            refine aw_ret ?_
            refine ret_thn ?_
            refine ret_blk ?_
            refine ret_thn ?_
            refine ret_thn ?_
            refine ret_blk ?_
            refine ret_thn ?_
            exact ⟨⟨(rfl : toAV (Al.look _ _) = some _).trans (congrArg some (by (exact congrArg iv (by first | (exfalso; omega) | (rw [h2, hin, List.drop_length]; rfl) | (rw [h2, E, orC_pos _ _ (by omega)]; done) | (rw [h2, E, orC_zero _ _ (by omega), if_pos pb]; done) | (rw [h2, E, orC_zero _ _ (by omega), if_neg (by rw [pb]; decide), orC_pos _ _ (by omega)]; done))))), rfl⟩, trivial⟩
          · skip
            have pb : prevBad (prevOf l i) (nthA l i).key = false := by rw [prevBad_pos hi0, ← leB]; exact hb4
            refine aw_skip ?_
            refine normal_thn ?_
            refine aw_seq ?_
            refine aw_region ?_
            refine g_u (s_mv_imm rfl rfl) ?_
            refine g_u (s_mv_imm rfl rfl) ?_
            refine g_u (s_indexAddr rfl rfl rfl Tryz.underlying27 tS50 (by omega) (ixA hi)) ?_
            refine g_u (s_fieldAddr_cp rfl rfl fa50_1 rfl rfl) ?_
            refine g_u (s_load_cp rfl rfl tA48 tS48 rfl rfl) ?_
            refine g_u (s_mv_imm rfl rfl) ?_
            refine g_u (s_call1 (ih _ (nthA_mem hi) d ⟨by omega, by omega⟩) rfl rfl) ?_
            refine g_u (s_as_imm rfl rfl) ?_
            refine g_nil ?_
            refine normal_thn ?_
            refine aw_seq ?_
            refine aw_region ?_
            refine g_u (s_mv_imm rfl rfl) ?_
            refine g_u (s_neI rfl rfl rfl) ?_
            refine g_nil ?_
            refine normal_thn ?_
            refine aw_cond rfl (fun hb5 => ?_) (fun hb5 => ?_)
            · skip
              have q := bne_iff_ne.1 hb5
              refine aw_seq ?_
              refine aw_region ?_
              refine g_u (s_mv_imm rfl rfl) ?_
              refine g_u (s_as_imm rfl rfl) ?_
              refine g_nil ?_
              refine normal_thn ?_
              refine aw_ret ?_
              refine ret_blk ?_
              refine ret_thn ?_
              refine ret_thn ?_
              refine ret_blk ?_
              refine ret_thn ?_
              exact ⟨⟨(rfl : toAV (Al.look _ _) = some _).trans (congrArg some (by (exact congrArg iv (by first | (exfalso; omega) | (rw [h2, hin, List.drop_length]; rfl) | (rw [h2, E, orC_pos _ _ (by omega)]; done) | (rw [h2, E, orC_zero _ _ (by omega), if_pos pb]; done) | (rw [h2, E, orC_zero _ _ (by omega), if_neg (by rw [pb]; decide), orC_pos _ _ (by omega)]; done))))), rfl⟩, trivial⟩
            · skip
              have q := bne_eq_false_iff_eq.1 hb5
              refine aw_skip ?_
              refine normal_blk ?_
              refine normal_thn ?_
              refine aw_region ?_
              refine g_u (s_mv_imm rfl rfl) ?_
              refine g_u (s_add rfl rfl rfl) ?_
              refine g_u (s_as_imm rfl rfl) ?_
              refine g_nil ?_
              refine normal_thn ?_
              first | (exfalso; omega) | refine ⟨i + 1, ⟨hi, by (try dsimp only); rw [h2, E, orC_zero _ _ (by omega), if_neg (by rw [pb]; decide), orC_zero _ _ (by omega)]⟩, ⟨rfl, rfl, look_int rfl (by rw [wrap64 (by omega) (by omega)]; rfl), trivial⟩, by (try dsimp only); omega⟩
        · rw [hb3]
          have hi0 : i = 0 := by have := of_decide_eq_false hb3; omega
          have pb : prevBad (prevOf l i) (nthA l i).key = false := by unfold prevOf; rw [if_pos hi0]; rfl
          refine g_skip rfl rfl rfl ?_
          refine g_skip rfl rfl rfl ?_
          refine g_skip rfl rfl rfl ?_
          refine g_skip rfl rfl rfl ?_
          refine g_skip rfl rfl rfl ?_
          refine g_skip rfl rfl rfl ?_
          refine g_skip rfl rfl rfl ?_
          refine g_skip rfl rfl rfl ?_
          refine g_skip rfl rfl rfl ?_
          refine g_skip rfl rfl rfl ?_
          refine g_skip rfl rfl rfl ?_
          refine g_skip rfl rfl rfl ?_
          refine g_u (s_pick_f rfl rfl rfl) ?_
          refine g_nil ⟨by kernel_rfl, ?_⟩
          refine normal_thn ?_
          refine aw_cond_false rfl ?_
          refine aw_skip ?_
          refine normal_thn ?_
          refine aw_seq ?_
          refine aw_region ?_
          refine g_u (s_mv_imm rfl rfl) ?_
          refine g_u (s_mv_imm rfl rfl) ?_
          refine g_u (s_indexAddr rfl rfl rfl Tryz.underlying27 tS50 (by omega) (ixA hi)) ?_
          refine g_u (s_fieldAddr_cp rfl rfl fa50_1 rfl rfl) ?_
          refine g_u (s_load_cp rfl rfl tA48 tS48 rfl rfl) ?_
          refine g_u (s_mv_imm rfl rfl) ?_
          refine g_u (s_call1 (ih _ (nthA_mem hi) d ⟨by omega, by omega⟩) rfl rfl) ?_
          refine g_u (s_as_imm rfl rfl) ?_
          refine g_nil ?_
          refine normal_thn ?_
          refine aw_seq ?_
          refine aw_region ?_
          refine g_u (s_mv_imm rfl rfl) ?_
          refine g_u (s_neI rfl rfl rfl) ?_
          refine g_nil ?_
          refine normal_thn ?_
          refine aw_cond rfl (fun hb6 => ?_) (fun hb6 => ?_)
          · skip
            have q := bne_iff_ne.1 hb6
            refine aw_seq ?_
            refine aw_region ?_
            refine g_u (s_mv_imm rfl rfl) ?_
            refine g_u (s_as_imm rfl rfl) ?_
            refine g_nil ?_
            refine normal_thn ?_
            refine aw_ret ?_
            refine ret_blk ?_
            refine ret_thn ?_
            refine ret_thn ?_
            refine ret_blk ?_
            refine ret_thn ?_
            exact ⟨⟨(rfl : toAV (Al.look _ _) = some _).trans (congrArg some (by (exact congrArg iv (by first | (exfalso; omega) | (rw [h2, hin, List.drop_length]; rfl) | (rw [h2, E, orC_pos _ _ (by omega)]; done) | (rw [h2, E, orC_zero _ _ (by omega), if_pos pb]; done) | (rw [h2, E, orC_zero _ _ (by omega), if_neg (by rw [pb]; decide), orC_pos _ _ (by omega)]; done))))), rfl⟩, trivial⟩
          · skip
            have q := bne_eq_false_iff_eq.1 hb6
            refine aw_skip ?_
            refine normal_blk ?_
            refine normal_thn ?_
            refine aw_region ?_
            refine g_u (s_mv_imm rfl rfl) ?_
            refine g_u (s_add rfl rfl rfl) ?_
            refine g_u (s_as_imm rfl rfl) ?_
            refine g_nil ?_
            refine normal_thn ?_
            first | (exfalso; omega) | refine ⟨i + 1, ⟨hi, by (try dsimp only); rw [h2, E, orC_zero _ _ (by omega), if_neg (by rw [pb]; decide), orC_zero _ _ (by omega)]⟩, ⟨rfl, rfl, look_int rfl (by rw [wrap64 (by omega) (by omega)]; rfl), trivial⟩, by (try dsimp only); omega⟩
    · skip
      have hin : i = l.length := by have := of_decide_eq_false hb1; (try simp only [List.length_map] at this); omega
      refine aw_exit ?_
      refine exit_thn ?_
      refine exit_thn ?_
      refine exit_blk ?_
      refine normal_thn ?_
      refine aw_seq ?_
      refine aw_region ?_
      refine g_u (s_as_imm rfl rfl) ?_
      refine g_nil ?_
      refine normal_thn ?_
      refine aw_ret ?_
      exact ⟨⟨(rfl : toAV (Al.look _ _) = some _).trans (congrArg some (by (exact congrArg iv (by first | (exfalso; omega) | (rw [h2, hin, List.drop_length]; rfl) | (rw [h2, E, orC_pos _ _ (by omega)]; done) | (rw [h2, E, orC_zero _ _ (by omega), if_pos pb]; done) | (rw [h2, E, orC_zero _ _ (by omega), if_neg (by rw [pb]; decide), orC_pos _ _ (by omega)]; done))))), rfl⟩, trivial⟩

set_option maxHeartbeats 2000000 in
theorem contentV_st (v : GV) (d : Int) (hd : 0 ≤ d ∧ d + v.wt ≤ 1000000000) (ih : ∀ y ∈ v.list, ∀ d : Int, 0 ≤ d ∧ d + y.wt ≤ 1000000000 → PCall Tryz.prog Γ0 62 [y.av, iv d] [iv (checkV d y)]) (ihm : ∀ d : Int, 0 ≤ d ∧ d + wtAs v.map ≤ 1000000000 → PCall Tryz.prog Γ0 45 [.sl 7 (v.map.map avA), iv d] [iv (entC d none v.map)]) : PCall Tryz.prog Γ0 78 [v.av, iv d] [iv (contentM d v)] := by
  have ek := v.wt_eq
  have e1 : IntKind.i64.wrap (d + 1) = d + 1 := wrap64 (by omega) (by omega)
  have lv := len_wtVs v.list
  have cr := check_range v.text
  have ce := check_eq v.text
  refine pcall_of Tryz.func78 rfl Tryz.ntmps78 (by kernel_rfl) rfl fun w0 I0 G0 => ?_
  refine aw_seq ?_
  refine aw_region ?_
  refine g_uG (s_box_imm 1002 rfl rfl rfl rfl) rfl ?_
  refine g_u (s_as_imm rfl rfl) ?_
  refine g_nil ?_
  refine normal_thn ?_
  refine aw_seq ?_
  refine aw_seq ?_
  refine aw_region ?_
  refine g_u (s_fieldAddr rfl rfl fa48_0 rfl) ?_
  refine g_u (s_load_imm rfl rfl rfl tA5 tS5 rfl rfl) ?_
  refine g_nil ?_
  refine normal_thn ?_
  refine aw_block ?_
  refine aw_seq ?_
  refine aw_region ?_
  refine g_u (s_eqI rfl rfl rfl) ?_
  refine g_u (s_as_imm rfl rfl) ?_
  refine g_nil ?_
  refine normal_thn ?_
  refine aw_cond rfl (fun hb1 => ?_) (fun hb1 => ?_)
  · skip
    have q := beq_iff_eq.1 hb1
    refine aw_seq ?_
    refine aw_region ?_
    refine g_u (s_fieldAddr rfl rfl fa48_1 rfl) ?_
    refine g_u (s_load_imm rfl rfl rfl tA9 tS9 rfl rfl) ?_
    refine g_u (s_call1 (check_c _ (by omega)) rfl rfl) ?_
    refine g_u (s_geI rfl rfl rfl) ?_
    refine g_nil ?_
    refine normal_thn ?_
    refine aw_cond rfl (fun hb2 => ?_) (fun hb2 => ?_)
    · skip
      have q := of_decide_eq_true hb2
      refine aw_seq ?_
      refine aw_region ?_
      refine g_u (s_as_imm rfl rfl) ?_
      refine g_nil ?_
      refine normal_thn ?_
      refine aw_ret ?_
      refine ret_blk ?_
      refine ret_thn ?_
      exact ⟨⟨(rfl : toAV (Al.look _ _) = some _).trans (congrArg some (by (exact congrArg iv (by unfold contentM; first | (exfalso; omega) | (rw [if_pos (by omega), if_pos (by omega)]; done) | (rw [if_pos (by omega), if_neg (by omega)]; done) | (rw [if_neg (by omega), if_pos (by omega), if_pos (by omega)]; done) | (rw [if_neg (by omega), if_pos (by omega), if_neg (by omega)]; done) | (rw [if_neg (by omega), if_neg (by omega), if_pos (by omega), h2, E, orC_pos _ _ (by omega)]; done) | (rw [if_neg (by omega), if_neg (by omega), if_pos (by omega), h2, hin, List.drop_length]; rfl) | (rw [if_neg (by omega), if_neg (by omega), if_neg (by omega), if_pos (by omega)]; done) | (rw [if_neg (by omega), if_neg (by omega), if_neg (by omega), if_neg (by omega)]; done))))), rfl⟩, trivial⟩
    · skip
      have q := of_decide_eq_false hb2
      refine aw_skip ?_
      refine normal_blk ?_
      refine normal_thn ?_
      refine aw_seq ?_
      refine aw_region ?_
      refine g_u (s_as_imm rfl rfl) ?_
      refine g_nil ?_
      refine normal_thn ?_
      refine aw_ret ?_
      exact ⟨⟨(rfl : toAV (Al.look _ _) = some _).trans (congrArg some (by (exact congrArg iv (by unfold contentM; first | (exfalso; omega) | (rw [if_pos (by omega), if_pos (by omega)]; done) | (rw [if_pos (by omega), if_neg (by omega)]; done) | (rw [if_neg (by omega), if_pos (by omega), if_pos (by omega)]; done) | (rw [if_neg (by omega), if_pos (by omega), if_neg (by omega)]; done) | (rw [if_neg (by omega), if_neg (by omega), if_pos (by omega), h2, E, orC_pos _ _ (by omega)]; done) | (rw [if_neg (by omega), if_neg (by omega), if_pos (by omega), h2, hin, List.drop_length]; rfl) | (rw [if_neg (by omega), if_neg (by omega), if_neg (by omega), if_pos (by omega)]; done) | (rw [if_neg (by omega), if_neg (by omega), if_neg (by omega), if_neg (by omega)]; done))))), rfl⟩, trivial⟩
  · skip
    have q := beq_eq_false_iff_ne.1 hb1
    refine aw_seq ?_
    refine aw_region ?_
    refine g_u (s_eqI rfl rfl rfl) ?_
    refine g_u (s_as_imm rfl rfl) ?_
    refine g_nil ?_
    refine normal_thn ?_
    refine aw_cond rfl (fun hb3 => ?_) (fun hb3 => ?_)
    · skip
      have q := beq_iff_eq.1 hb3
      refine aw_seq ?_
      refine aw_region ?_
      refine g_u (s_fieldAddr rfl rfl fa48_2 rfl) ?_
      refine g_u (s_load_imm rfl rfl rfl tA3 tS3 rfl rfl) ?_
      refine g_u (s_neI rfl rfl rfl) ?_
      refine g_u (s_mv_imm rfl rfl) ?_
      refine g_case (t := 21) rfl ?_
      rintro (hb4 | hb4)
      · rw [hb4]
        have q := bne_iff_ne.1 hb4
        refine g_run rfl rfl (s_fieldAddr rfl rfl fa48_2 rfl) ?_
        refine g_run rfl rfl (s_load_imm rfl rfl rfl tA3 tS3 rfl rfl) ?_
        refine g_run rfl rfl (s_neI rfl rfl rfl) ?_
        refine g_u (s_pick_t rfl rfl rfl) ?_
        refine g_nil ?_
        refine normal_thn ?_
        refine aw_cond rfl (fun hb5 => ?_) (fun hb5 => ?_)
        · skip
          have q := bne_iff_ne.1 hb5
          refine aw_seq ?_
          refine aw_region ?_
          refine g_u (s_as_imm rfl rfl) ?_
          refine g_nil ?_
          refine normal_thn ?_
          refine aw_ret ?_
          refine ret_blk ?_
          refine ret_thn ?_
          exact ⟨⟨(rfl : toAV (Al.look _ _) = some _).trans (congrArg some (by (exact congrArg iv (by unfold contentM; first | (exfalso; omega) | (rw [if_pos (by omega), if_pos (by omega)]; done) | (rw [if_pos (by omega), if_neg (by omega)]; done) | (rw [if_neg (by omega), if_pos (by omega), if_pos (by omega)]; done) | (rw [if_neg (by omega), if_pos (by omega), if_neg (by omega)]; done) | (rw [if_neg (by omega), if_neg (by omega), if_pos (by omega), h2, E, orC_pos _ _ (by omega)]; done) | (rw [if_neg (by omega), if_neg (by omega), if_pos (by omega), h2, hin, List.drop_length]; rfl) | (rw [if_neg (by omega), if_neg (by omega), if_neg (by omega), if_pos (by omega)]; done) | (rw [if_neg (by omega), if_neg (by omega), if_neg (by omega), if_neg (by omega)]; done))))), rfl⟩, trivial⟩
        · skip
          have q := bne_eq_false_iff_eq.1 hb5
          refine aw_skip ?_
          refine normal_blk ?_
          refine normal_thn ?_
          refine aw_seq ?_
          refine aw_region ?_
          refine g_u (s_as_imm rfl rfl) ?_
          refine g_nil ?_
          refine normal_thn ?_
          refine aw_ret ?_
          exact ⟨⟨(rfl : toAV (Al.look _ _) = some _).trans (congrArg some (by (exact congrArg iv (by unfold contentM; first | (exfalso; omega) | (rw [if_pos (by omega), if_pos (by omega)]; done) | (rw [if_pos (by omega), if_neg (by omega)]; done) | (rw [if_neg (by omega), if_pos (by omega), if_pos (by omega)]; done) | (rw [if_neg (by omega), if_pos (by omega), if_neg (by omega)]; done) | (rw [if_neg (by omega), if_neg (by omega), if_pos (by omega), h2, E, orC_pos _ _ (by omega)]; done) | (rw [if_neg (by omega), if_neg (by omega), if_pos (by omega), h2, hin, List.drop_length]; rfl) | (rw [if_neg (by omega), if_neg (by omega), if_neg (by omega), if_pos (by omega)]; done) | (rw [if_neg (by omega), if_neg (by omega), if_neg (by omega), if_neg (by omega)]; done))))), rfl⟩, trivial⟩
      · rw [hb4]
        have q := bne_eq_false_iff_eq.1 hb4
        refine g_skip rfl rfl rfl ?_
        refine g_skip rfl rfl rfl ?_
        refine g_skip rfl rfl rfl ?_
        refine g_u (s_pick_f rfl rfl rfl) ?_
        refine g_nil ?_
        refine normal_thn ?_
        refine aw_cond_false rfl ?_
        refine aw_skip ?_
        refine normal_blk ?_
        refine normal_thn ?_
        refine aw_seq ?_
        refine aw_region ?_
        refine g_u (s_as_imm rfl rfl) ?_
        refine g_nil ?_
        refine normal_thn ?_
        refine aw_ret ?_
        exact ⟨⟨(rfl : toAV (Al.look _ _) = some _).trans (congrArg some (by (exact congrArg iv (by unfold contentM; first | (exfalso; omega) | (rw [if_pos (by omega), if_pos (by omega)]; done) | (rw [if_pos (by omega), if_neg (by omega)]; done) | (rw [if_neg (by omega), if_pos (by omega), if_pos (by omega)]; done) | (rw [if_neg (by omega), if_pos (by omega), if_neg (by omega)]; done) | (rw [if_neg (by omega), if_neg (by omega), if_pos (by omega), h2, E, orC_pos _ _ (by omega)]; done) | (rw [if_neg (by omega), if_neg (by omega), if_pos (by omega), h2, hin, List.drop_length]; rfl) | (rw [if_neg (by omega), if_neg (by omega), if_neg (by omega), if_pos (by omega)]; done) | (rw [if_neg (by omega), if_neg (by omega), if_neg (by omega), if_neg (by omega)]; done))))), rfl⟩, trivial⟩
    · skip
      have q := beq_eq_false_iff_ne.1 hb3
      refine aw_seq ?_
      refine aw_region ?_
      refine g_u (s_eqI rfl rfl rfl) ?_
      refine g_u (s_as_imm rfl rfl) ?_
      refine g_nil ?_
      refine normal_thn ?_
      refine aw_cond rfl (fun hb6 => ?_) (fun hb6 => ?_)
      · skip
        have q := beq_iff_eq.1 hb6
        refine aw_seq ?_
        refine aw_region ?_
        refine g_u (s_fieldAddr rfl rfl fa48_4 rfl) ?_
        refine g_u (s_load_imm rfl rfl rfl tA46 tS46 rfl rfl) ?_
        refine g_u (s_lenL rfl rfl Tryz.underlying46) ?_
        refine g_u (s_mv_imm rfl rfl) ?_
        refine g_nil ?_
        refine normal_thn ?_
        refine aw_block ?_
        refine aw_loop' (fun i : Nat => [(1, .imm (iv d)), (29, .imm (.sl 6 (v.list.map avV))), (30, .imm (iv (v.list.length : Int))), (31, .imm (iv (i : Int)))]) (fun i => i ≤ v.list.length ∧ checkVs (d + 1) v.list = checkVs (d + 1) (v.list.drop i)) (fun i => v.list.length - i) (0) ?_ ⟨rfl, rfl, look_int rfl (by rw [List.length_map]), rfl, trivial⟩ ?_
        · exact ⟨Nat.zero_le _, rfl⟩
        · rintro i ⟨h1, h2⟩; (try dsimp only at h1 h2)
          refine aw_seq ?_
          refine aw_region ?_
          refine g_u (s_ltI rfl rfl rfl) ?_
          refine g_nil ?_
          refine normal_thn ?_
          refine aw_seq ?_
          refine aw_cond rfl (fun hb7 => ?_) (fun hb7 => ?_)
          · skip
            have hi : i < v.list.length := by have := of_decide_eq_true hb7; (try simp only [List.length_map] at this); omega
            have hw1 := wtVs_mem (nthV_mem hi)
            have E := checkVs_drop (d + 1) hi
            refine aw_skip ?_
            refine normal_thn ?_
            refine aw_seq ?_
            refine aw_block ?_
            refine aw_seq ?_
            refine aw_region ?_
            refine g_u (s_indexAddr rfl rfl rfl Tryz.underlying46 tS48 (by omega) (ixV hi)) ?_
            refine g_u (s_load_cp rfl rfl tA48 tS48 rfl rfl) ?_
            refine g_uG (s_alloc' 1006 rfl rfl rfl tZ48) rfl ?_
            refine g_u (s_store_imm rfl rfl rfl tS48 rfl rfl) ?_
            refine g_nil ?_
            refine normal_thn ?_
            refine aw_seq ?_
            refine aw_region ?_
            refine g_u (s_load_agg rfl rfl rfl tA48 tS48 rfl rfl) ?_
            refine g_u (s_mv_imm rfl rfl) ?_
            refine g_u (s_add rfl rfl rfl) ?_
            refine g_u (s_call1 ((show PCall Tryz.prog Γ0 62 [(nthV v.list i).av, iv (IntKind.i64.wrap (d + 1))] [iv (checkV (d + 1) (nthV v.list i))] from by rw [e1]; exact ih _ (nthV_mem hi) _ ⟨by omega, by omega⟩)) rfl rfl) ?_
            refine g_u (s_as_imm rfl rfl) ?_
            refine g_nil ?_
            refine normal_thn ?_
            refine aw_seq ?_
            refine aw_region ?_
            refine g_u (s_mv_imm rfl rfl) ?_
            refine g_u (s_neI rfl rfl rfl) ?_
            refine g_nil ?_
            refine normal_thn ?_
            refine aw_cond rfl (fun hb8 => ?_) (fun hb8 => ?_)
            · skip
              have q := bne_iff_ne.1 hb8
              refine aw_seq ?_
              refine aw_region ?_
              refine g_u (s_mv_imm rfl rfl) ?_
              refine g_u (s_as_imm rfl rfl) ?_
              refine g_nil ?_
              refine normal_thn ?_
              refine aw_ret ?_
              refine ret_blk ?_
              refine ret_thn ?_
              refine ret_thn ?_
              refine ret_blk ?_
              refine ret_blk ?_
              refine ret_thn ?_
              exact ⟨⟨(rfl : toAV (Al.look _ _) = some _).trans (congrArg some (by (exact congrArg iv (by unfold contentM; first | (exfalso; omega) | (rw [if_pos (by omega), if_pos (by omega)]; done) | (rw [if_pos (by omega), if_neg (by omega)]; done) | (rw [if_neg (by omega), if_pos (by omega), if_pos (by omega)]; done) | (rw [if_neg (by omega), if_pos (by omega), if_neg (by omega)]; done) | (rw [if_neg (by omega), if_neg (by omega), if_pos (by omega), h2, E, orC_pos _ _ (by omega)]; done) | (rw [if_neg (by omega), if_neg (by omega), if_pos (by omega), h2, hin, List.drop_length]; rfl) | (rw [if_neg (by omega), if_neg (by omega), if_neg (by omega), if_pos (by omega)]; done) | (rw [if_neg (by omega), if_neg (by omega), if_neg (by omega), if_neg (by omega)]; done))))), rfl⟩, trivial⟩
            · skip
              have q := bne_eq_false_iff_eq.1 hb8
              refine aw_skip ?_
              refine normal_blk ?_
              refine normal_thn ?_
              refine aw_region ?_
              refine g_u (s_add rfl rfl rfl) ?_
              refine g_u (s_mv_imm rfl rfl) ?_
              refine g_nil ?_
              refine normal_thn ?_
              refine ⟨i + 1, ⟨hi, by (try dsimp only); rw [h2, E, orC_zero _ _ (by omega)]⟩, ⟨rfl, rfl, rfl, look_int rfl (by rw [wrap64 (by omega) (by omega)]; rfl), trivial⟩, by (try dsimp only); omega⟩
          · skip
            have hin : i = v.list.length := by have := of_decide_eq_false hb7; (try simp only [List.length_map] at this); omega
            refine aw_exit ?_
            refine exit_thn ?_
            refine exit_thn ?_
            refine exit_blk ?_
            refine normal_blk ?_
            refine normal_thn ?_
            refine aw_seq ?_
            refine aw_region ?_
            refine g_u (s_as_imm rfl rfl) ?_
            refine g_nil ?_
            refine normal_thn ?_
            refine aw_ret ?_
            exact ⟨⟨(rfl : toAV (Al.look _ _) = some _).trans (congrArg some (by (exact congrArg iv (by unfold contentM; first | (exfalso; omega) | (rw [if_pos (by omega), if_pos (by omega)]; done) | (rw [if_pos (by omega), if_neg (by omega)]; done) | (rw [if_neg (by omega), if_pos (by omega), if_pos (by omega)]; done) | (rw [if_neg (by omega), if_pos (by omega), if_neg (by omega)]; done) | (rw [if_neg (by omega), if_neg (by omega), if_pos (by omega), h2, E, orC_pos _ _ (by omega)]; done) | (rw [if_neg (by omega), if_neg (by omega), if_pos (by omega), h2, hin, List.drop_length]; rfl) | (rw [if_neg (by omega), if_neg (by omega), if_neg (by omega), if_pos (by omega)]; done) | (rw [if_neg (by omega), if_neg (by omega), if_neg (by omega), if_neg (by omega)]; done))))), rfl⟩, trivial⟩
      · skip
        have q := beq_eq_false_iff_ne.1 hb6
        refine aw_seq ?_
        refine aw_region ?_
        refine g_u (s_eqI rfl rfl rfl) ?_
        refine g_u (s_as_imm rfl rfl) ?_
        refine g_nil ?_
        refine normal_thn ?_
        refine aw_cond rfl (fun hb9 => ?_) (fun hb9 => ?_)
        · skip
          have q := beq_iff_eq.1 hb9
          refine aw_seq ?_
          refine aw_region ?_
          refine g_u (s_fieldAddr rfl rfl fa48_5 rfl) ?_
          refine g_u (s_load_imm rfl rfl rfl tA27 tS27 rfl rfl) ?_
          refine g_u (s_mv_imm rfl rfl) ?_
          refine g_u (s_add rfl rfl rfl) ?_
          refine g_u (s_call1 ((show PCall Tryz.prog Γ0 45 [.sl 7 (v.map.map avA), iv (IntKind.i64.wrap (d + 1))] [iv (entC (d + 1) none v.map)] from by rw [e1]; exact ihm _ ⟨by omega, by omega⟩)) rfl rfl) ?_
          refine g_u (s_as_imm rfl rfl) ?_
          refine g_nil ?_
          refine normal_thn ?_
          refine aw_ret ?_
          refine ret_blk ?_
          refine ret_thn ?_
          exact ⟨⟨(rfl : toAV (Al.look _ _) = some _).trans (congrArg some (by (exact congrArg iv (by unfold contentM; first | (exfalso; omega) | (rw [if_pos (by omega), if_pos (by omega)]; done) | (rw [if_pos (by omega), if_neg (by omega)]; done) | (rw [if_neg (by omega), if_pos (by omega), if_pos (by omega)]; done) | (rw [if_neg (by omega), if_pos (by omega), if_neg (by omega)]; done) | (rw [if_neg (by omega), if_neg (by omega), if_pos (by omega), h2, E, orC_pos _ _ (by omega)]; done) | (rw [if_neg (by omega), if_neg (by omega), if_pos (by omega), h2, hin, List.drop_length]; rfl) | (rw [if_neg (by omega), if_neg (by omega), if_neg (by omega), if_pos (by omega)]; done) | (rw [if_neg (by omega), if_neg (by omega), if_neg (by omega), if_neg (by omega)]; done))))), rfl⟩, trivial⟩
        · skip
          have q := beq_eq_false_iff_ne.1 hb9
          refine aw_skip ?_
          refine normal_blk ?_
          refine normal_thn ?_
          refine aw_seq ?_
          refine aw_region ?_
          refine g_u (s_as_imm rfl rfl) ?_
          refine g_nil ?_
          refine normal_thn ?_
          refine aw_ret ?_
          exact ⟨⟨(rfl : toAV (Al.look _ _) = some _).trans (congrArg some (by (exact congrArg iv (by unfold contentM; first | (exfalso; omega) | (rw [if_pos (by omega), if_pos (by omega)]; done) | (rw [if_pos (by omega), if_neg (by omega)]; done) | (rw [if_neg (by omega), if_pos (by omega), if_pos (by omega)]; done) | (rw [if_neg (by omega), if_pos (by omega), if_neg (by omega)]; done) | (rw [if_neg (by omega), if_neg (by omega), if_pos (by omega), h2, E, orC_pos _ _ (by omega)]; done) | (rw [if_neg (by omega), if_neg (by omega), if_pos (by omega), h2, hin, List.drop_length]; rfl) | (rw [if_neg (by omega), if_neg (by omega), if_neg (by omega), if_pos (by omega)]; done) | (rw [if_neg (by omega), if_neg (by omega), if_neg (by omega), if_neg (by omega)]; done))))), rfl⟩, trivial⟩

set_option maxHeartbeats 400000 in
theorem checkV_st (v : GV) (d : Int) (hd : 0 ≤ d ∧ d + v.wt ≤ 1000000000) (ihc : PCall Tryz.prog Γ0 78 [v.av, iv d] [iv (contentM d v)]) : PCall Tryz.prog Γ0 62 [v.av, iv d] [iv (checkV d v)] := by
  have ek := v.wt_eq
  refine pcall_of Tryz.func62 rfl Tryz.ntmps62 (by kernel_rfl) rfl fun w0 I0 G0 => ?_
  refine aw_seq ?_
  refine aw_region ?_
  refine g_uG (s_box_imm 1002 rfl rfl rfl rfl) rfl ?_
  refine g_u (s_as_imm rfl rfl) ?_
  refine g_nil ?_
  refine normal_thn ?_
  refine aw_seq ?_
  refine aw_block ?_
  refine aw_seq ?_
  refine aw_region ?_
  refine g_u (s_fieldAddr rfl rfl fa48_0 rfl) ?_
  refine g_u (s_load_imm rfl rfl rfl tA5 tS5 rfl rfl) ?_
  refine g_u (s_gtI rfl rfl rfl) ?_
  refine g_u (s_as_imm rfl rfl) ?_
  refine g_nil ?_
  refine normal_thn ?_
  refine aw_cond rfl (fun hb1 => ?_) (fun hb1 => ?_)
  · skip
    have h7 := of_decide_eq_true hb1
    refine aw_seq ?_
    refine aw_region ?_
    refine g_u (s_as_imm rfl rfl) ?_
    refine g_nil ?_
    refine normal_thn ?_
    refine aw_ret ?_
    refine ret_blk ?_
    refine ret_thn ?_
    exact ⟨⟨(rfl : toAV (Al.look _ _) = some _).trans (congrArg some (by (exact congrArg iv (by first | (exfalso; omega) | (rw [checkV_content (by omega) he (by omega)]; done) | (rw [checkV_eq, if_pos (by omega)]; done) | (rw [checkV_eq, if_neg (by omega), if_pos he]; done) | (rw [checkV_eq, if_neg (by omega), if_neg (by rw [he]; decide), if_pos (by omega)]; done))))), rfl⟩, trivial⟩
  · skip
    have h7 := of_decide_eq_false hb1
    refine aw_seq ?_
    refine aw_region ?_
    refine g_u (s_load_imm rfl rfl rfl tA48 tS48 rfl rfl) ?_
    refine g_u (s_call1 (more_c _) rfl rfl) ?_
    refine g_u (s_as_imm rfl rfl) ?_
    refine g_nil ?_
    refine normal_thn ?_
    refine aw_cond rfl (fun hb2 => ?_) (fun hb2 => ?_)
    · skip
      have he : emptyV v = false := by have e := hb2; simpa using e
      refine aw_seq ?_
      refine aw_region ?_
      refine g_u (s_as_imm rfl rfl) ?_
      refine g_nil ?_
      refine normal_thn ?_
      refine aw_ret ?_
      refine ret_blk ?_
      refine ret_thn ?_
      exact ⟨⟨(rfl : toAV (Al.look _ _) = some _).trans (congrArg some (by (exact congrArg iv (by first | (exfalso; omega) | (rw [checkV_content (by omega) he (by omega)]; done) | (rw [checkV_eq, if_pos (by omega)]; done) | (rw [checkV_eq, if_neg (by omega), if_pos he]; done) | (rw [checkV_eq, if_neg (by omega), if_neg (by rw [he]; decide), if_pos (by omega)]; done))))), rfl⟩, trivial⟩
    · skip
      have he : emptyV v = true := by have e := hb2; simpa using e
      refine aw_seq ?_
      refine aw_region ?_
      refine g_u (s_load_imm rfl rfl rfl tA48 tS48 rfl rfl) ?_
      refine g_u (s_call1 (holds_c _) rfl rfl) ?_
      refine g_u (s_mv_imm rfl rfl) ?_
      refine g_case (t := 15) rfl ?_
      rintro (hb3 | hb3)
      · rw [hb3]
        have q : v.kind = 6 ∨ v.kind = 7 := by have e := hb3; simpa using e
        refine g_run rfl rfl (s_mv_imm rfl rfl) ?_
        refine g_run rfl rfl (s_geI rfl rfl rfl) ?_
        refine g_u (s_pick_t rfl rfl rfl) ?_
        refine g_u (s_as_imm rfl rfl) ?_
        refine g_nil ?_
        refine normal_thn ?_
        refine aw_cond rfl (fun hb4 => ?_) (fun hb4 => ?_)
        · skip
          have q := of_decide_eq_true hb4
          refine aw_seq ?_
          refine aw_region ?_
          refine g_u (s_as_imm rfl rfl) ?_
          refine g_nil ?_
          refine normal_thn ?_
          refine aw_ret ?_
          refine ret_blk ?_
          refine ret_thn ?_
          exact ⟨⟨(rfl : toAV (Al.look _ _) = some _).trans (congrArg some (by (exact congrArg iv (by first | (exfalso; omega) | (rw [checkV_content (by omega) he (by omega)]; done) | (rw [checkV_eq, if_pos (by omega)]; done) | (rw [checkV_eq, if_neg (by omega), if_pos he]; done) | (rw [checkV_eq, if_neg (by omega), if_neg (by rw [he]; decide), if_pos (by omega)]; done))))), rfl⟩, trivial⟩
        · skip
          have q := of_decide_eq_false hb4
          refine aw_skip ?_
          refine normal_blk ?_
          refine normal_thn ?_
          refine aw_seq ?_
          refine aw_region ?_
          refine g_u (s_load_imm rfl rfl rfl tA48 tS48 rfl rfl) ?_
          refine g_u (s_mv_imm rfl rfl) ?_
          refine g_u (s_call1 (ihc) rfl rfl) ?_
          refine g_u (s_as_imm rfl rfl) ?_
          refine g_nil ?_
          refine normal_thn ?_
          refine aw_ret ?_
          exact ⟨⟨(rfl : toAV (Al.look _ _) = some _).trans (congrArg some (by (exact congrArg iv (by first | (exfalso; omega) | (rw [checkV_content (by omega) he (by omega)]; done) | (rw [checkV_eq, if_pos (by omega)]; done) | (rw [checkV_eq, if_neg (by omega), if_pos he]; done) | (rw [checkV_eq, if_neg (by omega), if_neg (by rw [he]; decide), if_pos (by omega)]; done))))), rfl⟩, trivial⟩
      · rw [hb3]
        have q : ¬ (v.kind = 6 ∨ v.kind = 7) := by have e := hb3; simpa using e
        refine g_skip rfl rfl rfl ?_
        refine g_skip rfl rfl rfl ?_
        refine g_u (s_pick_f rfl rfl rfl) ?_
        refine g_u (s_as_imm rfl rfl) ?_
        refine g_nil ?_
        refine normal_thn ?_
        refine aw_cond_false rfl ?_
        refine aw_skip ?_
        refine normal_blk ?_
        refine normal_thn ?_
        refine aw_seq ?_
        refine aw_region ?_
        refine g_u (s_load_imm rfl rfl rfl tA48 tS48 rfl rfl) ?_
        refine g_u (s_mv_imm rfl rfl) ?_
        refine g_u (s_call1 (ihc) rfl rfl) ?_
        refine g_u (s_as_imm rfl rfl) ?_
        refine g_nil ?_
        refine normal_thn ?_
        refine aw_ret ?_
        exact ⟨⟨(rfl : toAV (Al.look _ _) = some _).trans (congrArg some (by (exact congrArg iv (by first | (exfalso; omega) | (rw [checkV_content (by omega) he (by omega)]; done) | (rw [checkV_eq, if_pos (by omega)]; done) | (rw [checkV_eq, if_neg (by omega), if_pos he]; done) | (rw [checkV_eq, if_neg (by omega), if_neg (by rw [he]; decide), if_pos (by omega)]; done))))), rfl⟩, trivial⟩

set_option maxHeartbeats 2000000 in
theorem rempty_c (v : GV) : PCall Tryz.prog Γ0 84 [v.av] [bv (emptyV v)] := by
  refine pcall_of Tryz.func84 rfl Tryz.ntmps84 (by kernel_rfl) rfl fun w0 I0 G0 => ?_
  refine aw_seq ?_
  refine aw_region ?_
  refine g_uG (s_box_imm 1001 rfl rfl rfl rfl) rfl ?_
  refine g_u (s_as_imm rfl rfl) ?_
  refine g_nil ?_
  refine normal_thn ?_
  refine aw_seq ?_
  refine aw_cut' (fun _ : Unit => [(1, .ptr 1001 0), (1001, .box 48 (.imm v.av)), (3, .imm (bv (v.kind == 1 || v.kind == 5 || decide (v.text.size = 0))))]) (fun _ => True) ?_ ?_
  · skip
    refine aw_region ?_
    refine g_u (s_fieldAddr rfl rfl fa48_0 rfl) ?_
    refine g_u (s_load_imm rfl rfl rfl tA5 tS5 rfl rfl) ?_
    refine g_u (s_eqI rfl rfl rfl) ?_
    refine g_u (s_mv_imm rfl rfl) ?_
    refine g_case (t := 11) rfl ?_
    rintro (hb1 | hb1)
    · rw [hb1]
      refine g_skip rfl rfl rfl ?_
      refine g_skip rfl rfl rfl ?_
      refine g_skip rfl rfl rfl ?_
      refine g_u (s_pick_t rfl rfl rfl) ?_
      refine g_u (s_mv_imm rfl rfl) ?_
      refine g_skip rfl rfl rfl ?_
      refine g_skip rfl rfl rfl ?_
      refine g_skip rfl rfl rfl ?_
      refine g_u (s_pick_t rfl rfl rfl) ?_
      refine g_u (s_as_imm rfl rfl) ?_
      refine g_nil ?_
      refine normal_thn ?_
      exact ⟨(), trivial, ⟨rfl, rfl, look_bool rfl (by (try simp only [str_beq] at *); simp_all [size0, len_beq]), trivial⟩⟩
    · rw [hb1]
      refine g_run rfl rfl (s_fieldAddr rfl rfl fa48_0 rfl) ?_
      refine g_run rfl rfl (s_load_imm rfl rfl rfl tA5 tS5 rfl rfl) ?_
      refine g_run rfl rfl (s_eqI rfl rfl rfl) ?_
      refine g_u (s_pick_f rfl rfl rfl) ?_
      refine g_u (s_mv_imm rfl rfl) ?_
      refine g_case (t := 16) rfl ?_
      rintro (hb2 | hb2)
      · rw [hb2]
        refine g_skip rfl rfl rfl ?_
        refine g_skip rfl rfl rfl ?_
        refine g_skip rfl rfl rfl ?_
        refine g_u (s_pick_t rfl rfl rfl) ?_
        refine g_u (s_as_imm rfl rfl) ?_
        refine g_nil ?_
        refine normal_thn ?_
        exact ⟨(), trivial, ⟨rfl, rfl, look_bool rfl (by (try simp only [str_beq] at *); simp_all [size0, len_beq]), trivial⟩⟩
      · rw [hb2]
        refine g_run rfl rfl (s_fieldAddr rfl rfl fa48_1 rfl) ?_
        refine g_run rfl rfl (s_load_imm rfl rfl rfl tA9 tS9 rfl rfl) ?_
        refine g_run rfl rfl (s_eqS rfl rfl rfl) ?_
        refine g_u (s_pick_f rfl rfl rfl) ?_
        refine g_u (s_as_imm rfl rfl) ?_
        refine g_nil ?_
        refine normal_thn ?_
        exact ⟨(), trivial, ⟨rfl, rfl, look_bool rfl (by (try simp only [str_beq] at *); simp_all [size0, len_beq]), trivial⟩⟩
  · rintro _ _
    refine aw_seq ?_
    refine aw_cut' (fun _ : Unit => [(1, .ptr 1001 0), (1001, .box 48 (.imm v.av)), (3, .imm (bv (v.kind == 1 || v.kind == 5 || decide (v.text.size = 0)))), (4, .imm (bv (v.kind == 2 || v.kind == 3 || v.num == 0)))]) (fun _ => True) ?_ ?_
    · skip
      refine aw_region ?_
      refine g_u (s_fieldAddr rfl rfl fa48_0 rfl) ?_
      refine g_u (s_load_imm rfl rfl rfl tA5 tS5 rfl rfl) ?_
      refine g_u (s_eqI rfl rfl rfl) ?_
      refine g_u (s_mv_imm rfl rfl) ?_
      refine g_case (t := 24) rfl ?_
      rintro (hb3 | hb3)
      · rw [hb3]
        refine g_skip rfl rfl rfl ?_
        refine g_skip rfl rfl rfl ?_
        refine g_skip rfl rfl rfl ?_
        refine g_u (s_pick_t rfl rfl rfl) ?_
        refine g_u (s_mv_imm rfl rfl) ?_
        refine g_skip rfl rfl rfl ?_
        refine g_skip rfl rfl rfl ?_
        refine g_skip rfl rfl rfl ?_
        refine g_u (s_pick_t rfl rfl rfl) ?_
        refine g_u (s_as_imm rfl rfl) ?_
        refine g_nil ?_
        refine normal_thn ?_
        exact ⟨(), trivial, ⟨rfl, rfl, rfl, look_bool rfl (by (try simp only [str_beq] at *); simp_all [size0, len_beq]), trivial⟩⟩
      · rw [hb3]
        refine g_run rfl rfl (s_fieldAddr rfl rfl fa48_0 rfl) ?_
        refine g_run rfl rfl (s_load_imm rfl rfl rfl tA5 tS5 rfl rfl) ?_
        refine g_run rfl rfl (s_eqI rfl rfl rfl) ?_
        refine g_u (s_pick_f rfl rfl rfl) ?_
        refine g_u (s_mv_imm rfl rfl) ?_
        refine g_case (t := 29) rfl ?_
        rintro (hb4 | hb4)
        · rw [hb4]
          refine g_skip rfl rfl rfl ?_
          refine g_skip rfl rfl rfl ?_
          refine g_skip rfl rfl rfl ?_
          refine g_u (s_pick_t rfl rfl rfl) ?_
          refine g_u (s_as_imm rfl rfl) ?_
          refine g_nil ?_
          refine normal_thn ?_
          exact ⟨(), trivial, ⟨rfl, rfl, rfl, look_bool rfl (by (try simp only [str_beq] at *); simp_all [size0, len_beq]), trivial⟩⟩
        · rw [hb4]
          refine g_run rfl rfl (s_fieldAddr rfl rfl fa48_2 rfl) ?_
          refine g_run rfl rfl (s_load_imm rfl rfl rfl tA3 tS3 rfl rfl) ?_
          refine g_run rfl rfl (s_eqI rfl rfl rfl) ?_
          refine g_u (s_pick_f rfl rfl rfl) ?_
          refine g_u (s_as_imm rfl rfl) ?_
          refine g_nil ?_
          refine normal_thn ?_
          exact ⟨(), trivial, ⟨rfl, rfl, rfl, look_bool rfl (by (try simp only [str_beq] at *); simp_all [size0, len_beq]), trivial⟩⟩
    · rintro _ _
      refine aw_seq ?_
      refine aw_cut' (fun _ : Unit => [(1, .ptr 1001 0), (1001, .box 48 (.imm v.av)), (3, .imm (bv (v.kind == 1 || v.kind == 5 || decide (v.text.size = 0)))), (4, .imm (bv (v.kind == 2 || v.kind == 3 || v.num == 0))), (5, .imm (bv (v.kind == 4 || v.bits == 0)))]) (fun _ => True) ?_ ?_
      · skip
        refine aw_region ?_
        refine g_u (s_fieldAddr rfl rfl fa48_0 rfl) ?_
        refine g_u (s_load_imm rfl rfl rfl tA5 tS5 rfl rfl) ?_
        refine g_u (s_eqI rfl rfl rfl) ?_
        refine g_u (s_mv_imm rfl rfl) ?_
        refine g_case (t := 37) rfl ?_
        rintro (hb5 | hb5)
        · rw [hb5]
          refine g_skip rfl rfl rfl ?_
          refine g_skip rfl rfl rfl ?_
          refine g_skip rfl rfl rfl ?_
          refine g_u (s_pick_t rfl rfl rfl) ?_
          refine g_u (s_as_imm rfl rfl) ?_
          refine g_nil ?_
          refine normal_thn ?_
          exact ⟨(), trivial, ⟨rfl, rfl, rfl, rfl, look_bool rfl (by (try simp only [str_beq] at *); simp_all [size0, len_beq]), trivial⟩⟩
        · rw [hb5]
          refine g_run rfl rfl (s_fieldAddr rfl rfl fa48_3 rfl) ?_
          refine g_run rfl rfl (s_load_imm rfl rfl rfl tA26 tS26 rfl rfl) ?_
          refine g_run rfl rfl (s_eqI rfl rfl rfl) ?_
          refine g_u (s_pick_f rfl rfl rfl) ?_
          refine g_u (s_as_imm rfl rfl) ?_
          refine g_nil ?_
          refine normal_thn ?_
          exact ⟨(), trivial, ⟨rfl, rfl, rfl, rfl, look_bool rfl (by (try simp only [str_beq] at *); simp_all [size0, len_beq]), trivial⟩⟩
      · rintro _ _
        refine aw_seq ?_
        refine aw_cut' (fun _ : Unit => [(1, .ptr 1001 0), (1001, .box 48 (.imm v.av)), (3, .imm (bv (v.kind == 1 || v.kind == 5 || decide (v.text.size = 0)))), (4, .imm (bv (v.kind == 2 || v.kind == 3 || v.num == 0))), (5, .imm (bv (v.kind == 4 || v.bits == 0))), (6, .imm (bv (v.kind == 6 || v.list.isEmpty)))]) (fun _ => True) ?_ ?_
        · skip
          refine aw_region ?_
          refine g_u (s_fieldAddr rfl rfl fa48_0 rfl) ?_
          refine g_u (s_load_imm rfl rfl rfl tA5 tS5 rfl rfl) ?_
          refine g_u (s_eqI rfl rfl rfl) ?_
          refine g_u (s_mv_imm rfl rfl) ?_
          refine g_case (t := 45) rfl ?_
          rintro (hb6 | hb6)
          · rw [hb6]
            refine g_skip rfl rfl rfl ?_
            refine g_skip rfl rfl rfl ?_
            refine g_skip rfl rfl rfl ?_
            refine g_skip rfl rfl rfl ?_
            refine g_u (s_pick_t rfl rfl rfl) ?_
            refine g_u (s_as_imm rfl rfl) ?_
            refine g_nil ?_
            refine normal_thn ?_
            exact ⟨(), trivial, ⟨rfl, rfl, rfl, rfl, rfl, look_bool rfl (by (try simp only [str_beq] at *); simp_all [size0, len_beq]), trivial⟩⟩
          · rw [hb6]
            refine g_run rfl rfl (s_fieldAddr rfl rfl fa48_4 rfl) ?_
            refine g_run rfl rfl (s_load_imm rfl rfl rfl tA46 tS46 rfl rfl) ?_
            refine g_run rfl rfl (s_lenL rfl rfl Tryz.underlying46) ?_
            refine g_run rfl rfl (s_eqI rfl rfl rfl) ?_
            refine g_u (s_pick_f rfl rfl rfl) ?_
            refine g_u (s_as_imm rfl rfl) ?_
            refine g_nil ?_
            refine normal_thn ?_
            exact ⟨(), trivial, ⟨rfl, rfl, rfl, rfl, rfl, look_bool rfl (by (try simp only [str_beq] at *); simp_all [size0, len_beq]), trivial⟩⟩
        · rintro _ _
          refine aw_seq ?_
          refine aw_cut' (fun _ : Unit => [(1, .ptr 1001 0), (1001, .box 48 (.imm v.av)), (3, .imm (bv (v.kind == 1 || v.kind == 5 || decide (v.text.size = 0)))), (4, .imm (bv (v.kind == 2 || v.kind == 3 || v.num == 0))), (5, .imm (bv (v.kind == 4 || v.bits == 0))), (6, .imm (bv (v.kind == 6 || v.list.isEmpty))), (7, .imm (bv (v.kind == 7 || v.map.isEmpty)))]) (fun _ => True) ?_ ?_
          · skip
            refine aw_region ?_
            refine g_u (s_fieldAddr rfl rfl fa48_0 rfl) ?_
            refine g_u (s_load_imm rfl rfl rfl tA5 tS5 rfl rfl) ?_
            refine g_u (s_eqI rfl rfl rfl) ?_
            refine g_u (s_mv_imm rfl rfl) ?_
            refine g_case (t := 54) rfl ?_
            rintro (hb7 | hb7)
            · rw [hb7]
              refine g_skip rfl rfl rfl ?_
              refine g_skip rfl rfl rfl ?_
              refine g_skip rfl rfl rfl ?_
              refine g_skip rfl rfl rfl ?_
              refine g_u (s_pick_t rfl rfl rfl) ?_
              refine g_u (s_as_imm rfl rfl) ?_
              refine g_nil ?_
              refine normal_thn ?_
              exact ⟨(), trivial, ⟨rfl, rfl, rfl, rfl, rfl, rfl, look_bool rfl (by (try simp only [str_beq] at *); simp_all [size0, len_beq]), trivial⟩⟩
            · rw [hb7]
              refine g_run rfl rfl (s_fieldAddr rfl rfl fa48_5 rfl) ?_
              refine g_run rfl rfl (s_load_imm rfl rfl rfl tA27 tS27 rfl rfl) ?_
              refine g_run rfl rfl (s_lenL rfl rfl Tryz.underlying27) ?_
              refine g_run rfl rfl (s_eqI rfl rfl rfl) ?_
              refine g_u (s_pick_f rfl rfl rfl) ?_
              refine g_u (s_as_imm rfl rfl) ?_
              refine g_nil ?_
              refine normal_thn ?_
              exact ⟨(), trivial, ⟨rfl, rfl, rfl, rfl, rfl, rfl, look_bool rfl (by (try simp only [str_beq] at *); simp_all [size0, len_beq]), trivial⟩⟩
          · rintro _ _
            refine aw_seq ?_
            refine aw_region ?_
            refine g_u (s_mv_imm rfl rfl) ?_
            refine g_u (s_mv_imm rfl rfl) ?_
            refine g_case (t := 61) rfl ?_
            rintro (hb8 | hb8)
            · rw [hb8]
              refine g_run rfl rfl (s_mv_imm rfl rfl) ?_
              refine g_u (s_pick_t rfl rfl rfl) ?_
              refine g_u (s_mv_imm rfl rfl) ?_
              refine g_case (t := 64) rfl ?_
              rintro (hb9 | hb9)
              · rw [hb9]
                refine g_run rfl rfl (s_mv_imm rfl rfl) ?_
                refine g_u (s_pick_t rfl rfl rfl) ?_
                refine g_u (s_mv_imm rfl rfl) ?_
                refine g_case (t := 67) rfl ?_
                rintro (hb10 | hb10)
                · rw [hb10]
                  refine g_run rfl rfl (s_mv_imm rfl rfl) ?_
                  refine g_u (s_pick_t rfl rfl rfl) ?_
                  refine g_u (s_mv_imm rfl rfl) ?_
                  refine g_case (t := 70) rfl ?_
                  rintro (hb11 | hb11)
                  · rw [hb11]
                    refine g_run rfl rfl (s_mv_imm rfl rfl) ?_
                    refine g_u (s_pick_t rfl rfl rfl) ?_
                    refine g_u (s_as_imm rfl rfl) ?_
                    refine g_nil ?_
                    refine normal_thn ?_
                    refine aw_ret ?_
                    exact ⟨⟨(rfl : toAV (Al.look _ _) = some _).trans (congrArg some (by (exact congrArg bv (by unfold emptyV; simp_all)))), rfl⟩, trivial⟩
                  · rw [hb11]
                    refine g_skip rfl rfl rfl ?_
                    refine g_u (s_pick_f rfl rfl rfl) ?_
                    refine g_u (s_as_imm rfl rfl) ?_
                    refine g_nil ?_
                    refine normal_thn ?_
                    refine aw_ret ?_
                    exact ⟨⟨(rfl : toAV (Al.look _ _) = some _).trans (congrArg some (by (exact congrArg bv (by unfold emptyV; simp_all)))), rfl⟩, trivial⟩
                · rw [hb10]
                  refine g_skip rfl rfl rfl ?_
                  refine g_u (s_pick_f rfl rfl rfl) ?_
                  refine g_u (s_mv_imm rfl rfl) ?_
                  refine g_skip rfl rfl rfl ?_
                  refine g_u (s_pick_f rfl rfl rfl) ?_
                  refine g_u (s_as_imm rfl rfl) ?_
                  refine g_nil ?_
                  refine normal_thn ?_
                  refine aw_ret ?_
                  exact ⟨⟨(rfl : toAV (Al.look _ _) = some _).trans (congrArg some (by (exact congrArg bv (by unfold emptyV; simp_all)))), rfl⟩, trivial⟩
              · rw [hb9]
                refine g_skip rfl rfl rfl ?_
                refine g_u (s_pick_f rfl rfl rfl) ?_
                refine g_u (s_mv_imm rfl rfl) ?_
                refine g_skip rfl rfl rfl ?_
                refine g_u (s_pick_f rfl rfl rfl) ?_
                refine g_u (s_mv_imm rfl rfl) ?_
                refine g_skip rfl rfl rfl ?_
                refine g_u (s_pick_f rfl rfl rfl) ?_
                refine g_u (s_as_imm rfl rfl) ?_
                refine g_nil ?_
                refine normal_thn ?_
                refine aw_ret ?_
                exact ⟨⟨(rfl : toAV (Al.look _ _) = some _).trans (congrArg some (by (exact congrArg bv (by unfold emptyV; simp_all)))), rfl⟩, trivial⟩
            · rw [hb8]
              refine g_skip rfl rfl rfl ?_
              refine g_u (s_pick_f rfl rfl rfl) ?_
              refine g_u (s_mv_imm rfl rfl) ?_
              refine g_skip rfl rfl rfl ?_
              refine g_u (s_pick_f rfl rfl rfl) ?_
              refine g_u (s_mv_imm rfl rfl) ?_
              refine g_skip rfl rfl rfl ?_
              refine g_u (s_pick_f rfl rfl rfl) ?_
              refine g_u (s_mv_imm rfl rfl) ?_
              refine g_skip rfl rfl rfl ?_
              refine g_u (s_pick_f rfl rfl rfl) ?_
              refine g_u (s_as_imm rfl rfl) ?_
              refine g_nil ?_
              refine normal_thn ?_
              refine aw_ret ?_
              exact ⟨⟨(rfl : toAV (Al.look _ _) = some _).trans (congrArg some (by (exact congrArg bv (by unfold emptyV; simp_all)))), rfl⟩, trivial⟩

set_option maxHeartbeats 2000000 in
theorem rcheckV_st (v : GV) (d : Int) (hd : 0 ≤ d ∧ d + v.wt ≤ 1000000000) (ih : ∀ y ∈ v.list, ∀ d : Int, 0 ≤ d ∧ d + y.wt ≤ 1000000000 → PCall Tryz.prog Γ0 66 [y.av, iv d] [iv (checkV d y)]) (ihm : ∀ d : Int, 0 ≤ d ∧ d + wtAs v.map ≤ 1000000000 → PCall Tryz.prog Γ0 52 [.sl 7 (v.map.map avA), iv d] [iv (entC d none v.map)]) : PCall Tryz.prog Γ0 66 [v.av, iv d] [iv (checkV d v)] := by
  have ek := v.wt_eq
  have e1 : IntKind.i64.wrap (d + 1) = d + 1 := wrap64 (by omega) (by omega)
  have lv := len_wtVs v.list
  have cr := check_range v.text
  have ce := check_eq v.text
  refine pcall_of Tryz.func66 rfl Tryz.ntmps66 (by kernel_rfl) rfl fun w0 I0 G0 => ?_
  refine aw_seq ?_
  refine aw_region ?_
  refine g_uG (s_box_imm 1002 rfl rfl rfl rfl) rfl ?_
  refine g_u (s_as_imm rfl rfl) ?_
  refine g_nil ?_
  refine normal_thn ?_
  refine aw_seq ?_
  refine aw_cut' (fun _ : Unit => [(2, .ptr 1002 0), (1002, .box 48 (.imm v.av)), (1, .imm (iv d))]) (fun _ => ¬ 7 < v.kind) ?_ ?_
  · skip
    refine aw_seq ?_
    refine aw_region ?_
    refine g_u (s_fieldAddr rfl rfl fa48_0 rfl) ?_
    refine g_u (s_load_imm rfl rfl rfl tA5 tS5 rfl rfl) ?_
    refine g_u (s_gtI rfl rfl rfl) ?_
    refine g_nil ?_
    refine normal_thn ?_
    refine aw_cond rfl (fun hb1 => ?_) (fun hb1 => ?_)
    · skip
      have q := of_decide_eq_true hb1
      refine aw_seq ?_
      refine aw_region ?_
      refine g_u (s_as_imm rfl rfl) ?_
      refine g_nil ?_
      refine normal_thn ?_
      refine aw_ret ?_
      refine ret_thn ?_
      exact ⟨⟨(rfl : toAV (Al.look _ _) = some _).trans (congrArg some (by (exact congrArg iv (by first | (rw [checkV_eq, if_pos (by omega)]; done) | (rw [checkV_eq, if_neg (by omega), if_pos he]; done) | (rw [checkV_eq, if_neg (by omega), if_neg (by rw [hc.2]; decide), if_pos (by omega)]; done) | (rw [checkV_eq, if_neg (by omega), if_neg (by rw [hc.2.1]; decide), if_neg (by omega), if_pos (by omega)]; done) | (rw [checkV_eq, if_neg (by omega), if_neg (by rw [hc.2.1]; decide), if_neg (by omega), if_neg (by omega), if_pos (by omega)]; done) | (rw [h2, E, orC_pos _ _ (by rw [orC_pos _ _ (by omega)]; omega), orC_pos _ _ (by omega)]; done) | (rw [h2, E, orC_pos (checkV (d + 1) _) _ (by omega), orC_pos _ _ (by omega)]; done) | (rw [h2, hin, List.drop_length]; exact (orC_zero _ _ rfl).symm))))), rfl⟩, trivial⟩
    · skip
      have q := of_decide_eq_false hb1
      refine aw_skip ?_
      refine normal_thn ?_
      exact ⟨(), by (try dsimp only); omega, ⟨rfl, rfl, rfl, trivial⟩⟩
  · rintro _ hc
    refine aw_seq ?_
    refine aw_cut' (fun _ : Unit => [(2, .ptr 1002 0), (1002, .box 48 (.imm v.av)), (1, .imm (iv d))]) (fun _ => ¬ 7 < v.kind ∧ emptyV v = true) ?_ ?_
    · skip
      refine aw_seq ?_
      refine aw_region ?_
      refine g_u (s_load_imm rfl rfl rfl tA48 tS48 rfl rfl) ?_
      refine g_u (s_call1 (rempty_c _) rfl rfl) ?_
      refine g_u (s_not rfl rfl) ?_
      refine g_nil ?_
      refine normal_thn ?_
      refine aw_cond rfl (fun hb2 => ?_) (fun hb2 => ?_)
      · skip
        have he : emptyV v = false := by have e := hb2; simpa using e
        refine aw_seq ?_
        refine aw_region ?_
        refine g_u (s_as_imm rfl rfl) ?_
        refine g_nil ?_
        refine normal_thn ?_
        refine aw_ret ?_
        refine ret_thn ?_
        exact ⟨⟨(rfl : toAV (Al.look _ _) = some _).trans (congrArg some (by (exact congrArg iv (by first | (rw [checkV_eq, if_pos (by omega)]; done) | (rw [checkV_eq, if_neg (by omega), if_pos he]; done) | (rw [checkV_eq, if_neg (by omega), if_neg (by rw [hc.2]; decide), if_pos (by omega)]; done) | (rw [checkV_eq, if_neg (by omega), if_neg (by rw [hc.2.1]; decide), if_neg (by omega), if_pos (by omega)]; done) | (rw [checkV_eq, if_neg (by omega), if_neg (by rw [hc.2.1]; decide), if_neg (by omega), if_neg (by omega), if_pos (by omega)]; done) | (rw [h2, E, orC_pos _ _ (by rw [orC_pos _ _ (by omega)]; omega), orC_pos _ _ (by omega)]; done) | (rw [h2, E, orC_pos (checkV (d + 1) _) _ (by omega), orC_pos _ _ (by omega)]; done) | (rw [h2, hin, List.drop_length]; exact (orC_zero _ _ rfl).symm))))), rfl⟩, trivial⟩
      · skip
        have he : emptyV v = true := by have e := hb2; simpa using e
        refine aw_skip ?_
        refine normal_thn ?_
        exact ⟨(), by (try dsimp only); exact ⟨hc, he⟩, ⟨rfl, rfl, rfl, trivial⟩⟩
    · rintro _ hc
      refine aw_seq ?_
      refine aw_cut' (fun _ : Unit => [(2, .ptr 1002 0), (1002, .box 48 (.imm v.av)), (1, .imm (iv d))]) (fun _ => ¬ 7 < v.kind ∧ emptyV v = true ∧ ¬ (6 ≤ v.kind ∧ 16 ≤ d)) ?_ ?_
      · skip
        refine aw_seq ?_
        refine aw_region ?_
        refine g_u (s_fieldAddr rfl rfl fa48_0 rfl) ?_
        refine g_u (s_load_imm rfl rfl rfl tA5 tS5 rfl rfl) ?_
        refine g_u (s_geI rfl rfl rfl) ?_
        refine g_u (s_mv_imm rfl rfl) ?_
        refine g_case (t := 16) rfl ?_
        rintro (hb3 | hb3)
        · rw [hb3]
          have q := of_decide_eq_true hb3
          refine g_run rfl rfl (s_mv_imm rfl rfl) ?_
          refine g_run rfl rfl (s_geI rfl rfl rfl) ?_
          refine g_u (s_pick_t rfl rfl rfl) ?_
          refine g_nil ?_
          refine normal_thn ?_
          refine aw_cond rfl (fun hb4 => ?_) (fun hb4 => ?_)
          · skip
            have q := of_decide_eq_true hb4
            refine aw_seq ?_
            refine aw_region ?_
            refine g_u (s_as_imm rfl rfl) ?_
            refine g_nil ?_
            refine normal_thn ?_
            refine aw_ret ?_
            refine ret_thn ?_
            exact ⟨⟨(rfl : toAV (Al.look _ _) = some _).trans (congrArg some (by (exact congrArg iv (by first | (rw [checkV_eq, if_pos (by omega)]; done) | (rw [checkV_eq, if_neg (by omega), if_pos he]; done) | (rw [checkV_eq, if_neg (by omega), if_neg (by rw [hc.2]; decide), if_pos (by omega)]; done) | (rw [checkV_eq, if_neg (by omega), if_neg (by rw [hc.2.1]; decide), if_neg (by omega), if_pos (by omega)]; done) | (rw [checkV_eq, if_neg (by omega), if_neg (by rw [hc.2.1]; decide), if_neg (by omega), if_neg (by omega), if_pos (by omega)]; done) | (rw [h2, E, orC_pos _ _ (by rw [orC_pos _ _ (by omega)]; omega), orC_pos _ _ (by omega)]; done) | (rw [h2, E, orC_pos (checkV (d + 1) _) _ (by omega), orC_pos _ _ (by omega)]; done) | (rw [h2, hin, List.drop_length]; exact (orC_zero _ _ rfl).symm))))), rfl⟩, trivial⟩
          · skip
            have q := of_decide_eq_false hb4
            refine aw_skip ?_
            refine normal_thn ?_
            exact ⟨(), by (try dsimp only); exact ⟨hc.1, hc.2, by omega⟩, ⟨rfl, rfl, rfl, trivial⟩⟩
        · rw [hb3]
          have q := of_decide_eq_false hb3
          refine g_skip rfl rfl rfl ?_
          refine g_skip rfl rfl rfl ?_
          refine g_u (s_pick_f rfl rfl rfl) ?_
          refine g_nil ?_
          refine normal_thn ?_
          refine aw_cond_false rfl ?_
          refine aw_skip ?_
          refine normal_thn ?_
          exact ⟨(), by (try dsimp only); exact ⟨hc.1, hc.2, by omega⟩, ⟨rfl, rfl, rfl, trivial⟩⟩
      · rintro _ hc
        refine aw_seq ?_
        refine aw_cut' (fun _ : Unit => [(2, .ptr 1002 0), (1002, .box 48 (.imm v.av)), (1, .imm (iv d))]) (fun _ => ¬ 7 < v.kind ∧ emptyV v = true ∧ ¬ (6 ≤ v.kind ∧ 16 ≤ d) ∧ ¬ (v.kind = 1 ∧ checkM v.text ≠ -1)) ?_ ?_
        · skip
          refine aw_seq ?_
          refine aw_region ?_
          refine g_u (s_fieldAddr rfl rfl fa48_0 rfl) ?_
          refine g_u (s_load_imm rfl rfl rfl tA5 tS5 rfl rfl) ?_
          refine g_u (s_eqI rfl rfl rfl) ?_
          refine g_u (s_mv_imm rfl rfl) ?_
          refine g_case (t := 23) rfl ?_
          rintro (hb5 | hb5)
          · rw [hb5]
            have q := beq_iff_eq.1 hb5
            refine g_run rfl rfl (s_fieldAddr rfl rfl fa48_1 rfl) ?_
            refine g_run rfl rfl (s_load_imm rfl rfl rfl tA9 tS9 rfl rfl) ?_
            refine g_run rfl rfl (s_call1 (rcheck_c _ (by omega)) rfl rfl) ?_
            refine g_run rfl rfl (s_neI rfl rfl rfl) ?_
            refine g_u (s_pick_t rfl rfl rfl) ?_
            refine g_nil ?_
            refine normal_thn ?_
            refine aw_cond rfl (fun hb6 => ?_) (fun hb6 => ?_)
            · skip
              have q := bne_iff_ne.1 hb6
              refine aw_seq ?_
              refine aw_region ?_
              refine g_u (s_as_imm rfl rfl) ?_
              refine g_nil ?_
              refine normal_thn ?_
              refine aw_ret ?_
              refine ret_thn ?_
              exact ⟨⟨(rfl : toAV (Al.look _ _) = some _).trans (congrArg some (by (exact congrArg iv (by first | (rw [checkV_eq, if_pos (by omega)]; done) | (rw [checkV_eq, if_neg (by omega), if_pos he]; done) | (rw [checkV_eq, if_neg (by omega), if_neg (by rw [hc.2]; decide), if_pos (by omega)]; done) | (rw [checkV_eq, if_neg (by omega), if_neg (by rw [hc.2.1]; decide), if_neg (by omega), if_pos (by omega)]; done) | (rw [checkV_eq, if_neg (by omega), if_neg (by rw [hc.2.1]; decide), if_neg (by omega), if_neg (by omega), if_pos (by omega)]; done) | (rw [h2, E, orC_pos _ _ (by rw [orC_pos _ _ (by omega)]; omega), orC_pos _ _ (by omega)]; done) | (rw [h2, E, orC_pos (checkV (d + 1) _) _ (by omega), orC_pos _ _ (by omega)]; done) | (rw [h2, hin, List.drop_length]; exact (orC_zero _ _ rfl).symm))))), rfl⟩, trivial⟩
            · skip
              have q := bne_eq_false_iff_eq.1 hb6
              refine aw_skip ?_
              refine normal_thn ?_
              exact ⟨(), by (try dsimp only); exact ⟨hc.1, hc.2.1, hc.2.2, by omega⟩, ⟨rfl, rfl, rfl, trivial⟩⟩
          · rw [hb5]
            have q := beq_eq_false_iff_ne.1 hb5
            refine g_skip rfl rfl rfl ?_
            refine g_skip rfl rfl rfl ?_
            refine g_skip rfl rfl rfl ?_
            refine g_skip rfl rfl rfl ?_
            refine g_u (s_pick_f rfl rfl rfl) ?_
            refine g_nil ?_
            refine normal_thn ?_
            refine aw_cond_false rfl ?_
            refine aw_skip ?_
            refine normal_thn ?_
            exact ⟨(), by (try dsimp only); exact ⟨hc.1, hc.2.1, hc.2.2, by omega⟩, ⟨rfl, rfl, rfl, trivial⟩⟩
        · rintro _ hc
          refine aw_seq ?_
          refine aw_cut' (fun _ : Unit => [(2, .ptr 1002 0), (1002, .box 48 (.imm v.av)), (1, .imm (iv d))]) (fun _ => checkV d v = orC (checkVs (d + 1) v.list) (entC (d + 1) none v.map)) ?_ ?_
          · skip
            refine aw_seq ?_
            refine aw_region ?_
            refine g_u (s_fieldAddr rfl rfl fa48_0 rfl) ?_
            refine g_u (s_load_imm rfl rfl rfl tA5 tS5 rfl rfl) ?_
            refine g_u (s_eqI rfl rfl rfl) ?_
            refine g_u (s_mv_imm rfl rfl) ?_
            refine g_case (t := 32) rfl ?_
            rintro (hb7 | hb7)
            · rw [hb7]
              have q := beq_iff_eq.1 hb7
              refine g_run rfl rfl (s_fieldAddr rfl rfl fa48_2 rfl) ?_
              refine g_run rfl rfl (s_load_imm rfl rfl rfl tA3 tS3 rfl rfl) ?_
              refine g_run rfl rfl (s_ltI rfl rfl rfl) ?_
              refine g_run rfl rfl (s_mv_imm rfl rfl) ?_
              refine g_case (t := 36) rfl ?_
              rintro (hb8 | hb8)
              · rw [hb8]
                have q := of_decide_eq_true hb8
                refine g_skip rfl rfl rfl ?_
                refine g_skip rfl rfl rfl ?_
                refine g_skip rfl rfl rfl ?_
                refine g_run rfl rfl (s_pick_t rfl rfl rfl) ?_
                refine g_u (s_pick_t rfl rfl rfl) ?_
                refine g_nil ?_
                refine normal_thn ?_
                refine aw_cond_true rfl ?_
                refine aw_seq ?_
                refine aw_region ?_
                refine g_u (s_as_imm rfl rfl) ?_
                refine g_nil ?_
                refine normal_thn ?_
                refine aw_ret ?_
                refine ret_thn ?_
                exact ⟨⟨(rfl : toAV (Al.look _ _) = some _).trans (congrArg some (by (exact congrArg iv (by first | (rw [checkV_eq, if_pos (by omega)]; done) | (rw [checkV_eq, if_neg (by omega), if_pos he]; done) | (rw [checkV_eq, if_neg (by omega), if_neg (by rw [hc.2]; decide), if_pos (by omega)]; done) | (rw [checkV_eq, if_neg (by omega), if_neg (by rw [hc.2.1]; decide), if_neg (by omega), if_pos (by omega)]; done) | (rw [checkV_eq, if_neg (by omega), if_neg (by rw [hc.2.1]; decide), if_neg (by omega), if_neg (by omega), if_pos (by omega)]; done) | (rw [h2, E, orC_pos _ _ (by rw [orC_pos _ _ (by omega)]; omega), orC_pos _ _ (by omega)]; done) | (rw [h2, E, orC_pos (checkV (d + 1) _) _ (by omega), orC_pos _ _ (by omega)]; done) | (rw [h2, hin, List.drop_length]; exact (orC_zero _ _ rfl).symm))))), rfl⟩, trivial⟩
              · rw [hb8]
                have q := of_decide_eq_false hb8
                refine g_run rfl rfl (s_fieldAddr rfl rfl fa48_2 rfl) ?_
                refine g_run rfl rfl (s_load_imm rfl rfl rfl tA3 tS3 rfl rfl) ?_
                refine g_run rfl rfl (s_gtI rfl rfl rfl) ?_
                refine g_run rfl rfl (s_pick_f rfl rfl rfl) ?_
                refine g_u (s_pick_t rfl rfl rfl) ?_
                refine g_nil ?_
                refine normal_thn ?_
                refine aw_cond rfl (fun hb9 => ?_) (fun hb9 => ?_)
                · skip
                  have q := of_decide_eq_true hb9
                  refine aw_seq ?_
                  refine aw_region ?_
                  refine g_u (s_as_imm rfl rfl) ?_
                  refine g_nil ?_
                  refine normal_thn ?_
                  refine aw_ret ?_
                  refine ret_thn ?_
                  exact ⟨⟨(rfl : toAV (Al.look _ _) = some _).trans (congrArg some (by (exact congrArg iv (by first | (rw [checkV_eq, if_pos (by omega)]; done) | (rw [checkV_eq, if_neg (by omega), if_pos he]; done) | (rw [checkV_eq, if_neg (by omega), if_neg (by rw [hc.2]; decide), if_pos (by omega)]; done) | (rw [checkV_eq, if_neg (by omega), if_neg (by rw [hc.2.1]; decide), if_neg (by omega), if_pos (by omega)]; done) | (rw [checkV_eq, if_neg (by omega), if_neg (by rw [hc.2.1]; decide), if_neg (by omega), if_neg (by omega), if_pos (by omega)]; done) | (rw [h2, E, orC_pos _ _ (by rw [orC_pos _ _ (by omega)]; omega), orC_pos _ _ (by omega)]; done) | (rw [h2, E, orC_pos (checkV (d + 1) _) _ (by omega), orC_pos _ _ (by omega)]; done) | (rw [h2, hin, List.drop_length]; exact (orC_zero _ _ rfl).symm))))), rfl⟩, trivial⟩
                · skip
                  have q := of_decide_eq_false hb9
                  refine aw_skip ?_
                  refine normal_thn ?_
                  exact ⟨(), by (try dsimp only); (rw [checkV_eq, if_neg hc.1, if_neg (by rw [hc.2.1]; decide), if_neg hc.2.2.1, if_neg hc.2.2.2, if_neg (by omega)]), ⟨rfl, rfl, rfl, trivial⟩⟩
            · rw [hb7]
              have q := beq_eq_false_iff_ne.1 hb7
              refine g_skip rfl rfl rfl ?_
              refine g_skip rfl rfl rfl ?_
              refine g_skip rfl rfl rfl ?_
              refine g_skip rfl rfl rfl ?_
              refine g_skip' rfl rfl rfl ?_
              refine g_skip' rfl rfl rfl ?_
              refine g_skip' rfl rfl rfl ?_
              refine g_skip rfl rfl rfl ?_
              refine g_u (s_pick_f rfl rfl rfl) ?_
              refine g_nil ?_
              refine normal_thn ?_
              refine aw_cond_false rfl ?_
              refine aw_skip ?_
              refine normal_thn ?_
              exact ⟨(), by (try dsimp only); (rw [checkV_eq, if_neg hc.1, if_neg (by rw [hc.2.1]; decide), if_neg hc.2.2.1, if_neg hc.2.2.2, if_neg (by omega)]), ⟨rfl, rfl, rfl, trivial⟩⟩
          · rintro _ hc
            refine aw_seq ?_
            refine aw_seq ?_
            refine aw_region ?_
            refine g_u (s_as_imm rfl rfl) ?_
            refine g_nil ?_
            refine normal_thn ?_
            refine aw_block ?_
            refine aw_loop' (fun i : Nat => [(2, .ptr 1002 0), (1002, .box 48 (.imm v.av)), (1, .imm (iv d)), (5, .imm (iv (i : Int)))]) (fun i => i ≤ v.list.length ∧ checkV d v = orC (checkVs (d + 1) (v.list.drop i)) (entC (d + 1) none v.map)) (fun i => v.list.length - i) (0) ?_ ⟨rfl, rfl, rfl, rfl, trivial⟩ ?_
            · exact ⟨Nat.zero_le _, hc⟩
            · rintro i ⟨h1, h2⟩; (try dsimp only at h1 h2)
              refine aw_seq ?_
              refine aw_seq ?_
              refine aw_region ?_
              refine g_u (s_mv_imm rfl rfl) ?_
              refine g_u (s_fieldAddr rfl rfl fa48_4 rfl) ?_
              refine g_u (s_load_imm rfl rfl rfl tA46 tS46 rfl rfl) ?_
              refine g_u (s_lenL rfl rfl Tryz.underlying46) ?_
              refine g_u (s_ltI rfl rfl rfl) ?_
              refine g_nil ?_
              refine normal_thn ?_
              refine aw_cond rfl (fun hb10 => ?_) (fun hb10 => ?_)
              · skip
                have hi : i < v.list.length := by have := of_decide_eq_true hb10; (try simp only [List.length_map] at this); omega
                have hw1 := wtVs_mem (nthV_mem hi)
                have E := checkVs_drop (d + 1) hi
                refine aw_skip ?_
                refine normal_thn ?_
                refine aw_seq ?_
                refine aw_block ?_
                refine aw_seq ?_
                refine aw_region ?_
                refine g_u (s_fieldAddr rfl rfl fa48_4 rfl) ?_
                refine g_u (s_load_imm rfl rfl rfl tA46 tS46 rfl rfl) ?_
                refine g_u (s_mv_imm rfl rfl) ?_
                refine g_u (s_indexAddr rfl rfl rfl Tryz.underlying46 tS48 (by omega) (ixV hi)) ?_
                refine g_u (s_load_cp rfl rfl tA48 tS48 rfl rfl) ?_
                refine g_u (s_mv_imm rfl rfl) ?_
                refine g_u (s_add rfl rfl rfl) ?_
                refine g_u (s_call1 ((show PCall Tryz.prog Γ0 66 [(nthV v.list i).av, iv (IntKind.i64.wrap (d + 1))] [iv (checkV (d + 1) (nthV v.list i))] from by rw [e1]; exact ih _ (nthV_mem hi) _ ⟨by omega, by omega⟩)) rfl rfl) ?_
                refine g_u (s_as_imm rfl rfl) ?_
                refine g_nil ?_
                refine normal_thn ?_
                refine aw_seq ?_
                refine aw_region ?_
                refine g_u (s_mv_imm rfl rfl) ?_
                refine g_u (s_neI rfl rfl rfl) ?_
                refine g_nil ?_
                refine normal_thn ?_
                refine aw_cond rfl (fun hb11 => ?_) (fun hb11 => ?_)
                · skip
                  have q := bne_iff_ne.1 hb11
                  refine aw_seq ?_
                  refine aw_region ?_
                  refine g_u (s_mv_imm rfl rfl) ?_
                  refine g_u (s_as_imm rfl rfl) ?_
                  refine g_nil ?_
                  refine normal_thn ?_
                  refine aw_ret ?_
                  refine ret_blk ?_
                  refine ret_thn ?_
                  refine ret_thn ?_
                  refine ret_blk ?_
                  refine ret_thn ?_
                  exact ⟨⟨(rfl : toAV (Al.look _ _) = some _).trans (congrArg some (by (exact congrArg iv (by first | (rw [checkV_eq, if_pos (by omega)]; done) | (rw [checkV_eq, if_neg (by omega), if_pos he]; done) | (rw [checkV_eq, if_neg (by omega), if_neg (by rw [hc.2]; decide), if_pos (by omega)]; done) | (rw [checkV_eq, if_neg (by omega), if_neg (by rw [hc.2.1]; decide), if_neg (by omega), if_pos (by omega)]; done) | (rw [checkV_eq, if_neg (by omega), if_neg (by rw [hc.2.1]; decide), if_neg (by omega), if_neg (by omega), if_pos (by omega)]; done) | (rw [h2, E, orC_pos _ _ (by rw [orC_pos _ _ (by omega)]; omega), orC_pos _ _ (by omega)]; done) | (rw [h2, E, orC_pos (checkV (d + 1) _) _ (by omega), orC_pos _ _ (by omega)]; done) | (rw [h2, hin, List.drop_length]; exact (orC_zero _ _ rfl).symm))))), rfl⟩, trivial⟩
                · skip
                  have q := bne_eq_false_iff_eq.1 hb11
                  refine aw_skip ?_
                  refine normal_blk ?_
                  refine normal_thn ?_
                  refine aw_region ?_
                  refine g_u (s_mv_imm rfl rfl) ?_
                  refine g_u (s_add rfl rfl rfl) ?_
                  refine g_u (s_as_imm rfl rfl) ?_
                  refine g_nil ?_
                  refine normal_thn ?_
                  refine ⟨i + 1, ⟨hi, by (try dsimp only); rw [h2, E, orC_zero (checkV (d + 1) _) _ (by omega)]⟩, ⟨rfl, rfl, rfl, look_int rfl (by rw [wrap64 (by omega) (by omega)]; rfl), trivial⟩, by (try dsimp only); omega⟩
              · skip
                have hin : i = v.list.length := by have := of_decide_eq_false hb10; (try simp only [List.length_map] at this); omega
                refine aw_exit ?_
                refine exit_thn ?_
                refine exit_thn ?_
                refine exit_blk ?_
                refine normal_thn ?_
                refine aw_seq ?_
                refine aw_region ?_
                refine g_u (s_fieldAddr rfl rfl fa48_5 rfl) ?_
                refine g_u (s_load_imm rfl rfl rfl tA27 tS27 rfl rfl) ?_
                refine g_u (s_mv_imm rfl rfl) ?_
                refine g_u (s_add rfl rfl rfl) ?_
                refine g_u (s_call1 ((show PCall Tryz.prog Γ0 52 [.sl 7 (v.map.map avA), iv (IntKind.i64.wrap (d + 1))] [iv (entC (d + 1) none v.map)] from by rw [e1]; exact ihm _ ⟨by omega, by omega⟩)) rfl rfl) ?_
                refine g_u (s_as_imm rfl rfl) ?_
                refine g_nil ?_
                refine normal_thn ?_
                refine aw_ret ?_
                exact ⟨⟨(rfl : toAV (Al.look _ _) = some _).trans (congrArg some (by (exact congrArg iv (by first | (rw [checkV_eq, if_pos (by omega)]; done) | (rw [checkV_eq, if_neg (by omega), if_pos he]; done) | (rw [checkV_eq, if_neg (by omega), if_neg (by rw [hc.2]; decide), if_pos (by omega)]; done) | (rw [checkV_eq, if_neg (by omega), if_neg (by rw [hc.2.1]; decide), if_neg (by omega), if_pos (by omega)]; done) | (rw [checkV_eq, if_neg (by omega), if_neg (by rw [hc.2.1]; decide), if_neg (by omega), if_neg (by omega), if_pos (by omega)]; done) | (rw [h2, E, orC_pos _ _ (by rw [orC_pos _ _ (by omega)]; omega), orC_pos _ _ (by omega)]; done) | (rw [h2, E, orC_pos (checkV (d + 1) _) _ (by omega), orC_pos _ _ (by omega)]; done) | (rw [h2, hin, List.drop_length]; exact (orC_zero _ _ rfl).symm))))), rfl⟩, trivial⟩

theorem checkV_c (v : GV) : ∀ d : Int, 0 ≤ d ∧ d + v.wt ≤ 1000000000 → PCall Tryz.prog Γ0 62 [v.av, iv d] [iv (checkV d v)] := by
  refine GV.ind (P := fun v => ∀ d : Int, 0 ≤ d ∧ d + v.wt ≤ 1000000000 → PCall Tryz.prog Γ0 62 [v.av, iv d] [iv (checkV d v)]) ?_ v
  intro v h1 h2 d hd
  exact checkV_st v d hd (contentV_st v d hd h1 fun d hd => entC_st v.map d hd h2)
theorem entC_c (l : List GA) (d : Int) (hd : 0 ≤ d ∧ d + wtAs l ≤ 1000000000) : PCall Tryz.prog Γ0 45 [.sl 7 (l.map avA), iv d] [iv (entC d none l)] := entC_st l d hd fun a _ => checkV_c a.val

theorem rcheckV_c (v : GV) : ∀ d : Int, 0 ≤ d ∧ d + v.wt ≤ 1000000000 → PCall Tryz.prog Γ0 66 [v.av, iv d] [iv (checkV d v)] := by
  refine GV.ind (P := fun v => ∀ d : Int, 0 ≤ d ∧ d + v.wt ≤ 1000000000 → PCall Tryz.prog Γ0 66 [v.av, iv d] [iv (checkV d v)]) ?_ v
  intro v h1 h2 d hd
  exact rcheckV_st v d hd h1 fun d hd => rentC_st v.map d hd h2
theorem rentC_c (l : List GA) (d : Int) (hd : 0 ≤ d ∧ d + wtAs l ≤ 1000000000) : PCall Tryz.prog Γ0 52 [.sl 7 (l.map avA), iv d] [iv (entC d none l)] := rentC_st l d hd fun a _ => rcheckV_c a.val

end Go.Proofs

namespace Go.Al
open Go.RowKit

/-! ### Rows of one's own: an element put in, a part, a copy into a part -/
section
variable {C : Cx} {A : Nat → SV} {d : Nat} {ty : TypeId} {pos : String} {af : Array Edge} {gd : Option (Nat × Bool)} {x y : Operand} {T T' : TypeId}

end
end Go.Al

namespace Go.Proofs
open Go Go.Al

/-! ### Rows, gone through -/
theorem str_nth {l : List ByteArray} {i : Nat} (h : i < l.length) : (l.map fun x => sv x)[((i : Nat) : Int).toNat]? = some (sv (nth l i ⟨#[]⟩)) := nth_map (d := ⟨#[]⟩) h
/-! ### Held against each other -/
theorem sameV_ne {a b : GV} (h : a ≠ b) : sameV a b = false := by cases hs : sameV a b; rfl; exact absurd ((sameV_iff _ _).1 hs) h
theorem sameAs_ne {a b : List GA} (h : a ≠ b) : sameAs a b = false := by cases hs : sameAs a b; rfl; exact absurd ((sameAs_iff _ _).1 hs) h
theorem ext_nth {α : Type} {l m : List α} (d : α) (hl : l.length = m.length) (h : ∀ i, i < l.length → nth l i d = nth m i d) : l = m := by
  refine List.ext_getElem hl fun i h1 h2 => ?_
  have := h i h1
  unfold nth at this
  rwa [List.getD_eq_getElem?_getD, List.getD_eq_getElem?_getD, List.getElem?_eq_getElem h1, List.getElem?_eq_getElem h2] at this
theorem GA.ext' {a b : GA} (h1 : a.key = b.key) (h2 : a.val = b.val) : a = b := by cases a; cases b; simp only [GA.key_mk, GA.val_mk] at h1 h2; rw [h1, h2]
theorem GV.ext' {a b : GV} (h1 : a.kind = b.kind) (h2 : a.text = b.text) (h3 : a.num = b.num) (h4 : a.bits = b.bits) (h5 : a.list = b.list) (h6 : a.map = b.map) : a = b := by
  cases a; cases b
  simp only [GV.kind_mk, GV.text_mk, GV.num_mk, GV.bits_mk, GV.list_mk, GV.map_mk] at h1 h2 h3 h4 h5 h6
  rw [h1, h2, h3, h4, h5, h6]
/-- All but the entries are the same: then just the entries count. -/
theorem sameV_map {a b : GV} (h1 : a.kind = b.kind) (h2 : a.text = b.text) (h3 : a.num = b.num) (h4 : a.bits = b.bits) (h5 : a.list = b.list) : sameAs a.map b.map = sameV a b := by
  rw [Bool.eq_iff_iff, sameAs_iff, sameV_iff]
  exact ⟨fun h => GV.ext' h1 h2 h3 h4 h5 h, fun h => by rw [h]⟩

/-! ### What goes into a row -/
end Go.Proofs

namespace Go.Al
open Go.RowKit

section
variable {C : Cx} {A : Nat → SV} {d : Nat} {ty : TypeId} {pos : String} {af : Array Edge} {gd : Option (Nat × Bool)} {x y : Operand} {T T' : TypeId}
end
end Go.Al

namespace Go.Proofs
open Go Go.Al
set_option maxRecDepth 10000
end Go.Proofs

namespace Go.Proofs
open Go Go.Al
set_option maxRecDepth 10000


set_option maxHeartbeats 400000 in
theorem checkAs_c (l : List GA) (ho : ∀ a ∈ l, a.ok) (hw : wtAs l ≤ 1000000) : PCall Tryz.prog Γ0 23 [(.sl 7 (l.map avA))] [iv (attrsC l)] := by
  have hl := len_wtAs l
  refine pcall_of Tryz.func23 rfl Tryz.ntmps23 (by kernel_rfl) rfl fun w0 I0 G0 => ?_
  refine aw_seq ?_
  refine aw_region ?_
  refine g_u (s_as_imm rfl rfl) ?_
  refine g_nil ?_
  refine normal_thn ?_
  refine aw_seq ?_
  refine aw_seq ?_
  refine aw_region ?_
  refine g_u (s_mv_imm rfl rfl) ?_
  refine g_u (s_lenL rfl rfl Tryz.underlying27) ?_
  refine g_u (s_gtI rfl rfl rfl) ?_
  refine g_nil ?_
  refine normal_thn ?_
  refine aw_cond rfl (fun hb1 => ?_) (fun hb1 => ?_)
  · skip
    have q : (l.length : Int) > 32 := by have e := of_decide_eq_true hb1; simp only [List.length_map] at e; omega
    refine aw_seq ?_
    refine aw_region ?_
    refine g_u (s_as_imm rfl rfl) ?_
    refine g_nil ?_
    refine normal_thn ?_
    refine aw_ret ?_
    refine ret_thn ?_
    exact ⟨⟨(rfl : toAV (Al.look _ _) = some _).trans (congrArg some (by (exact congrArg iv (by first | (rw [h2, hin, List.drop_length]; rfl) | (rw [h2, textsC_drop hi, if_pos (by omega)]; done) | (unfold attrsC; rw [if_pos (by omega)]; done) | (unfold attrsC; rw [if_neg (by omega), orC_pos _ _ (by omega)]; done))))), rfl⟩, trivial⟩
  · skip
    have q : ¬ (l.length : Int) > 32 := by have e := of_decide_eq_false hb1; simp only [List.length_map] at e; omega
    refine aw_skip ?_
    refine normal_thn ?_
    refine aw_seq ?_
    refine aw_seq ?_
    refine aw_region ?_
    refine g_u (s_mv_imm rfl rfl) ?_
    refine g_u (s_call1 (entC_c l 0 ⟨by omega, by omega⟩) rfl rfl) ?_
    refine g_u (s_as_imm rfl rfl) ?_
    refine g_nil ?_
    refine normal_thn ?_
    refine aw_seq ?_
    refine aw_region ?_
    refine g_u (s_mv_imm rfl rfl) ?_
    refine g_u (s_neI rfl rfl rfl) ?_
    refine g_nil ?_
    refine normal_thn ?_
    refine aw_cond rfl (fun hb2 => ?_) (fun hb2 => ?_)
    · skip
      have q := bne_iff_ne.1 hb2
      refine aw_seq ?_
      refine aw_region ?_
      refine g_u (s_mv_imm rfl rfl) ?_
      refine g_u (s_as_imm rfl rfl) ?_
      refine g_nil ?_
      refine normal_thn ?_
      refine aw_ret ?_
      refine ret_thn ?_
      exact ⟨⟨(rfl : toAV (Al.look _ _) = some _).trans (congrArg some (by (exact congrArg iv (by first | (rw [h2, hin, List.drop_length]; rfl) | (rw [h2, textsC_drop hi, if_pos (by omega)]; done) | (unfold attrsC; rw [if_pos (by omega)]; done) | (unfold attrsC; rw [if_neg (by omega), orC_pos _ _ (by omega)]; done))))), rfl⟩, trivial⟩
    · skip
      have q := bne_eq_false_iff_eq.1 hb2
      refine aw_skip ?_
      refine normal_thn ?_
      refine aw_seq ?_
      refine aw_seq ?_
      refine aw_region ?_
      refine g_u (s_mv_imm rfl rfl) ?_
      refine g_u (s_lenL rfl rfl Tryz.underlying27) ?_
      refine g_u (s_mv_imm rfl rfl) ?_
      refine g_nil ?_
      refine normal_thn ?_
      refine aw_block ?_
      refine aw_loop' (fun i : Nat => [(14, .imm (.sl 7 (l.map avA))), (15, .imm (iv (l.length : Int))), (16, .imm (iv (i : Int)))]) (fun i => i ≤ l.length ∧ attrsC l = textsC (l.drop i)) (fun i => l.length - i) (0) ?_ ⟨rfl, look_int rfl (by rw [List.length_map]), rfl, trivial⟩ ?_
      · exact ⟨Nat.zero_le _, by unfold attrsC; rw [if_neg (by omega), orC_zero _ _ (by omega)]; rfl⟩
      · rintro i ⟨h1, h2⟩; (try dsimp only at h1 h2)
        refine aw_seq ?_
        refine aw_region ?_
        refine g_u (s_ltI rfl rfl rfl) ?_
        refine g_nil ?_
        refine normal_thn ?_
        refine aw_seq ?_
        refine aw_cond rfl (fun hb3 => ?_) (fun hb3 => ?_)
        · skip
          have hi : i < l.length := by have := of_decide_eq_true hb3; (try simp only [List.length_map] at this); omega
          have gov : (nthA l i).val.ok := ((GA.ok_iff _).1 (ho _ (nthA_mem hi))).2
          have gow : (nthA l i).val.wt ≤ 10000000 := by have h1 := wtAs_mem (nthA_mem hi); have h2 := (nthA l i).wt_eq; omega
          refine aw_skip ?_
          refine normal_thn ?_
          refine aw_seq ?_
          refine aw_block ?_
          refine aw_seq ?_
          refine aw_region ?_
          refine g_u (s_indexAddr rfl rfl rfl Tryz.underlying27 tS50 (by omega) (ixA hi)) ?_
          refine g_u (s_load_cp rfl rfl tA50 tS50 rfl rfl) ?_
          refine g_uG (s_alloc' 1005 rfl rfl rfl tZ50) rfl ?_
          refine g_u (s_store_imm rfl rfl rfl tS50 rfl rfl) ?_
          refine g_nil ?_
          refine normal_thn ?_
          refine aw_seq ?_
          refine aw_region ?_
          refine g_u (s_fieldAddr rfl rfl fa50_1 rfl) ?_
          refine g_u (s_load_imm rfl rfl rfl tA48 tS48 rfl rfl) ?_
          refine g_u (s_call1 (text_c _ gov gow) rfl rfl) ?_
          refine g_u (s_lenS rfl rfl Tryz.underlying9) ?_
          refine g_u (s_gtI rfl rfl rfl) ?_
          refine g_nil ?_
          refine normal_thn ?_
          refine aw_cond rfl (fun hb4 => ?_) (fun hb4 => ?_)
          · skip
            have q := of_decide_eq_true hb4
            refine aw_seq ?_
            refine aw_region ?_
            refine g_u (s_as_imm rfl rfl) ?_
            refine g_nil ?_
            refine normal_thn ?_
            refine aw_ret ?_
            refine ret_blk ?_
            refine ret_thn ?_
            refine ret_thn ?_
            refine ret_blk ?_
            refine ret_thn ?_
            exact ⟨⟨(rfl : toAV (Al.look _ _) = some _).trans (congrArg some (by (exact congrArg iv (by first | (rw [h2, hin, List.drop_length]; rfl) | (rw [h2, textsC_drop hi, if_pos (by omega)]; done) | (unfold attrsC; rw [if_pos (by omega)]; done) | (unfold attrsC; rw [if_neg (by omega), orC_pos _ _ (by omega)]; done))))), rfl⟩, trivial⟩
          · skip
            have q := of_decide_eq_false hb4
            refine aw_skip ?_
            refine normal_blk ?_
            refine normal_thn ?_
            refine aw_region ?_
            refine g_u (s_add rfl rfl rfl) ?_
            refine g_u (s_mv_imm rfl rfl) ?_
            refine g_nil ?_
            refine normal_thn ?_
            refine ⟨i + 1, ⟨hi, by (try dsimp only); rw [h2, textsC_drop hi, if_neg (by omega)]⟩, ⟨rfl, rfl, look_int rfl (by rw [wrap64 (by omega) (by omega)]; rfl), trivial⟩, by (try dsimp only); omega⟩
        · skip
          have hin : i = l.length := by have := of_decide_eq_false hb3; (try simp only [List.length_map] at this); omega
          refine aw_exit ?_
          refine exit_thn ?_
          refine exit_thn ?_
          refine exit_blk ?_
          refine normal_thn ?_
          refine aw_seq ?_
          refine aw_region ?_
          refine g_u (s_as_imm rfl rfl) ?_
          refine g_nil ?_
          refine normal_thn ?_
          refine aw_ret ?_
          exact ⟨⟨(rfl : toAV (Al.look _ _) = some _).trans (congrArg some (by (exact congrArg iv (by first | (rw [h2, hin, List.drop_length]; rfl) | (rw [h2, textsC_drop hi, if_pos (by omega)]; done) | (unfold attrsC; rw [if_pos (by omega)]; done) | (unfold attrsC; rw [if_neg (by omega), orC_pos _ _ (by omega)]; done))))), rfl⟩, trivial⟩

set_option maxHeartbeats 400000 in
theorem rcheckAs_c (l : List GA) (ho : ∀ a ∈ l, a.ok) (hw : wtAs l ≤ 1000000) : PCall Tryz.prog Γ0 33 [(.sl 7 (l.map avA))] [iv (attrsC l)] := by
  have hl := len_wtAs l
  refine pcall_of Tryz.func33 rfl Tryz.ntmps33 (by kernel_rfl) rfl fun w0 I0 G0 => ?_
  refine aw_seq ?_
  refine aw_region ?_
  refine g_u (s_as_imm rfl rfl) ?_
  refine g_nil ?_
  refine normal_thn ?_
  refine aw_seq ?_
  refine aw_seq ?_
  refine aw_region ?_
  refine g_u (s_mv_imm rfl rfl) ?_
  refine g_u (s_lenL rfl rfl Tryz.underlying27) ?_
  refine g_u (s_gtI rfl rfl rfl) ?_
  refine g_nil ?_
  refine normal_thn ?_
  refine aw_cond rfl (fun hb1 => ?_) (fun hb1 => ?_)
  · skip
    have q : (l.length : Int) > 32 := by have e := of_decide_eq_true hb1; simp only [List.length_map] at e; omega
    refine aw_seq ?_
    refine aw_region ?_
    refine g_u (s_as_imm rfl rfl) ?_
    refine g_nil ?_
    refine normal_thn ?_
    refine aw_ret ?_
    refine ret_thn ?_
    exact ⟨⟨(rfl : toAV (Al.look _ _) = some _).trans (congrArg some (by (exact congrArg iv (by first | (rw [h2, hin, List.drop_length]; rfl) | (rw [h2, textsC_drop hi, if_pos (by omega)]; done) | (unfold attrsC; rw [if_pos (by omega)]; done) | (unfold attrsC; rw [if_neg (by omega), orC_pos _ _ (by omega)]; done))))), rfl⟩, trivial⟩
  · skip
    have q : ¬ (l.length : Int) > 32 := by have e := of_decide_eq_false hb1; simp only [List.length_map] at e; omega
    refine aw_skip ?_
    refine normal_thn ?_
    refine aw_seq ?_
    refine aw_seq ?_
    refine aw_region ?_
    refine g_u (s_mv_imm rfl rfl) ?_
    refine g_u (s_call1 (rentC_c l 0 ⟨by omega, by omega⟩) rfl rfl) ?_
    refine g_u (s_as_imm rfl rfl) ?_
    refine g_nil ?_
    refine normal_thn ?_
    refine aw_seq ?_
    refine aw_region ?_
    refine g_u (s_mv_imm rfl rfl) ?_
    refine g_u (s_neI rfl rfl rfl) ?_
    refine g_nil ?_
    refine normal_thn ?_
    refine aw_cond rfl (fun hb2 => ?_) (fun hb2 => ?_)
    · skip
      have q := bne_iff_ne.1 hb2
      refine aw_seq ?_
      refine aw_region ?_
      refine g_u (s_mv_imm rfl rfl) ?_
      refine g_u (s_as_imm rfl rfl) ?_
      refine g_nil ?_
      refine normal_thn ?_
      refine aw_ret ?_
      refine ret_thn ?_
      exact ⟨⟨(rfl : toAV (Al.look _ _) = some _).trans (congrArg some (by (exact congrArg iv (by first | (rw [h2, hin, List.drop_length]; rfl) | (rw [h2, textsC_drop hi, if_pos (by omega)]; done) | (unfold attrsC; rw [if_pos (by omega)]; done) | (unfold attrsC; rw [if_neg (by omega), orC_pos _ _ (by omega)]; done))))), rfl⟩, trivial⟩
    · skip
      have q := bne_eq_false_iff_eq.1 hb2
      refine aw_skip ?_
      refine normal_thn ?_
      refine aw_seq ?_
      refine aw_seq ?_
      refine aw_region ?_
      refine g_u (s_as_imm rfl rfl) ?_
      refine g_nil ?_
      refine normal_thn ?_
      refine aw_block ?_
      refine aw_loop' (fun i : Nat => [(0, .imm (.sl 7 (l.map avA))), (4, .imm (iv (i : Int)))]) (fun i => i ≤ l.length ∧ attrsC l = textsC (l.drop i)) (fun i => l.length - i) (0) ?_ ⟨rfl, rfl, trivial⟩ ?_
      · exact ⟨Nat.zero_le _, by unfold attrsC; rw [if_neg (by omega), orC_zero _ _ (by omega)]; rfl⟩
      · rintro i ⟨h1, h2⟩; (try dsimp only at h1 h2)
        refine aw_seq ?_
        refine aw_seq ?_
        refine aw_region ?_
        refine g_u (s_mv_imm rfl rfl) ?_
        refine g_u (s_mv_imm rfl rfl) ?_
        refine g_u (s_lenL rfl rfl Tryz.underlying27) ?_
        refine g_u (s_ltI rfl rfl rfl) ?_
        refine g_nil ?_
        refine normal_thn ?_
        refine aw_cond rfl (fun hb3 => ?_) (fun hb3 => ?_)
        · skip
          have hi : i < l.length := by have := of_decide_eq_true hb3; (try simp only [List.length_map] at this); omega
          have gov : (nthA l i).val.ok := ((GA.ok_iff _).1 (ho _ (nthA_mem hi))).2
          have gow : (nthA l i).val.wt ≤ 10000000 := by have h1 := wtAs_mem (nthA_mem hi); have h2 := (nthA l i).wt_eq; omega
          refine aw_skip ?_
          refine normal_thn ?_
          refine aw_seq ?_
          refine aw_block ?_
          refine aw_seq ?_
          refine aw_region ?_
          refine g_u (s_mv_imm rfl rfl) ?_
          refine g_u (s_mv_imm rfl rfl) ?_
          refine g_u (s_indexAddr rfl rfl rfl Tryz.underlying27 tS50 (by omega) (ixA hi)) ?_
          refine g_u (s_fieldAddr_cp rfl rfl fa50_1 rfl rfl) ?_
          refine g_u (s_load_cp rfl rfl tA48 tS48 rfl rfl) ?_
          refine g_u (s_call1 (rtext_c _ gov gow) rfl rfl) ?_
          refine g_u (s_lenS rfl rfl Tryz.underlying9) ?_
          refine g_u (s_gtI rfl rfl rfl) ?_
          refine g_nil ?_
          refine normal_thn ?_
          refine aw_cond rfl (fun hb4 => ?_) (fun hb4 => ?_)
          · skip
            have q := of_decide_eq_true hb4
            refine aw_seq ?_
            refine aw_region ?_
            refine g_u (s_as_imm rfl rfl) ?_
            refine g_nil ?_
            refine normal_thn ?_
            refine aw_ret ?_
            refine ret_blk ?_
            refine ret_thn ?_
            refine ret_thn ?_
            refine ret_blk ?_
            refine ret_thn ?_
            exact ⟨⟨(rfl : toAV (Al.look _ _) = some _).trans (congrArg some (by (exact congrArg iv (by first | (rw [h2, hin, List.drop_length]; rfl) | (rw [h2, textsC_drop hi, if_pos (by omega)]; done) | (unfold attrsC; rw [if_pos (by omega)]; done) | (unfold attrsC; rw [if_neg (by omega), orC_pos _ _ (by omega)]; done))))), rfl⟩, trivial⟩
          · skip
            have q := of_decide_eq_false hb4
            refine aw_skip ?_
            refine normal_blk ?_
            refine normal_thn ?_
            refine aw_region ?_
            refine g_u (s_mv_imm rfl rfl) ?_
            refine g_u (s_add rfl rfl rfl) ?_
            refine g_u (s_as_imm rfl rfl) ?_
            refine g_nil ?_
            refine normal_thn ?_
            refine ⟨i + 1, ⟨hi, by (try dsimp only); rw [h2, textsC_drop hi, if_neg (by omega)]⟩, ⟨rfl, look_int rfl (by rw [wrap64 (by omega) (by omega)]; rfl), trivial⟩, by (try dsimp only); omega⟩
        · skip
          have hin : i = l.length := by have := of_decide_eq_false hb3; (try simp only [List.length_map] at this); omega
          refine aw_exit ?_
          refine exit_thn ?_
          refine exit_thn ?_
          refine exit_blk ?_
          refine normal_thn ?_
          refine aw_seq ?_
          refine aw_region ?_
          refine g_u (s_as_imm rfl rfl) ?_
          refine g_nil ?_
          refine normal_thn ?_
          refine aw_ret ?_
          exact ⟨⟨(rfl : toAV (Al.look _ _) = some _).trans (congrArg some (by (exact congrArg iv (by first | (rw [h2, hin, List.drop_length]; rfl) | (rw [h2, textsC_drop hi, if_pos (by omega)]; done) | (unfold attrsC; rw [if_pos (by omega)]; done) | (unfold attrsC; rw [if_neg (by omega), orC_pos _ _ (by omega)]; done))))), rfl⟩, trivial⟩

end Go.Proofs

namespace Go.Proofs
open Go Go.Al
set_option maxRecDepth 10000
end Go.Proofs

namespace Go.Proofs
open Go Go.Al

structure Rg where
  lo : Int
  hi : Int
def Rg.av (r : Rg) : AV := .agg [.v (.int .u64 r.lo), .v (.int .u64 r.hi)]

def rgCheckM (r : Rg) : Int := if r.hi > 9223372036854775807 ∨ r.lo > r.hi then 11 else 0
def begunM (r : Rg) : Int := IntKind.u64.wrap (r.lo.tdiv 1000)
def lastsM (r : Rg) : Int := IntKind.u64.wrap ((IntKind.u64.wrap (r.hi - r.lo)).tdiv 1000)
def microsM (m : Int) (r : Rg) : Int := if rgCheckM r = 0 then IntKind.i64.wrap m else 0
def nanoV (us : Int) : Int := if us < 0 ∨ us > 9223372036854775 then 0 else IntKind.u64.wrap (IntKind.u64.wrap us * 1000)
def nanoC (us : Int) : Int := if us < 0 ∨ us > 9223372036854775 then 11 else 0
def ofBad (b l : Int) : Prop := nanoC b ≠ 0 ∨ nanoC l ≠ 0 ∨ nanoV l > IntKind.u64.wrap (9223372036854775807 - nanoV b)
instance (b l : Int) : Decidable (ofBad b l) := by unfold ofBad; infer_instance
def ofR (b l : Int) : Rg := if ofBad b l then ⟨0, 0⟩ else ⟨nanoV b, IntKind.u64.wrap (nanoV b + nanoV l)⟩
def BegunM (r : Rg) : Int := microsM (begunM r) r
def LastsM (r : Rg) : Int := microsM (lastsM r) r
def wholeM (r : Rg) : Rg := ofR (BegunM r) (LastsM r)

-- the reference
def rNanoV (us : Int) : Int := if us < 0 ∨ us > 9223372036854775 then 0 else IntKind.u64.wrap (1000 * IntKind.u64.wrap us)
def rFine (s e : Int) : Bool := decide (s ≤ e) && decide (e ≤ 9223372036854775807)
def rBad (b l : Int) : Prop := nanoC b ≠ 0 ∨ nanoC l ≠ 0 ∨ rNanoV b > IntKind.u64.wrap (9223372036854775807 - rNanoV l)
instance (b l : Int) : Decidable (rBad b l) := by unfold rBad; infer_instance
end Go.Proofs

namespace Go.Proofs
open Go Go.Al

theorem fine_iff (s e : Int) : rFine s e = true ↔ (s ≤ e ∧ e ≤ 9223372036854775807) := by simp [rFine]
theorem tells1 (s e : Int) : (rgCheckM ⟨s, e⟩ == 0) = rFine s e := by
  rw [Bool.eq_iff_iff, fine_iff]
  unfold rgCheckM
  by_cases h : e > 9223372036854775807 ∨ s > e
  · rw [if_pos h]; simp; omega
  · rw [if_neg h]; simp; omega
theorem rgCheck_fine {s e : Int} (h : rFine s e = true) : rgCheckM ⟨s, e⟩ = 0 := by have := tells1 s e; rw [h] at this; simpa using this
theorem rgCheck_bad {s e : Int} (h : rFine s e = false) : rgCheckM ⟨s, e⟩ = 11 := by
  have := tells1 s e; rw [h] at this
  unfold rgCheckM at this ⊢
  split
  · rfl
  · rename_i h'; rw [if_neg h'] at this; simp at this
end Go.Proofs

namespace Go.Proofs
open Go Go.Al

/-! ### Whether two things are one -/
instance : DecidableEq GV := fun a b => decidable_of_iff (sameV a b = true) (sameV_iff a b)
instance : DecidableEq GA := fun a b => decidable_of_iff (sameA a b = true) (sameA_iff a b)
theorem GE.ext' {a b : GE} (h1 : a.time = b.time) (h2 : a.name = b.name) (h3 : a.attrs = b.attrs) : a = b := by cases a; cases b; simp_all
theorem GL.ext' {a b : GL} (h1 : a.trace = b.trace) (h2 : a.span = b.span) (h3 : a.state = b.state) (h4 : a.attrs = b.attrs) : a = b := by cases a; cases b; simp_all
theorem GSpan.ext' {a b : GSpan} (h1 : a.trace = b.trace) (h2 : a.id = b.id) (h3 : a.parent = b.parent) (h4 : a.state = b.state) (h5 : a.name = b.name) (h6 : a.kind = b.kind) (h7 : a.start = b.start) (h8 : a.fin = b.fin) (h9 : a.attrs = b.attrs) (h10 : a.events = b.events) (h11 : a.links = b.links) (h12 : a.code = b.code) (h13 : a.note = b.note) : a = b := by
  cases a; cases b; simp_all
theorem GScope.ext' {a b : GScope} (h1 : a.name = b.name) (h2 : a.version = b.version) (h3 : a.spans = b.spans) : a = b := by cases a; cases b; simp_all
theorem GRes.ext' {a b : GRes} (h1 : a.attrs = b.attrs) (h2 : a.scopes = b.scopes) : a = b := by cases a; cases b; simp_all
instance : DecidableEq GE := fun a b => decidable_of_iff (a.time = b.time ∧ a.name = b.name ∧ a.attrs = b.attrs) ⟨fun h => GE.ext' h.1 h.2.1 h.2.2, fun h => by rw [h]; exact ⟨rfl, rfl, rfl⟩⟩
instance : DecidableEq GL := fun a b => decidable_of_iff (a.trace = b.trace ∧ a.span = b.span ∧ a.state = b.state ∧ a.attrs = b.attrs) ⟨fun h => GL.ext' h.1 h.2.1 h.2.2.1 h.2.2.2, fun h => by rw [h]; exact ⟨rfl, rfl, rfl, rfl⟩⟩
instance : DecidableEq GSpan := fun a b => decidable_of_iff ((a.trace = b.trace ∧ a.id = b.id ∧ a.parent = b.parent ∧ a.state = b.state) ∧ (a.name = b.name ∧ a.kind = b.kind ∧ a.start = b.start ∧ a.fin = b.fin) ∧ (a.attrs = b.attrs ∧ a.events = b.events ∧ a.links = b.links) ∧ a.code = b.code ∧ a.note = b.note)
  ⟨fun h => GSpan.ext' h.1.1 h.1.2.1 h.1.2.2.1 h.1.2.2.2 h.2.1.1 h.2.1.2.1 h.2.1.2.2.1 h.2.1.2.2.2 h.2.2.1.1 h.2.2.1.2.1 h.2.2.1.2.2 h.2.2.2.1 h.2.2.2.2, fun h => by rw [h]; exact ⟨⟨rfl, rfl, rfl, rfl⟩, ⟨rfl, rfl, rfl, rfl⟩, ⟨rfl, rfl, rfl⟩, rfl, rfl⟩⟩
instance : DecidableEq GScope := fun a b => decidable_of_iff (a.name = b.name ∧ a.version = b.version ∧ a.spans = b.spans) ⟨fun h => GScope.ext' h.1 h.2.1 h.2.2, fun h => by rw [h]; exact ⟨rfl, rfl, rfl⟩⟩
instance : DecidableEq GRes := fun a b => decidable_of_iff (a.attrs = b.attrs ∧ a.scopes = b.scopes) ⟨fun h => GRes.ext' h.1 h.2, fun h => by rw [h]; exact ⟨rfl, rfl⟩⟩

/-! ### What Jaeger's format keeps -/
def k_kind : ByteArray := ⟨#[115, 112, 97, 110, 46, 107, 105, 110, 100]⟩
def k_error : ByteArray := ⟨#[101, 114, 114, 111, 114]⟩
def k_code : ByteArray := ⟨#[111, 116, 101, 108, 46, 115, 116, 97, 116, 117, 115, 95, 99, 111, 100, 101]⟩
def k_note : ByteArray := ⟨#[111, 116, 101, 108, 46, 115, 116, 97, 116, 117, 115, 95, 100, 101, 115, 99, 114, 105, 112, 116, 105, 111, 110]⟩
def k4 : List ByteArray := [k_kind, k_error, k_code, k_note]
/-! ### Sizes -/
/-! ### Places -/
end Go.Proofs

namespace Go.Proofs
open Go Go.Al
set_option maxRecDepth 10000
set_option maxHeartbeats 400000 in
theorem rgCheck_c (r : Rg) : PCall Tryz.prog Γ0 21 [r.av] [iv (rgCheckM r)] := by
  refine pcall_of Tryz.func21 rfl Tryz.ntmps21 (by kernel_rfl) rfl fun w0 I0 G0 => ?_
  refine aw_seq ?_
  refine aw_region ?_
  refine g_uG (s_box_imm 1001 rfl rfl rfl rfl) rfl ?_
  refine g_u (s_as_imm rfl rfl) ?_
  refine g_nil ?_
  refine normal_thn ?_
  refine aw_seq ?_
  refine aw_seq ?_
  refine aw_region ?_
  refine g_u (s_fieldAddr rfl rfl fa57_1 rfl) ?_
  refine g_u (s_load_imm rfl rfl rfl tA26 tS26 rfl rfl) ?_
  refine g_u (s_gtI rfl rfl rfl) ?_
  refine g_u (s_mv_imm rfl rfl) ?_
  refine g_case (t := 6) rfl ?_
  rintro (hb1 | hb1)
  · rw [hb1]
    refine g_skip rfl rfl rfl ?_
    refine g_skip rfl rfl rfl ?_
    refine g_skip rfl rfl rfl ?_
    refine g_skip rfl rfl rfl ?_
    refine g_skip rfl rfl rfl ?_
    refine g_u (s_pick_t rfl rfl rfl) ?_
    refine g_nil ?_
    refine normal_thn ?_
    refine aw_cond_true rfl ?_
    refine aw_seq ?_
    refine aw_region ?_
    refine g_u (s_as_imm rfl rfl) ?_
    refine g_nil ?_
    refine normal_thn ?_
    refine aw_ret ?_
    refine ret_thn ?_
    exact ⟨⟨(rfl : toAV (Al.look _ _) = some _).trans (congrArg some (by (simp only [decide_eq_true_eq, decide_eq_false_iff_not, bne_iff_ne, ne_eq, beq_iff_eq, bne_eq_false_iff_eq, beq_eq_false_iff_ne] at *; simp only [iv, rgCheckM]; first | rw [if_pos (by omega)] | rw [if_neg (by omega)]))), rfl⟩, trivial⟩
  · rw [hb1]
    refine g_run rfl rfl (s_fieldAddr rfl rfl fa57_0 rfl) ?_
    refine g_run rfl rfl (s_load_imm rfl rfl rfl tA26 tS26 rfl rfl) ?_
    refine g_run rfl rfl (s_fieldAddr rfl rfl fa57_1 rfl) ?_
    refine g_run rfl rfl (s_load_imm rfl rfl rfl tA26 tS26 rfl rfl) ?_
    refine g_run rfl rfl (s_gtI rfl rfl rfl) ?_
    refine g_u (s_pick_f rfl rfl rfl) ?_
    refine g_nil ?_
    refine normal_thn ?_
    refine aw_cond rfl (fun hb2 => ?_) (fun hb2 => ?_)
    · skip
      refine aw_seq ?_
      refine aw_region ?_
      refine g_u (s_as_imm rfl rfl) ?_
      refine g_nil ?_
      refine normal_thn ?_
      refine aw_ret ?_
      refine ret_thn ?_
      exact ⟨⟨(rfl : toAV (Al.look _ _) = some _).trans (congrArg some (by (simp only [decide_eq_true_eq, decide_eq_false_iff_not, bne_iff_ne, ne_eq, beq_iff_eq, bne_eq_false_iff_eq, beq_eq_false_iff_ne] at *; simp only [iv, rgCheckM]; first | rw [if_pos (by omega)] | rw [if_neg (by omega)]))), rfl⟩, trivial⟩
    · skip
      refine aw_skip ?_
      refine normal_thn ?_
      refine aw_seq ?_
      refine aw_region ?_
      refine g_u (s_as_imm rfl rfl) ?_
      refine g_nil ?_
      refine normal_thn ?_
      refine aw_ret ?_
      exact ⟨⟨(rfl : toAV (Al.look _ _) = some _).trans (congrArg some (by (simp only [decide_eq_true_eq, decide_eq_false_iff_not, bne_iff_ne, ne_eq, beq_iff_eq, bne_eq_false_iff_eq, beq_eq_false_iff_ne] at *; simp only [iv, rgCheckM]; first | rw [if_pos (by omega)] | rw [if_neg (by omega)]))), rfl⟩, trivial⟩

attribute [local irreducible] wholeM ofR

set_option maxHeartbeats 400000 in
theorem rfine_c (s e : Int) : PCall Tryz.prog Γ0 32 [uv s, uv e] [bv (rFine s e)] := by
  refine pcall_of Tryz.func32 rfl Tryz.ntmps32 (by kernel_rfl) rfl fun w0 I0 G0 => ?_
  refine aw_seq ?_
  refine aw_region ?_
  refine g_u (s_as_imm rfl rfl) ?_
  refine g_nil ?_
  refine normal_thn ?_
  refine aw_seq ?_
  refine aw_region ?_
  refine g_u (s_mv_imm rfl rfl) ?_
  refine g_u (s_mv_imm rfl rfl) ?_
  refine g_u (s_leI rfl rfl rfl) ?_
  refine g_u (s_mv_imm rfl rfl) ?_
  refine g_case (t := 8) rfl ?_
  rintro (hb1 | hb1)
  · rw [hb1]
    refine g_run rfl rfl (s_mv_imm rfl rfl) ?_
    refine g_run rfl rfl (s_leI rfl rfl rfl) ?_
    refine g_u (s_pick_t rfl rfl rfl) ?_
    refine g_u (s_as_imm rfl rfl) ?_
    refine g_nil ?_
    refine normal_thn ?_
    refine aw_ret ?_
    exact ⟨⟨(rfl : toAV (Al.look _ _) = some _).trans (congrArg some (by (simp only [bv, rFine, *]; rfl))), rfl⟩, trivial⟩
  · rw [hb1]
    refine g_skip rfl rfl rfl ?_
    refine g_skip rfl rfl rfl ?_
    refine g_u (s_pick_f rfl rfl rfl) ?_
    refine g_u (s_as_imm rfl rfl) ?_
    refine g_nil ?_
    refine normal_thn ?_
    refine aw_ret ?_
    exact ⟨⟨(rfl : toAV (Al.look _ _) = some _).trans (congrArg some (by (simp only [bv, rFine, *]; rfl))), rfl⟩, trivial⟩

end Go.Proofs

namespace Go.Proofs
open Go Go.Al
set_option maxRecDepth 10000
end Go.Proofs

namespace Go.Proofs
open Go Go.Al

/-! ### What Jaeger's format keeps: sizes, ranges, and that it stays -/
end Go.Proofs

namespace Go.Proofs
open Go Go.Al
set_option maxRecDepth 10000
end Go.Proofs

namespace Go.Proofs
open Go Go.Al
set_option maxRecDepth 10000
theorem eq23 (a b : List UInt8) : eqV Tryz.prog 100 23 (.arr 16 a) (.arr 16 b) = some (a == b) := by kernel_rfl
theorem eq25 (a b : List UInt8) : eqV Tryz.prog 100 25 (.arr 8 a) (.arr 8 b) = some (a == b) := by kernel_rfl
theorem eq31 (c d : Int) (m n : ByteArray) : eqV Tryz.prog 100 31 (.agg [iv c, sv m]) (.agg [iv d, sv n]) = some ((c == d) && ((m.toList == n.toList) && true)) := by kernel_rfl

end Go.Proofs

namespace Go.Al
open Go.RowKit
/-- Bytes, one by one, are an array of bytes. -/
theorem up_bytes {l : List UInt8} {n : Nat} (h : l.length = n) : Up (.agg (bytesL l)) (.arr n l) := by
  have hw : ∀ x ∈ bytesL l, x.width = 1 := W1.bytes l
  refine ⟨rfl, ?_, fun w I c r => ?_⟩
  · have key : ∀ l : List UInt8, AV.widths (bytesL l) = l.length := by
      intro l
      induction l with
      | nil => rfl
      | cons b l ih => simp only [bytesL, List.map_cons, AV.widths, List.length_cons] at ih ⊢; rw [ih]; simp only [AV.width, byteV, Value.cells]; show 1 + _ = _; omega
    show n = AV.widths (bytesL l)
    rw [key, h]
  · simp only [RepC] at r ⊢
    exact ⟨repE_bytes_inv l c ((repCs_E (n := 1) hw).1 r), h⟩
end Go.Al

namespace Go.Proofs
open Go Go.Al
set_option maxRecDepth 10000
theorem tV23 : IsZero Tryz.prog 23 (.agg (List.replicate 16 (.v (.int .u8 0)))) := ⟨.agg #[.int .u8 0, .int .u8 0, .int .u8 0, .int .u8 0, .int .u8 0, .int .u8 0, .int .u8 0, .int .u8 0, .int .u8 0, .int .u8 0, .int .u8 0, .int .u8 0, .int .u8 0, .int .u8 0, .int .u8 0, .int .u8 0], by kernel_rfl, by kernel_rfl⟩
theorem tV25 : IsZero Tryz.prog 25 (.agg (List.replicate 8 (.v (.int .u8 0)))) := ⟨.agg #[.int .u8 0, .int .u8 0, .int .u8 0, .int .u8 0, .int .u8 0, .int .u8 0, .int .u8 0, .int .u8 0], by kernel_rfl, by kernel_rfl⟩
end Go.Proofs

namespace Go.Al
open Go.RowKit

/-! ### Maps of one's own, under texts -/

/-- What one owns, turned: its block alone. -/
theorem SimG.turnOG {C : Cx} {A : Nat → SV} {G : Gh} {a : Act} {w : World} (S : SimG C A G a w) {g : Nat} {X' : SV} {o' : Obj}
    (how : Owned C.w0 C.E w (G.blk g)) (hni : ∀ o, ¬ G.I (G.blk g) o) (hown : ownsB G g (G.blk g) (A g)) (hown' : ∀ b, ownsB G g b X' → G.blk g = b)
    (hnew : Le w G.I (setBlk w (G.blk g) o') G.I → Holds C.w0 C.E G a (setBlk w (G.blk g) o') g X') :
    SimG C (upd A [(g, X')]) G a (setBlk w (G.blk g) o') := by
  have hlt : G.blk g < w.heap.size := how.2
  have hle : Le w G.I (setBlk w (G.blk g) o') G.I := fun b o h => ⟨h, by
    have : b ≠ G.blk g := by rintro rfl; exact hni o h
    exact kp_of_block (setBlk_ne this)⟩
  have hu : ∀ k, upd A [(g, X')] k = if k = g then X' else A k := upd_one A g X'
  have conv : ∀ k b, ownsB G k b (upd A [(g, X')] k) → ownsB G k b (A k) := by
    intro k b h
    rw [hu] at h
    split at h
    · rename_i hk; subst hk; have := hown' b h; rw [← this]; exact hown
    · exact h
  refine ⟨S.os, S.tape, S.output, by rw [setBlk_size]; exact S.size, fun k h1 h2 => ?_, S.sub.trans hle, S.rel, S.glob.mono hle, S.new, fun b o h => by rw [setBlk_size]; exact S.val b o h, S.nts, S.dfs, fun k => ?_, fun k j b hkj h1 h2 => S.apart k j b hkj (conv k b h1) (conv j b h2)⟩
  · have : k ≠ G.blk g := by
      rintro rfl
      rcases how.1 with h | h
      · omega
      · exact h2 h
    rw [setBlk_ne this]; exact S.block k h1 h2
  · rw [hu]
    split
    · rename_i hk; subst hk; exact hnew hle
    · rename_i hk
      refine (S.holds k).keep hle (GRel.refl G) (noG_nil.1 _) (by rw [setBlk_size]; exact Nat.le_refl _) (fun h => ⟨h, rfl⟩) (fun _ => ⟨rfl, rfl, rfl⟩) (fun b hb => ⟨?_, fun _ h => h⟩)
      have : b ≠ G.blk g := by
        rintro rfl
        exact S.apart k g (G.blk g) hk hb hown
      exact setBlk_ne this

theorem SimG.turnO {C : Cx} {A : Nat → SV} {G : Gh} {a : Act} {w : World} (S : SimG C A G a w) {g : Nat} {X' : SV} {o' : Obj}
    (how : Owned C.w0 C.E w (G.blk g)) (hni : ∀ o, ¬ G.I (G.blk g) o) (hown : ownsB G g (G.blk g) (A g)) (hown' : ∀ b, ownsB G g b X' → G.blk g = b)
    (hnew : Le w G.I (setBlk w (G.blk g) o') G.I → Holds C.w0 C.E G a (setBlk w (G.blk g) o') g X') :
    Sim C (upd A [(g, X')]) a (setBlk w (G.blk g) o') := ⟨G, S.turnOG how hni hown hown' hnew⟩

/-- The place of a text among some. -/
def mfind : List ByteArray → ByteArray → Nat → Option Nat
  | [], _, _ => none
  | x :: xs, s, i => if s = x then some i else mfind xs s (i + 1)
def strs (l : List ByteArray) : List AV := l.map fun s => .v (.string s)
def mputK (l : List ByteArray) (s : ByteArray) : List ByteArray := match mfind l s 0 with | some _ => l | none => l ++ [s]
def mputV (l : List ByteArray) (vs : List AV) (s : ByteArray) (v : AV) : List AV := match mfind l s 0 with | some i => vs.set i v | none => vs ++ [v]

theorem mfind_lt : ∀ {l : List ByteArray} {s : ByteArray} {i j : Nat}, mfind l s i = some j → i ≤ j ∧ j < i + l.length
  | x :: xs, s, i, j, h => by
    rw [mfind] at h
    split at h
    · cases h; simp
    · have := mfind_lt h; simp; omega

theorem mfind_get : ∀ {l : List ByteArray} {s : ByteArray} {i j : Nat}, mfind l s i = some j → l[j - i]? = some s
  | x :: xs, s, i, j, h => by
    rw [mfind] at h
    split at h
    · rename_i hs; cases h; simp [hs]
    · have h1 := mfind_lt h
      have h2 := mfind_get h
      rw [show j - i = (j - (i + 1)) + 1 by omega, List.getElem?_cons_succ]; exact h2
theorem repVs_strs {w : World} {I : Nat → Nat → Prop} : ∀ {l : List ByteArray} {vs : List Value}, RepVs w I (strs l) vs → vs = l.map Value.string
  | [], vs, h => by simpa [strs, RepVs] using h
  | x :: xs, vs, h => by
    simp only [strs, List.map_cons, RepVs] at h
    obtain ⟨c, r, rfl, h1, h2⟩ := h
    simp only [RepC] at h1
    rw [repVs_strs (l := xs) h2, h1.1]
    simp [mkV, AV.isAgg, Value.cells]

theorem ba_beq (a b : ByteArray) : (a == b) = decide (a = b) := by
  rcases a with ⟨a⟩; rcases b with ⟨b⟩
  show (a == b) = _
  rw [Bool.eq_iff_iff]; simp

theorem findNow_str : ∀ (es : List MapEntry) (l : List ByteArray) (s : ByteArray) (i : Nat), es.map (·.key) = l.map Value.string →
    Instr.findNow .string (.string s) es i = some ((mfind l s i).bind fun j => (es[j - i]?).map fun e => (j, e.val))
  | [], l, s, i, h => by
    cases l with
    | nil => rfl
    | cons x l => simp at h
  | e :: es, l, s, i, h => by
    cases l with
    | nil => simp at h
    | cons x l =>
      simp only [List.map_cons, List.cons.injEq] at h
      simp only [Instr.findNow, h.1, Instr.sameNow]
      by_cases hs : s = x
      · subst hs
        simp [mfind, ba_beq]
      · have : (s == x) = false := by rw [ba_beq]; simpa using hs
        rw [this]
        simp only
        rw [findNow_str es l s (i + 1) h.2, mfind, if_neg hs]
        cases hm : mfind l s (i + 1) with
        | none => rfl
        | some j =>
          have := mfind_lt hm
          simp only [Option.bind_some]
          rw [show j - i = (j - (i + 1)) + 1 by omega, List.getElem?_cons_succ]

theorem run_checkKey {P : Program} {kt : TypeId} {s : ByteArray} (h : P.underlying kt = some .string) (b : Bool) (n : Nat) (w : World) : (Instr.checkKey b (n + 1) kt (.string s)).run P w = .ok () w := by
  simp only [Instr.checkKey, Sem.run_bind, run_underlying' h, Result.andThen_ok, Sem.run_pure]

theorem run_findKey {P : Program} {kt : TypeId} {s : ByteArray} (h : P.underlying kt = some .string) {es : List MapEntry} {l : List ByteArray} (he : es.map (·.key) = l.map Value.string) (w : World) :
    (Instr.findKey kt (.string s) es).run P w = .ok ((mfind l s 0).bind fun j => (es[j]?).map fun e => (j, e.val)) w := by
  have := findNow_str es l s 0 he
  simp only [Nat.sub_zero] at this
  simp only [Instr.findKey, Sem.run_bind, run_underlying' h, Result.andThen_ok, this, Sem.run_pure]

theorem run_getMap {P : Program} {w : World} {r : Nat} {es : Array MapEntry} {ck : Nat} (h : w.heap[r]? = some (.map es ck)) : (getObj r).run P w = .ok (.map es ck) w := by simp [getObj, Sem.run, h]
theorem run_setMap {P : Program} {w : World} {r : Nat} {es : Array MapEntry} {ck : Nat} {o' : Obj} (h : w.heap[r]? = some (.map es ck)) : (setObj r o').run P w = .ok () (setBlk w r o') := by simp [setObj, Sem.run, h, setBlk]

section
variable {C : Cx} {A : Nat → SV} {d : Nat} {ty : TypeId} {pos : String} {af : Array Edge} {gd : Option (Nat × Bool)} {x y z : Operand} {T T' : TypeId}

theorem s_makeMap (g : Nat) (hgN : Nat.ble C.N g = true) (hgK : Nat.blt g C.K = true) (hN : Nat.blt d C.N = true) :
    StepU C ⟨some d, .makeMap T none, ty, pos, af, gd⟩ [] [g] A [(g, .mpr [] []), (d, .mref g)] := by
  intro A' a w hR hF ⟨G, S⟩
  have hN' : d < C.N := by simpa [Nat.blt_eq] using hN
  have hgd : g ≠ d := by have := Nat.le_of_ble_eq_true hgN; omega
  unfold Oper.wp
  have hrun : (execOp a.eval ⟨some d, .makeMap T none, ty, pos, af, gd⟩).run C.P w = .ok (.value (.map (some w.heap.size))) (w.alloc (.map #[] 0)) := by
    simp only [execOp, Option.map_none, Instr.makeMap, Sem.run_bind, Sem.run_pure, Result.andThen_ok, run_newObj]
    rfl
  rw [hrun, Oper.upon_value]
  refine S.allocO hgd (by simpa [Nat.blt_eq] using hgK) hN' (fun _ _ h => by simpa only [ownsB] using h) (fun G' e _ hg hle hni => ?_) (fun G' e => ?_) (fun k hk => hF k hk)
  · simp only [Holds]
    refine ⟨⟨.inl (by rw [e]; exact S.size), by rw [e]; simp⟩, ⟨#[], by rw [e]; exact alloc_new, fun i h => by simp at h, by simp [RepVs], by simp [RepVs]⟩, fun o => ?_⟩
    rw [e]; exact hni o
  · exact ⟨[.map (some w.heap.size)], by simp [RepS, e], by simp [mkS, SV.isAgg]⟩

theorem repVs_set {w : World} {I : Nat → Nat → Prop} : ∀ {xs : List AV} {vs : List Value} {i : Nat} {y : AV} {v : Value}, RepVs w I xs vs → Rep w I y v → RepVs w I (xs.set i y) (vs.set i v)
  | [], vs, i, y, v, h, _ => by
    simp only [RepVs] at h; subst h; simp [RepVs]
  | x :: xs, vs, 0, y, v, h, k => by
    simp only [RepVs] at h
    obtain ⟨c, r, rfl, h1, h2⟩ := h
    obtain ⟨c', k1, k2⟩ := k
    simp only [List.set_cons_zero, RepVs]
    exact ⟨c', r, by rw [k2], k1, h2⟩
  | x :: xs, vs, i + 1, y, v, h, k => by
    simp only [RepVs] at h
    obtain ⟨c, r, rfl, h1, h2⟩ := h
    simp only [List.set_cons_succ, RepVs]
    exact ⟨c, _, rfl, h1, repVs_set h2 k⟩

theorem s_mapUpdate {g : Nat} {kt vt : TypeId} {l : List ByteArray} {vs : List AV} {s : ByteArray} {v : AV} (hx : opS A x = .mref g) (hg : A g = .mpr (strs l) vs) (hy : opV A y = some (.v (.string s))) (hz : opV A z = some v)
    (hT : C.P.underlying T = some (.map kt vt)) (hk : C.P.underlying kt = some .string) :
    StepU C ⟨none, .mapUpdate T x y z, ty, pos, af, gd⟩ (g :: (opR x ++ (opR y ++ opR z))) [] A [(g, .mpr (strs (mputK l s)) (mputV l vs s v))] := by
  intro A' a w hR hF ⟨G, S⟩
  have hgA : A' g = .mpr (strs l) vs := (hR g List.mem_cons_self).trans hg
  obtain ⟨c, hc1, hc2⟩ := S.opS ((opS_congr (fun k hk => hR k (List.mem_cons_of_mem _ (List.mem_append_left _ hk)))).trans hx) rfl
  simp only [RepS] at hc1
  have hev : a.eval x = .map (some (G.blk g)) := by rw [hc2, hc1]; rfl
  rw [← opV_congr (fun k hk => hR k (List.mem_cons_of_mem _ (List.mem_append_right _ (List.mem_append_left _ hk))))] at hy
  rw [← opV_congr (fun k hk => hR k (List.mem_cons_of_mem _ (List.mem_append_right _ (List.mem_append_right _ hk))))] at hz
  have hys := rep_str (S.opV hy)
  have hzv := S.opV hz
  have hb := S.holds g
  rw [hgA] at hb
  simp only [Holds] at hb
  obtain ⟨how, ⟨es, h1, h2, h3, h4⟩, hni⟩ := hb
  have hkeys : es.toList.map (·.key) = l.map Value.string := repVs_strs h3
  have hlen : es.size = l.length := by have := congrArg List.length hkeys; simpa using this
  have hfind := run_findKey (P := C.P) (s := s) hk hkeys w
  have hobj := run_getMap (P := C.P) h1
  unfold Oper.wp
  cases hm : mfind l s 0 with
  | some i =>
    have hi := mfind_lt hm
    have hie : i < es.size := by omega
    have hkey : es[i].key = .string s := by
      have hk2 : (es.toList.map (·.key))[i]? = (l.map Value.string)[i]? := by rw [hkeys]
      have hsl : l[i]? = some s := by
        have := mfind_get hm
        simpa using this
      simp only [List.getElem?_map, hsl, Option.map_some] at hk2
      rw [Array.getElem?_toList, Array.getElem?_eq_getElem hie] at hk2
      simpa using hk2
    have hrun : (execOp a.eval ⟨none, .mapUpdate T x y z, ty, pos, af, gd⟩).run C.P w = .ok .skip (setBlk w (G.blk g) (.map (es.modify i fun e => { e with key := .string s, val := a.eval z }) es.size)) := by
      have e1 : (es[i]?).map (·.key) = some (.string s) := by rw [Array.getElem?_eq_getElem hie]; simp [hkey]
      have e2 : (es.toList[i]?).map (fun e => (i, e.val)) = some (i, es[i].val) := by rw [Array.getElem?_toList, Array.getElem?_eq_getElem hie]; rfl
      have e3 : Instr.sameBits 10000 (.string s) (.string s) = true := by simp [Instr.sameBits, ba_beq]
      simp only [execOp, Instr.mapUpdate, Sem.run_bind, run_underlying' hT, Result.andThen_ok, hev, hobj, hys, run_checkKey hk, hfind, hm, Option.bind_some, e2, e1, Option.getD_some, Instr.keyThatStays, e3, if_true, Sem.run_pure, run_setMap h1]
    rw [hrun, Oper.upon_skip]
    have hmp : mputK l s = l ∧ mputV l vs s v = vs.set i v := by unfold mputK mputV; rw [hm]; exact ⟨rfl, rfl⟩
    rw [hmp.1, hmp.2]
    refine S.turnO how hni (by rw [hgA]; simp [ownsB]) (fun b h => by simpa only [ownsB] using h) fun hle => ?_
    simp only [Holds]
    refine ⟨⟨how.1, by rw [setBlk_size]; exact how.2⟩, ⟨es.modify i fun e => { e with key := .string s, val := a.eval z }, by rw [setBlk_get how.2]; simp, fun j hj => ?_, ?_, ?_⟩, hni⟩
    · simp only [Array.getElem_modify]
      split
      · exact h2 j (by simpa using hj)
      · exact h2 j (by simpa using hj)
    · have : ((es.modify i fun e => { e with key := .string s, val := a.eval z }).toList.map (·.key)) = es.toList.map (·.key) := by
        refine List.ext_getElem (by simp) fun j h5 h6 => ?_
        simp only [List.getElem_map, Array.getElem_toList, Array.getElem_modify]
        split
        · rename_i hij; subst hij; rw [hkey]
        · rfl
      rw [this]; exact RepVs.mono hle _ _ h3
    · have : ((es.modify i fun e => { e with key := .string s, val := a.eval z }).toList.map (·.val)) = (es.toList.map (·.val)).set i (a.eval z) := by
        refine List.ext_getElem (by simp) fun j h5 h6 => ?_
        simp only [List.getElem_map, Array.getElem_toList, Array.getElem_modify, List.getElem_set]
        split <;> rfl
      rw [this]; exact repVs_set (RepVs.mono hle _ _ h4) (hzv.mono hle)
  | none =>
    have hrun : (execOp a.eval ⟨none, .mapUpdate T x y z, ty, pos, af, gd⟩).run C.P w = .ok .skip (setBlk w (G.blk g) (.map (es.push { key := .string s, val := a.eval z, born := es.size }) (es.size + 1))) := by
      simp only [execOp, Instr.mapUpdate, Sem.run_bind, run_underlying' hT, Result.andThen_ok, hev, hobj, hys, run_checkKey hk, hfind, hm, Option.bind_none, Sem.run_pure, run_setMap h1]
    rw [hrun, Oper.upon_skip]
    have hmp : mputK l s = l ++ [s] ∧ mputV l vs s v = vs ++ [v] := by unfold mputK mputV; rw [hm]; exact ⟨rfl, rfl⟩
    rw [hmp.1, hmp.2]
    refine S.turnO how hni (by rw [hgA]; simp [ownsB]) (fun b h => by simpa only [ownsB] using h) fun hle => ?_
    simp only [Holds]
    refine ⟨⟨how.1, by rw [setBlk_size]; exact how.2⟩, ⟨es.push { key := .string s, val := a.eval z, born := es.size }, by rw [setBlk_get how.2]; simp, fun j hj => ?_, ?_, ?_⟩, hni⟩
    · simp only [Array.getElem_push]
      split
      · rename_i hj2; exact h2 j hj2
      · rename_i hj2; simp at hj; show es.size = j; omega
    · have e : strs (l ++ [s]) = strs l ++ [.v (.string s)] := by simp [strs]
      rw [e]
      simp only [Array.toList_push, List.map_append, List.map_cons, List.map_nil]
      exact repVs_append (RepVs.mono hle _ _ h3) (by simp only [RepVs]; exact ⟨[.string s], [], by simp [mkV, AV.isAgg], by simp [RepC, Value.cells, Al.plain], rfl⟩)
    · simp only [Array.toList_push, List.map_append, List.map_cons, List.map_nil]
      obtain ⟨cz, k1, k2⟩ := hzv.mono hle
      exact repVs_append (RepVs.mono hle _ _ h4) (by simp only [RepVs]; exact ⟨cz, [], by rw [k2], k1, rfl⟩)

theorem s_lookup {g : Nat} {kt vt : TypeId} {l : List ByteArray} {vs : List AV} {s : ByteArray} {v : AV} {i : Nat} (hN : Nat.blt d C.N = true) (hx : opS A x = .mref g) (hg : A g = .mpr (strs l) vs) (hy : opV A y = some (.v (.string s)))
    (hT : C.P.underlying T = some (.map kt vt)) (hk : C.P.underlying kt = some .string) (hm : mfind l s 0 = some i) (hv : vs[i]? = some v) :
    StepU C ⟨some d, .lookup T x y false, ty, pos, af, gd⟩ (g :: (opR x ++ opR y)) [] A [(d, .imm v)] := by
  refine StepU.value rfl hN fun A' G a w hR S => ?_
  have hgA : A' g = .mpr (strs l) vs := (hR g List.mem_cons_self).trans hg
  obtain ⟨c, hc1, hc2⟩ := S.opS ((opS_congr (fun k hk => hR k (List.mem_cons_of_mem _ (List.mem_append_left _ hk)))).trans hx) rfl
  simp only [RepS] at hc1
  have hev : a.eval x = .map (some (G.blk g)) := by rw [hc2, hc1]; rfl
  rw [← opV_congr (fun k hk => hR k (List.mem_cons_of_mem _ (List.mem_append_right _ hk)))] at hy
  have hys := rep_str (S.opV hy)
  have hb := S.holds g
  rw [hgA] at hb
  simp only [Holds] at hb
  obtain ⟨how, ⟨es, h1, h2, h3, h4⟩, hni⟩ := hb
  have hkeys : es.toList.map (·.key) = l.map Value.string := repVs_strs h3
  have hlen : es.size = l.length := by have := congrArg List.length hkeys; simpa using this
  have hi := mfind_lt hm
  have hie : i < es.size := by omega
  have hfind := run_findKey (P := C.P) (s := s) hk hkeys w
  have hobj := run_getMap (P := C.P) h1
  have e2 : (es.toList[i]?).map (fun e => (i, e.val)) = some (i, es[i].val) := by rw [Array.getElem?_toList, Array.getElem?_eq_getElem hie]; rfl
  obtain ⟨u, hu1, hu2⟩ := repVs_get h4 hv
  simp only [List.getElem?_map, Array.getElem?_toList, Array.getElem?_eq_getElem hie, Option.map_some, Option.some.injEq] at hu1
  refine ⟨u, ?_, valS_imm.2 hu2⟩
  simp only [execOp, Instr.lookup, Sem.run_bind, run_underlying' hT, Result.andThen_ok, hev, hobj, hys, Sem.run_pure, run_checkKey hk, hfind, hm, Option.bind_some, e2, Bool.false_eq_true, if_false, hu1]

theorem s_range {gm : Nat} (g : Nat) {kt vt : TypeId} {ks vs : List AV} (hgN : Nat.ble C.N g = true) (hgK : Nat.blt g C.K = true) (hN : Nat.blt d C.N = true) (hgm : Nat.beq g gm = false) (hx : opS A x = .mref gm) (hg : A gm = .mpr ks vs) (hT : C.P.underlying T = some (.map kt vt)) :
    StepU C ⟨some d, .range T x, ty, pos, af, gd⟩ (gm :: opR x) [g] A [(g, .itr gm ks.length []), (d, .ptr g 0)] := by
  intro A' a w hR hF ⟨G, S⟩
  have hN' : d < C.N := by simpa [Nat.blt_eq] using hN
  have hgd : g ≠ d := by have := Nat.le_of_ble_eq_true hgN; omega
  have hgne : gm ≠ g := by rintro rfl; rw [Nat.beq_refl] at hgm; cases hgm
  have hgA : A' gm = .mpr ks vs := (hR gm List.mem_cons_self).trans hg
  obtain ⟨c, hc1, hc2⟩ := S.opS ((opS_congr (fun k hk => hR k (List.mem_cons_of_mem _ hk))).trans hx) rfl
  simp only [RepS] at hc1
  have hev : a.eval x = .map (some (G.blk gm)) := by rw [hc2, hc1]; rfl
  have hb := S.holds gm
  rw [hgA] at hb
  simp only [Holds] at hb
  obtain ⟨how, ⟨es, h1, h2, h3, h4⟩, hni⟩ := hb
  have hlen : es.size = ks.length := by have := repVs_len h3; simpa using this
  unfold Oper.wp
  have hrun : (execOp a.eval ⟨some d, .range T x, ty, pos, af, gd⟩).run C.P w = .ok (.value (.pointer (some ⟨w.heap.size, 0, none⟩))) (w.alloc (.mapIter (some (G.blk gm)) es.size #[] es.size)) := by
    simp only [execOp, Instr.range, Sem.run_bind, run_underlying' hT, Result.andThen_ok, hev, run_getMap h1, Sem.run_pure, run_newObj]
    rfl
  rw [hrun, Oper.upon_value]
  refine S.allocO hgd (by simpa [Nat.blt_eq] using hgK) hN' (fun _ _ h => by simpa only [ownsB] using h) (fun G' e hother hg hle hni => ?_) (fun G' e => ?_) (fun k hk => hF k hk)
  · simp only [Holds]
    refine ⟨⟨.inl (by rw [e]; exact S.size), by rw [e]; simp⟩, ?_, fun o => ?_⟩
    · rw [e, hother gm hgne, ← hlen]; exact alloc_new
    · rw [e]; exact hni o
  · exact ⟨[.pointer (some ⟨w.heap.size, 0, none⟩)], by simp [RepS, e], by simp [mkS, SV.isAgg]⟩
end
end Go.Al

namespace Go.Al
open Go.RowKit

/-! ### A row of texts of one's own, which the library's sort turns -/

/-- So many things of no width. -/
def units (n : Nat) : List AV := List.replicate n (.agg [])
@[simp] theorem units_length (n : Nat) : (units n).length = n := List.length_replicate

theorem repM_units {w : World} {I : Nat → Nat → Prop} : ∀ (n b o : Nat), RepM w I 0 (units n) b o
  | 0, _, _ => by simp only [units, List.replicate_zero, RepM]
  | n + 1, b, o => by
    have := repM_units (w := w) (I := I) n b (o + 0)
    simp only [units] at this
    simp only [units, List.replicate_succ, RepM]
    exact ⟨⟨[], rfl, by simp only [RepC, RepCs], fun j hj => by simp at hj⟩, this⟩

theorem repS_units {w : World} {G : Gh} {g n b cap : Nat} (h : n = G.len g) (hc : G.cur g = .slice (some ⟨b, 0, none⟩) n cap) (h1 : n ≤ cap) (h2 : cap ≤ maxLen) : RepS w G (.slg g 0 (units n)) [.slice (some ⟨b, 0, none⟩) n cap] := by
  simp only [RepS, RepC]
  exact ⟨_, rfl, ⟨_, rfl, .inr ⟨b, 0, cap, by simp, by simpa using h1, h2, repM_units n b 0⟩⟩, by simp [h], fun _ => hc.symm⟩

/-- Whose block a row of texts is in. -/
def inRow (G : Gh) (g k : Nat) : Prop := ∃ a n c, G.cur g = .slice (some a) n c ∧ a.block = k

theorem SimG.turnR {C : Cx} {A : Nat → SV} {G : Gh} {a : Act} {w w' : World} (S : SimG C A G a w) {g : Nat} {l l' : List ByteArray} {v' : Value} (hA : A g = .row l)
    (hos : w'.os = w.os) (htape : w'.tape = w.tape) (hout : w'.output = w.output) (hsz : w.heap.size ≤ w'.heap.size) (hblk : ∀ k, k < w.heap.size → ¬ inRow G g k → w'.heap[k]? = w.heap[k]?)
    (hlt : l.length < l'.length) (hrow : RowS C.w0 C.E G.I w' v' l') (hnew : ∀ ad n c, v' = .slice (some ad) n c → inRow G g ad.block ∨ w.heap.size ≤ ad.block) :
    SimG C (upd A [(g, .row l')]) { G with cur := fun j => if j = g then v' else G.cur j, len := fun j => if j = g then l'.length else G.len j } a w' := by
  let G' : Gh := { G with cur := fun j => if j = g then v' else G.cur j, len := fun j => if j = g then l'.length else G.len j }
  have hh := S.holds g
  rw [hA] at hh
  simp only [Holds] at hh
  obtain ⟨hlen, hr⟩ := hh
  have hown : ∀ k, inRow G g k → ownsB G g k (A g) := fun k hk => by rw [hA]; simp only [ownsB]; exact hk
  have hni : ∀ k o, inRow G g k → ¬ G.I k o := by
    rintro k o ⟨ad, n, c, e1, rfl⟩
    rcases hr with ⟨e, _⟩ | ⟨b, cap, e, _, _, _, _, h8⟩
    · rw [e] at e1; cases e1
    · rw [e] at e1; cases e1; exact h8 o
  have hle : Le w G.I w' G'.I := fun b o h => ⟨h, kp_of_block (hblk b (S.val b o h) fun hk => hni b o hk h)⟩
  have hg : GRel [] G G' := fun j _ => by
    refine ⟨rfl, ?_⟩
    by_cases hj : j = g
    · right; simp only [G', hj, if_true]; omega
    · left; simp only [G', if_neg hj]; exact ⟨trivial, trivial⟩
  have conv : ∀ k b, ownsB G' k b (upd A [(g, .row l')] k) → (k = g ∧ (inRow G g b ∨ w.heap.size ≤ b)) ∨ (k ≠ g ∧ ownsB G k b (A k)) := by
    intro k b h
    rw [upd_one] at h
    split at h
    · rename_i hk
      simp only [ownsB, G', hk, if_true] at h
      obtain ⟨ad, n, c, e1, rfl⟩ := h
      exact .inl ⟨hk, hnew ad n c e1⟩
    · rename_i hk
      refine .inr ⟨hk, ?_⟩
      revert h
      generalize A k = y
      cases y <;> simp only [ownsB, G', if_neg hk] <;> exact id
  refine ⟨hos.trans S.os, htape.trans S.tape, hout.trans S.output, Nat.le_trans S.size hsz, fun k h1 h2 => ?_, S.sub.trans hle, fun j hj => (S.rel j hj).trans (hg j (by simp)), S.glob.mono hle, S.new, fun b o h => Nat.lt_of_lt_of_le (S.val b o h) hsz, S.nts, S.dfs, fun k => ?_, ?_⟩
  · rw [hblk k (Nat.lt_of_lt_of_le h1 S.size) ?_]
    · exact S.block k h1 h2
    · rintro ⟨ad, n, c, e1, rfl⟩
      rcases hr with ⟨e, _⟩ | ⟨b, cap, e, _, _, h4, _⟩
      · rw [e] at e1; cases e1
      · rw [e] at e1; cases e1
        rcases h4.1 with h | h
        · simp only at h1; omega
        · exact h2 h
  · rw [upd_one]
    split
    · rename_i hk; subst hk
      simp only [Holds, G', if_true]
      exact ⟨trivial, hrow⟩
    · rename_i hk
      refine (S.holds k).keep hle hg (noG_nil.1 _) hsz (fun h => ⟨h, rfl⟩) (fun _ => ⟨rfl, by simp only [G', if_neg hk], by simp only [G', if_neg hk]⟩) (fun b hb => ⟨hblk b (ownsB_lt S hb) fun hin => S.apart k g b hk hb (hown b hin), fun _ h => h⟩)
  · intro k j b hkj h1 h2
    rcases conv k b h1 with ⟨e1, e2⟩ | ⟨e1, e2⟩ <;> rcases conv j b h2 with ⟨e3, e4⟩ | ⟨e3, e4⟩
    · exact hkj (e1.trans e3.symm)
    · rcases e2 with e2 | e2
      · exact S.apart j g b e3 e4 (hown b e2)
      · have := ownsB_lt S e4; omega
    · rcases e4 with e4 | e4
      · exact S.apart k g b e1 e2 (hown b e4)
      · have := ownsB_lt S e2; omega
    · exact S.apart k j b hkj e2 e4

theorem SimG.newrow {C : Cx} {A : Nat → SV} {G : Gh} {a : Act} {w : World} (S : SimG C A G a w) {g k : Nat} (hgN : C.N ≤ g) (hgK : g < C.K) (hk : A k = .imm (.v (.slice none 0 0))) (hf : ∀ j, noG [g] (A j) = true) :
    Sim C (upd A [(g, .row []), (k, .slg g 0 (units 0))]) a w := by
  let G' : Gh := { G with cur := fun j => if j = g then .slice none 0 0 else G.cur j, len := fun j => if j = g then 0 else G.len j }
  have hg : GRel [g] G G' := fun j hj => by
    have hjg : j ≠ g := by simpa using hj
    exact ⟨rfl, .inl ⟨by simp only [G', if_neg hjg], by simp only [G', if_neg hjg]⟩⟩
  have hle := Le.refl w G.I
  have hkN : k < C.N := by
    have := S.holds k
    rw [hk] at this
    have h1 := this.1
    rw [S.nts] at h1; exact h1
  have hkg : g ≠ k := by omega
  have hu : ∀ j, upd A [(g, .row []), (k, .slg g 0 (units 0))] j = if j = g then .row [] else if j = k then .slg g 0 (units 0) else A j := by
    intro j
    simp only [upd]
    by_cases h1 : j = g
    · subst h1; simp
    · rw [nat_beq_false (Ne.symm h1), if_neg h1]
      by_cases h2 : j = k
      · subst h2; simp
      · rw [nat_beq_false (Ne.symm h2), if_neg h2]; rfl
  have own' : ∀ j b, ownsB G' j b (upd A [(g, .row []), (k, .slg g 0 (units 0))] j) → j ≠ g ∧ ownsB G j b (A j) := by
    intro j b h
    rw [hu] at h
    split at h
    · rename_i hj
      simp only [ownsB, G', hj, if_true] at h
      obtain ⟨_, _, _, h1, _⟩ := h
      cases h1
    · rename_i hj
      refine ⟨hj, ?_⟩
      split at h
      · simp only [ownsB] at h
      · revert h
        generalize A j = y
        cases y <;> simp only [ownsB, G', if_neg hj] <;> exact id
  refine ⟨G', S.os, S.tape, S.output, S.size, S.block, S.sub.trans hle, fun j hj => (S.rel j hj).trans (hg j (by simp; omega)), S.glob, S.new, S.val, S.nts, S.dfs, fun j => ?_, fun j j' b hj h1 h2 => S.apart j j' b hj (own' j b h1).2 (own' j' b h2).2⟩
  rw [hu]
  split
  · rename_i hj; subst hj
    simp only [Holds, G', if_true]
    exact ⟨rfl, .inl ⟨rfl, rfl⟩⟩
  · rename_i hj
    split
    · rename_i hjk; subst hjk
      have hh := S.holds j
      rw [hk] at hh
      refine ⟨hh.1, ⟨[.slice none 0 0], ?_, ?_⟩⟩
      · simp only [RepS, RepC]
        exact ⟨_, rfl, ⟨_, rfl, .inl (by simpa [units] using nil_sl 0)⟩, by simp [units], fun _ => by simp only [G', if_true]⟩
      · exact rep_val (S.imm hk) rfl
    · exact (S.holds j).keep hle hg (hf j) (Nat.le_refl _) (fun h => ⟨h, rfl⟩) (fun _ => ⟨rfl, by simp only [G', if_neg hj], by simp only [G', if_neg hj]⟩) (fun b _ => ⟨rfl, fun _ h => h⟩)

theorem aw_newrow {C : Cx} {c : Code} {st : St} {Q : Exit → St → Prop} (g k : Nat) (hgN : Nat.ble C.N g = true) (hgK : Nat.blt g C.K = true) (hk : look st k = .imm (.v (.slice none 0 0))) (hf : freshB [g] st = true)
    (h : AW C c ((g, .row []) :: (k, .slg g 0 (units 0)) :: st) Q) : AW C c st Q := by
  intro a w ⟨G, S⟩
  have := S.newrow (Nat.le_of_ble_eq_true hgN) (by simpa [Nat.blt_eq] using hgK) hk (freshB_spec st hf)
  rw [upd_look] at this
  exact h a w this

theorem run_append_fit {P : Program} {w : World} {T T' ty el T1 : TypeId} {b len cap n : Nat} {cs : Array Value} {T0 : TypeId} {fr : Nat × Nat} {y : Value} {e : Value} (hT : P.underlying T = some (.slice el)) (hT' : P.underlying T' = some (.slice T1)) (hn : tySize P el = some 1)
    (hfit : len + 1 ≤ cap) (hb : w.heap[b]? = some (.cells cs T0 fr)) (hsz : cs.size = cap) (huf : unfrozen fr cs.size) (hp : plain e = true)
    (k2 : (Builtin.lenOf y).run P w = .ok 1 w) (k3 : (Builtin.firstCells 1 1 y).run P w = .ok #[e] w) :
    (Builtin.append_ #[T, T'] ty #[.slice (some ⟨b, 0, none⟩) len cap, y]).run P w = .ok (.slice (some ⟨b, 0, none⟩) (len + 1) cap) (setBlk w b (.cells (splice cs len [e]) T0 fr)) := by
  have e1 : (#[T, T'] : Array TypeId)[0]? = some T := rfl
  have e2 : (#[T, T'] : Array TypeId)[1]? = some T' := rfl
  have e3 : (#[Value.slice (some ⟨b, 0, none⟩) len cap, y] : Array Value)[0]? = some (Value.slice (some ⟨b, 0, none⟩) len cap) := rfl
  have e4 : (#[Value.slice (some ⟨b, 0, none⟩) len cap, y] : Array Value)[1]? = some y := rfl
  have hst := run_storeCells (P := P) (b := b) (o := len * 1) [e] 0 w cs hb huf (by simp; omega) (by simp [hp])
  simp only [Builtin.append_, e1, e2, e3, e4]
  simp only [Sem.run_bind, run_underlying' hT, run_underlying' hT', Result.andThen_ok, run_sizeOf hn, Sem.run_pure, Bool.false_eq_true, if_false, k2]
  simp only [hfit, if_true, Bool.not_false, Sem.run_bind, k3, Result.andThen_ok, addr_add, Nat.zero_add, Sem.run_pure]
  rw [hst]
  simp only [Result.andThen_ok, Nat.mul_one, Nat.add_zero]

theorem run_append_grow {P : Program} {w : World} {T T' ty el T1 : TypeId} {base : Option Addr} {len sCap by_ : Nat} {old : List Value} {y : Value} {e z : Value} {inf : TypeInfo} (hT : P.underlying T = some (.slice el)) (hT' : P.underlying T' = some (.slice T1)) (hn : tySize P el = some 1)
    (hz : tyZero P el = some z) (hzn : z.cells.size = 1) (hi : P.info? el = some inf) (hib : inf.bytes = by_) (hB : (2 * (len + 1) + 192) * by_ ≤ 281474976710656) (hL : len + 1 < 9223372036854775808) (hlt : sCap < len + 1) (hsl : sCap ≤ len + 1)
    (hol : old.length = len) (k2 : ∀ w0 : World, w0.heap = w.heap → (Builtin.lenOf y).run P w0 = .ok 1 w0 ∧ (Builtin.firstCells 1 1 y).run P w0 = .ok #[e] w0)
    (hold : ∀ w0 : World, w0.heap = w.heap → (Builtin.firstCells 1 len (.slice base len sCap)).run P w0 = .ok old.toArray w0) :
    ∃ newCap cs n, len + 1 ≤ newCap ∧ newCap ≤ maxLen ∧ cs.size = newCap ∧ cs.toList.take (len + 1) = old ++ [e] ∧
      (Builtin.append_ #[T, T'] ty #[.slice base len sCap, y]).run P w = .ok (.slice (some ⟨w.heap.size, 0, none⟩) (len + 1) newCap) (World.alloc { w with drawn := n } (.cells cs el)) := by
  obtain ⟨newCap, hnew⟩ : ∃ k, k = Question.cut (.appendCap (len + 1) sCap el) (w.tape w.drawn (.appendCap (len + 1) sCap el)) := ⟨_, rfl⟩
  have hnc : len + 1 ≤ newCap ∧ newCap ≤ maxLen := by
    have h63 : (0 : Nat) < 2 ^ 63 - (len + 1) := by omega
    rw [hnew]
    constructor
    · simp only [Question.cut]; omega
    · simp only [Question.cut]
      have := Nat.mod_lt (w.tape w.drawn (.appendCap (len + 1) sCap el)) h63
      unfold maxLen
      omega
  let cs : Array Value := old.toArray ++ #[e] ++ Builtin.zeroCells z.cells (newCap - (len + 1))
  have hcs : cs.toList.take (len + 1) = old ++ [e] := by
    have : cs.toList = (old ++ [e]) ++ (Builtin.zeroCells z.cells (newCap - (len + 1))).toList := by simp [cs]
    rw [this, List.take_append_of_le_length (by simp [hol]), List.take_of_length_le (by simp [hol])]
  have hcsz : cs.size = newCap := by
    have hzc : (Builtin.zeroCells z.cells (newCap - (len + 1))).size = (newCap - (len + 1)) := by simp [Builtin.zeroCells, hzn]
    simp only [cs, Array.size_append, hzc]
    simp [hol]; omega
  refine ⟨newCap, cs, w.drawn + 1, hnc.1, hnc.2, hcsz, hcs, ?_⟩
  have hbd := nextslicecap_bound (need := len + 1) (old := sCap) hsl
  have hnb : ¬ (Builtin.nextslicecap (len + 1) sCap * inf.bytes > 2 ^ 48) := by
    rw [hib]
    have := Nat.mul_le_mul_right by_ hbd
    have : (2 : Nat) ^ 48 = 281474976710656 := rfl
    omega
  have hi1 : ¬ (((len + 1 : Nat) : Int) > IntKind.i64.max) := by
    have : IntKind.i64.max = 9223372036854775807 := by decide
    rw [this]; omega
  have hfc1 := hold ⟨w.heap, w.tape, w.drawn + 1, w.os, w.output⟩ rfl
  have hfc2 : (Builtin.firstCells 1 1 y).run P ⟨w.heap, w.tape, w.drawn + 1, w.os, w.output⟩ = .ok #[e] ⟨w.heap, w.tape, w.drawn + 1, w.os, w.output⟩ := (k2 ⟨w.heap, w.tape, w.drawn + 1, w.os, w.output⟩ rfl).2
  have hnf : (Question.appendCap (len + 1) sCap el).forced = false := rfl
  have e1 : (#[T, T'] : Array TypeId)[0]? = some T := rfl
  have e2 : (#[T, T'] : Array TypeId)[1]? = some T' := rfl
  have e3 : (#[Value.slice base len sCap, y] : Array Value)[0]? = some (Value.slice base len sCap) := rfl
  have e4 : (#[Value.slice base len sCap, y] : Array Value)[1]? = some y := rfl
  have hne : ¬ (len + 1 ≤ sCap) := by omega
  have k2' := (k2 w rfl).1
  simp only [Builtin.append_, e1, e2, e3, e4]
  simp only [Sem.run_bind, run_underlying' hT, run_underlying' hT', Result.andThen_ok, run_sizeOf hn, Sem.run_pure, Bool.false_eq_true, if_false, k2', hne, run_typeInfo' hi, Sem.run_ite, false_or]
  simp only [hi1, false_and, if_false, Bool.not_false, if_true, Sem.run_bind, run_choose, hnf, Bool.false_eq_true, hnb, Result.andThen_ok, ← hnew, run_askRoom, hfc1, hfc2, run_zeroValue hz, newRow, run_newObj, Sem.run_pure]
  rfl

section
variable {C : Cx} {A : Nat → SV} {d : Nat} {ty : TypeId} {pos : String} {af : Array Edge} {gd : Option (Nat × Bool)} {x y z : Operand} {T T' : TypeId}

/-- One text more at the end of a row of texts. -/
theorem s_appendR {g by_ : Nat} {l : List ByteArray} {s : ByteArray} {el : TypeId} {T1 : TypeId} {z : Value} (hgN : Nat.ble C.N g = true) (hN : Nat.blt d C.N = true) (hx : opS A x = .slg g 0 (units l.length)) (hg : A g = .row l) (hy : opV A y = some (.sl 1 [.v (.string s)])) (hT : C.P.underlying T = some (.slice el)) (hT' : C.P.underlying T' = some (.slice T1))
    (hn : tySize C.P el = some 1) (hz : tyZero C.P el = some z) (hzn : z.cells.size = 1) (hb : (C.P.info? el).map (·.bytes) = some by_) (hB : (2 * (l.length + 1) + 192) * by_ ≤ 281474976710656) (hL : l.length + 1 < 9223372036854775808) :
    StepU C ⟨some d, .call { callee := .builtin .append, args := #[x, y], argTypes := #[T, T'] }, ty, pos, af, gd⟩ (g :: (opR x ++ opR y)) [] A [(g, .row (l ++ [s])), (d, .slg g 0 (units (l.length + 1)))] := by
  intro A' a w hR hF ⟨G, S⟩
  have hgA : A' g = .row l := (hR g List.mem_cons_self).trans hg
  have hgd : g ≠ d := by
    have h1 := Nat.le_of_ble_eq_true hgN
    have h2 : d < C.N := by simpa [Nat.blt_eq] using hN
    omega
  obtain ⟨c, hc1, hc2⟩ := S.opS ((opS_congr (fun k hk => hR k (List.mem_cons_of_mem _ (List.mem_append_left _ hk)))).trans hx) rfl
  simp only [RepS] at hc1
  obtain ⟨v, rfl, hv1, hv2, hv3⟩ := hc1
  have hx' : a.eval x = v := hc2
  rw [← opV_congr (fun k hk => hR k (List.mem_cons_of_mem _ (List.mem_append_right _ hk)))] at hy
  have hyR := S.opV hy
  have ht := S.holds g
  rw [hgA] at ht
  simp only [Holds] at ht
  obtain ⟨hlen, ht⟩ := ht
  have hcur : v = G.cur g := hv3 (by simpa using hlen.symm)
  obtain ⟨es, k1, k23⟩ := run_firstCells (P := C.P) hyR
  have hes : es = [.string s] := by
    simp only [RepE] at k1
    obtain ⟨c1, c2, rfl, _, h1, rfl⟩ := k1
    simp only [RepC] at h1
    rw [h1.1]; simp [Value.cells]
  subst hes
  obtain ⟨inf, hi, hib⟩ : ∃ inf, C.P.info? el = some inf ∧ inf.bytes = by_ := by
    cases hi : C.P.info? el with
    | none => rw [hi] at hb; cases hb
    | some inf => rw [hi] at hb; exact ⟨inf, rfl, by simpa using hb⟩
  have fin : ∀ (v' : Value) (w' : World), (Builtin.append_ #[T, T'] ty #[a.eval x, a.eval y]).run C.P w = .ok v' w' → SimG C (upd A' [(g, .row (l ++ [s]))]) { G with cur := fun j => if j = g then v' else G.cur j, len := fun j => if j = g then (l ++ [s]).length else G.len j } a w' →
      (∃ b cap, v' = .slice (some ⟨b, 0, none⟩) (l.length + 1) cap ∧ l.length + 1 ≤ cap ∧ cap ≤ maxLen) →
      (execOp a.eval ⟨some d, .call { callee := .builtin .append, args := #[x, y], argTypes := #[T, T'] }, ty, pos, af, gd⟩).run C.P w = .ok (.value v') w' ∧ Sim C (upd A' [(g, .row (l ++ [s])), (d, .slg g 0 (units (l.length + 1)))]) (a.put (some d) v') w' := by
    rintro v' w' hrun S' ⟨b, cap, rfl, h1, h2⟩
    refine ⟨run_resolve_append hrun, ?_⟩
    have := S'.put (d := d) (by simpa [Nat.blt_eq] using hN) (x := .slg g 0 (units (l.length + 1))) (v := .slice (some ⟨b, 0, none⟩) (l.length + 1) cap) ⟨[.slice (some ⟨b, 0, none⟩) (l.length + 1) cap], repS_units (by simp) (by simp) h1 h2, rfl⟩
    have e : upd (upd A' [(g, .row (l ++ [s]))]) [(d, .slg g 0 (units (l.length + 1)))] = upd A' [(g, .row (l ++ [s])), (d, .slg g 0 (units (l.length + 1)))] := by
      funext k
      simp only [upd]
      by_cases hkd : d = k
      · subst hkd; rw [nat_beq_false hgd]; simp
      · rw [nat_beq_false hkd]; simp
    rw [e] at this
    exact ⟨_, this⟩
  have key : ∃ v' w', (execOp a.eval ⟨some d, .call { callee := .builtin .append, args := #[x, y], argTypes := #[T, T'] }, ty, pos, af, gd⟩).run C.P w = .ok (.value v') w' ∧ Sim C (upd A' [(g, .row (l ++ [s])), (d, .slg g 0 (units (l.length + 1)))]) (a.put (some d) v') w' := by
    have grow : ∀ (base : Option Addr) (sCap : Nat), a.eval x = .slice base l.length sCap → sCap < l.length + 1 → sCap ≤ l.length + 1 → (∀ w0 : World, w0.heap = w.heap → (Builtin.firstCells 1 l.length (.slice base l.length sCap)).run C.P w0 = .ok (l.map Value.string).toArray w0) →
        ∃ v' w', (execOp a.eval ⟨some d, .call { callee := .builtin .append, args := #[x, y], argTypes := #[T, T'] }, ty, pos, af, gd⟩).run C.P w = .ok (.value v') w' ∧ Sim C (upd A' [(g, .row (l ++ [s])), (d, .slg g 0 (units (l.length + 1)))]) (a.put (some d) v') w' := by
      intro base sCap hev h1 h2 hold
      obtain ⟨newCap, cs, n, q1, q2, q3, q4, q5⟩ := run_append_grow (P := C.P) (w := w) (ty := ty) (base := base) (len := l.length) (sCap := sCap) (old := l.map Value.string) (y := a.eval y) (e := .string s) hT hT' hn hz hzn hi hib hB hL h1 h2 (by simp) (fun w0 h => k23 w0 h) hold
      rw [← hev] at q5
      refine ⟨_, _, fin _ _ q5 (S.turnR hgA rfl rfl rfl (by simp) (fun k hk _ => alloc_old (w := { w with drawn := n }) hk) (by simp) (.inr ⟨w.heap.size, newCap, by simp, by simpa using q1, q2, ⟨.inl S.size, by simp⟩, ⟨cs, el, alloc_new (w := { w with drawn := n }), q3, by simpa using q4⟩, fun o hi => ?_⟩) (fun ad n' c h => by cases h; exact .inr (Nat.le_refl _))) ⟨_, _, rfl, q1, q2⟩⟩
      have := S.val _ _ hi
      omega
    rcases ht with ⟨e, rfl⟩ | ⟨b, cap, e, h2, h3, h4, ⟨cs, T0, h5, h6, h7⟩, h8⟩
    · have hev : a.eval x = .slice none 0 0 := by rw [hx', hcur, e]
      exact grow none 0 hev (by simp) (by simp) (fun w0 _ => rfl)
    · have hev : a.eval x = .slice (some ⟨b, 0, none⟩) l.length cap := by rw [hx', hcur, e]
      by_cases hfit : l.length + 1 ≤ cap
      · have hr := run_append_fit (P := C.P) (w := w) (ty := ty) (y := a.eval y) (e := .string s) (n := 1) hT hT' hn hfit h5 h6 (fun o _ => by simp) rfl (k23 w rfl).1 (k23 w rfl).2
        rw [← hev] at hr
        have hblt : b < w.heap.size := h4.2
        refine ⟨_, _, fin _ _ hr (S.turnR hgA rfl rfl rfl (by rw [setBlk_size]; exact Nat.le_refl _) (fun k hk hn => setBlk_ne (fun hkb => hn ⟨⟨b, 0, none⟩, _, _, e, hkb.symm⟩)) (by simp)
          (.inr ⟨b, cap, by simp, by simpa using hfit, h3, ⟨h4.1, by rw [setBlk_size]; exact h4.2⟩, ⟨_, T0, setBlk_get hblt, by simp [splice, h6], ?_⟩, h8⟩) (fun ad n' c h => by cases h; exact .inl ⟨_, _, _, e, rfl⟩)) ⟨_, _, rfl, hfit, h3⟩⟩
        simp only [splice, Nat.add_zero, List.length_append, List.length_cons, List.length_nil]
        rw [Array.toList_setIfInBounds]
        apply List.ext_getElem?
        intro j
        by_cases hj : j < l.length
        · have h9 : (cs.toList.take l.length)[j]? = (l.map Value.string)[j]? := by rw [h7]
          rw [List.getElem?_take_of_lt hj] at h9
          rw [List.getElem?_take_of_lt (by omega), List.getElem?_set_ne (by omega), h9, List.map_append, List.getElem?_append_left (by simpa using hj)]
        · by_cases hj2 : j = l.length
          · subst hj2
            rw [List.getElem?_take_of_lt (by omega), List.getElem?_set_self (by simp; omega), List.map_append, List.getElem?_append_right (by simp)]
            simp
          · rw [List.getElem?_take_eq_none (by omega), List.getElem?_eq_none (by simp; omega)]
      · refine grow _ cap hev (by omega) (by omega) fun w0 hw0 => ?_
        simp only [Builtin.firstCells]
        have hl : (l.map Value.string).length = l.length * 1 := by simp
        rw [← hl]
        refine run_loadCells (l.map Value.string) fun j hj => ?_
        have hj' : j < l.length := by simpa using hj
        have h9 : (cs.toList.take l.length)[j]? = (l.map Value.string)[j]? := by rw [h7]
        rw [List.getElem?_take_of_lt hj', Array.getElem?_toList] at h9
        simp only [World.cell?, hw0, h5, Nat.zero_add]
        simp only [Option.isSome_none, Bool.false_eq_true, if_false]
        rw [h9]
        simp [hj']
  obtain ⟨v', w', hrun, S'⟩ := key
  unfold Oper.wp
  rw [hrun, Oper.upon_value]
  exact S'
end
end Go.Al

namespace Go.Al
open Go.RowKit

/-! ### The library's sort of texts -/

def sortB (l : List ByteArray) : List ByteArray := ((l.map fun s => s.data.toList).mergeSort fun x y => decide (x ≤ y)).map fun b => ⟨b.toArray⟩

theorem sortB_length (l : List ByteArray) : (sortB l).length = l.length := by simp [sortB]

structure SortC (P : Program) (Γ : List (Nat × AV)) (f : FuncId) : Prop where
  call : callable P f = true
  sorts : ∀ (blk cap : Nat) (ss : List (List UInt8)) (w : World), Sort.Holds Proofs.encStr w blk 0 ss.toArray → blk < w.heap.size → ss.length < 4611686018427387904 →
    Calls P f #[.slice (some ⟨blk, 0, none⟩) ss.length cap] w fun e w' =>
      e = .returned (.tuple #[]) ∧ ∃ n os, w' = Sort.grow (Sort.putRow Proofs.encStr (Sort.ahead w n) blk 0 (ss.mergeSort fun x y => decide (x ≤ y)).toArray) os
  empty : PCall P Γ f [.v (.slice none 0 0)] []

theorem repM_strs {w : World} {I : Nat → Nat → Prop} {b : Nat} : ∀ (ts : List ByteArray) (o : Nat), (∀ j (h : j < ts.length), w.cell? ⟨b, o + j, none⟩ = some (.string ts[j]) ∧ I b (o + j)) → RepM w I 1 (strs ts) b o
  | [], o, _ => by simp only [strs, List.map_nil, RepM]
  | t :: ts, o, h => by
    simp only [strs, List.map_cons, RepM]
    refine ⟨⟨[.string t], rfl, by simp [RepC, Value.cells, plain], fun j hj => ?_⟩, ?_⟩
    · have : j = 0 := by simpa using hj
      subst this
      exact h 0 (by simp)
    · refine repM_strs ts (o + 1) fun j hj => ?_
      have := h (j + 1) (by simpa using hj)
      rw [show o + 1 + j = o + (j + 1) from by omega]
      exact this

theorem enc_map (l : List ByteArray) : (l.map fun s => s.data.toList).map Proofs.encStr = l.map Value.string := by
  simp [Proofs.encStr]

section
variable {C : Cx} {A : Nat → SV} {d : Nat} {ty : TypeId} {pos : String} {af : Array Edge} {gd : Option (Nat × Bool)} {x y z : Operand} {T T' : TypeId}

/-- Slots may be told anew. -/
theorem SimG.retell {A B : Nat → SV} {G : Gh} {a : Act} {w : World} (S : SimG C A G a w) (h : ∀ k, B k = A k ∨ B k = .dead ∨ (k < C.N ∧ SlotS w G (B k) (a.tmps.getD k Go.undef))) : SimG C B G a w := by
  have hno : ∀ k b, ownsB G k b (B k) → B k = A k := by
    intro k b hb
    rcases h k with e | e | ⟨_, e⟩
    · exact e
    · rw [e] at hb; simp only [ownsB] at hb
    · exact absurd hb (e.notOwn k b)
  refine ⟨S.os, S.tape, S.output, S.size, S.block, S.sub, S.rel, S.glob, S.new, S.val, S.nts, S.dfs, fun k => ?_, fun k j b hkj h1 h2 => ?_⟩
  · rcases h k with e | e | ⟨h1, h2⟩
    · rw [e]; exact S.holds k
    · rw [e]; simp only [Holds]
    · exact Holds.slot (by rw [S.nts]; exact h1) h2
  · rw [hno k b h1] at h1; rw [hno j b h2] at h2
    exact S.apart k j b hkj h1 h2

theorem SimG.sorted {A B : Nat → SV} {G : Gh} {a : Act} {w : World} (S : SimG C A G a w) {g b cap n : Nat} {l : List ByteArray} {cs : Array Value} {T0 : TypeId} {os : Array Obj} (hA : A g = .row l)
    (hc : G.cur g = .slice (some ⟨b, 0, none⟩) l.length cap) (h2 : l.length ≤ cap) (h3 : cap ≤ maxLen) (h4 : Owned C.w0 C.E w b) (h5 : w.heap[b]? = some (.cells cs T0 (0, 0))) (h6 : cs.size = cap) (h8 : ∀ o, ¬ G.I b o)
    (hB : ∀ j, (j ≠ g ∧ B j = A j) ∨ B j = .dead ∨ (B j = .imm (.sl 1 (strs (sortB l))) ∧ j < C.N ∧ a.tmps.getD j Go.undef = .slice (some ⟨b, 0, none⟩) l.length cap)) :
    Sim C B a (Sort.grow (Sort.putRow Proofs.encStr (Sort.ahead w n) b 0 ((l.map fun s => s.data.toList).mergeSort fun x y => decide (x ≤ y)).toArray) os) := by
  obtain ⟨ts, hts⟩ : ∃ ts, ts = (l.map fun s => s.data.toList).mergeSort fun x y => decide (x ≤ y) := ⟨_, rfl⟩
  have htl : ts.length = l.length := by rw [hts]; simp
  have hsb : sortB l = ts.map fun b => (⟨b.toArray⟩ : ByteArray) := by rw [hts]; rfl
  rw [← hts]
  obtain ⟨w', hw'⟩ : ∃ w', w' = Sort.grow (Sort.putRow Proofs.encStr (Sort.ahead w n) b 0 ts.toArray) os := ⟨_, rfl⟩
  have hb' := heap_sorted (n := n) (os := os) ts.toArray h5
  have hgr : w.grownBy w' (some b) := by rw [hw']; exact grownBy_sorted _
  rw [← hw'] at hb' ⊢
  obtain ⟨g1, g2, g3, g4, g5⟩ := hgr
  let G' : Gh := { G with I := fun b' o => G.I b' o ∨ (b' = b ∧ o < l.length) }
  have hblk : ∀ k, k < w.heap.size → k ≠ b → w'.heap[k]? = w.heap[k]? := fun k hk hne => g5 k hk (fun e => hne (by cases e; rfl))
  have hle : Le w G.I w' G'.I := fun b' o h => ⟨.inl h, kp_of_block (hblk b' (S.val b' o h) fun e => h8 o (e ▸ h))⟩
  have hg : GRel [] G G' := fun j _ => ⟨rfl, .inl ⟨rfl, rfl⟩⟩
  have hbg : inRow G g b := ⟨_, _, _, hc, rfl⟩
  have hown : ownsB G g b (A g) := by rw [hA]; simp only [ownsB]; exact hbg
  have conv : ∀ j c, ownsB G' j c (B j) → j ≠ g ∧ ownsB G j c (A j) := by
    intro j c h
    rcases hB j with ⟨h1, e⟩ | e | ⟨e, _⟩
    · rw [e] at h
      refine ⟨h1, ?_⟩
      revert h
      generalize A j = y
      cases y <;> exact id
    · rw [e] at h; simp only [ownsB] at h
    · rw [e] at h; simp only [ownsB] at h
  refine ⟨G', g1.trans S.os, g2.trans S.tape, g3.trans S.output, Nat.le_trans S.size g4, fun j h1 h2 => ?_, S.sub.trans hle, fun j hj => (S.rel j hj).trans (hg j (by simp)), S.glob.mono hle, fun b' o h => ?_, fun b' o h => ?_, S.nts, S.dfs, fun j => ?_, fun i j c hij p1 p2 => S.apart i j c hij (conv i c p1).2 (conv j c p2).2⟩
  · rw [hblk j (Nat.lt_of_lt_of_le h1 S.size) ?_]
    · exact S.block j h1 h2
    · rintro rfl
      rcases h4.1 with h | h
      · omega
      · exact h2 h
  · rcases h with h | ⟨rfl, _⟩
    · exact S.new b' o h
    · exact .inr h4.1
  · rcases h with h | ⟨rfl, _⟩
    · exact Nat.lt_of_lt_of_le (S.val b' o h) g4
    · exact Nat.lt_of_lt_of_le h4.2 g4
  · rcases hB j with ⟨hj, e⟩ | e | ⟨e, hjN, hv⟩
    · rw [e]
      refine (S.holds j).keep hle hg (noG_nil.1 _) g4 (fun h => ⟨h, rfl⟩) (fun _ => ⟨rfl, rfl, rfl⟩) (fun c hc' => ?_)
      have hcb : c ≠ b := by rintro rfl; exact S.apart j g c hj hc' hown
      refine ⟨hblk c (ownsB_lt S hc') hcb, fun o hi => ?_⟩
      rcases hi with hi | ⟨rfl, _⟩
      · exact hi
      · exact absurd rfl hcb
    · rw [e]; simp only [Holds]
    · rw [e]
      simp only [Holds]
      refine ⟨by rw [S.nts]; exact hjN, ?_⟩
      rw [hv]
      simp only [SlotS]
      refine valS_imm.2 ⟨[.slice (some ⟨b, 0, none⟩) l.length cap], ?_, rfl⟩
      simp only [RepC]
      refine ⟨_, rfl, .inr ⟨b, 0, cap, by simp [strs, sortB_length], by simpa [strs, sortB_length] using h2, h3, ?_⟩⟩
      refine repM_strs _ 0 fun i hi => ?_
      have hi' : i < ts.length := by rw [hsb] at hi; simpa using hi
      refine ⟨?_, .inr ⟨rfl, by omega⟩⟩
      have ht := take_putCells cs ts (by omega)
      have h9 : ((Sort.putCells Proofs.encStr 0 ts.toArray cs).toList.take ts.length)[i]? = (ts.map Proofs.encStr)[i]? := by rw [ht]
      rw [List.getElem?_take_of_lt hi', Array.getElem?_toList] at h9
      simp only [World.cell?, hb', Nat.zero_add]
      simp only [Option.isSome_none, Bool.false_eq_true, if_false]
      rw [h9]
      simp only [hsb, List.getElem?_map, List.getElem_map, List.getElem?_eq_getElem hi', Option.map_some]

/-- slices.Sort of a row of texts: nobody writes to it any more. k2: another slot that holds it. -/
theorem s_sort {g k : Nat} (k2 : Nat) {l : List ByteArray} {f : FuncId} {ats : Array TypeId} (hc : SortC C.P C.Γ f) (hgN : Nat.ble C.N g = true) (hN : Nat.blt d C.N = true) (hkN : Nat.blt k C.N = true) (hkN2 : Nat.blt k2 C.N = true) (hkd : Nat.beq k d = false) (hkd2 : Nat.beq k2 d = false) (hx : A k = .slg g 0 (units l.length)) (hx2 : A k2 = .slg g 0 (units l.length)) (hg : A g = .row l) (hL : l.length < 4611686018427387904) :
    StepU C ⟨some d, .call { callee := .value (.func f), args := #[.tmp k], argTypes := ats }, ty, pos, af, gd⟩ [g, k, k2] [] A [(g, .dead), (k, .imm (.sl 1 (strs (sortB l)))), (k2, .imm (.sl 1 (strs (sortB l)))), (d, .tup [])] := by
  intro A' a w hR hF ⟨G, S⟩
  have hgA : A' g = .row l := (hR g (by simp)).trans hg
  have hN' : d < C.N := by simpa [Nat.blt_eq] using hN
  have hkN' : k < C.N := by simpa [Nat.blt_eq] using hkN
  have hkN2' : k2 < C.N := by simpa [Nat.blt_eq] using hkN2
  have hgN' : C.N ≤ g := Nat.le_of_ble_eq_true hgN
  have ht := S.holds g
  rw [hgA] at ht
  simp only [Holds] at ht
  obtain ⟨hlen, ht⟩ := ht
  have val : ∀ k, A' k = .slg g 0 (units l.length) → a.tmps.getD k Go.undef = G.cur g := by
    intro k hkA
    obtain ⟨c, hc1, hc2⟩ := S.slot hkA rfl
    simp only [RepS] at hc1
    obtain ⟨v, rfl, hv1, hv2, hv3⟩ := hc1
    have hval : a.tmps.getD k Go.undef = v := hc2
    rw [hval]; exact hv3 (by simpa using hlen.symm)
  have hval := val k ((hR k (by simp)).trans hx)
  have hval2 := val k2 ((hR k2 (by simp)).trans hx2)
  have hkd' : k ≠ d := by rintro rfl; rw [Nat.beq_refl] at hkd; cases hkd
  have hkd2' : k2 ≠ d := by rintro rfl; rw [Nat.beq_refl] at hkd2; cases hkd2
  obtain ⟨B, hBdef⟩ : ∃ B, B = upd A' [(g, .dead), (k, .imm (.sl 1 (strs (sortB l)))), (k2, .imm (.sl 1 (strs (sortB l))))] := ⟨_, rfl⟩
  have hu : upd A' [(g, .dead), (k, .imm (.sl 1 (strs (sortB l)))), (k2, .imm (.sl 1 (strs (sortB l)))), (d, .tup [])] = upd B [(d, .tup [])] := by
    funext j
    have hgd : g ≠ d := by omega
    rw [hBdef]
    simp only [upd]
    by_cases hjd : d = j
    · subst hjd; rw [nat_beq_false hgd, nat_beq_false hkd', nat_beq_false hkd2']; simp
    · rw [nat_beq_false hjd]; simp
  have hBj : ∀ j, B j = if j = g then .dead else if j = k then .imm (.sl 1 (strs (sortB l))) else if j = k2 then .imm (.sl 1 (strs (sortB l))) else A' j := by
    intro j
    rw [hBdef]
    simp only [upd]
    by_cases h1 : j = g
    · subst h1; simp
    · rw [nat_beq_false (Ne.symm h1), if_neg h1]
      by_cases h2 : j = k
      · subst h2; simp
      · rw [nat_beq_false (Ne.symm h2), if_neg h2]
        by_cases h3 : j = k2
        · subst h3; simp
        · rw [nat_beq_false (Ne.symm h3), if_neg h3]; rfl
  have hev : (#[Operand.tmp k].map a.eval) = #[G.cur g] := by
    have : a.eval (.tmp k) = G.cur g := hval
    simp [this]
  unfold Oper.wp
  have hrun : (execOp a.eval ⟨some d, .call { callee := .value (.func f), args := #[.tmp k], argTypes := ats }, ty, pos, af, gd⟩).run C.P w = .ok (.enter f #[G.cur g]) w := by
    have hfn : a.eval (.func f) = .func (.func f) #[] #[] := rfl
    simp only [execOp, resolve, hfn, Deferred.ofValue, Sem.run_bind, Sem.run_pure, Result.andThen_ok, invoke, hev]
    have := run_callFunc hc.call (#[] ++ #[G.cur g] ++ #[]) w
    simpa using this
  rw [hrun, Oper.upon_enter, hu]
  rcases ht with ⟨e, rfl⟩ | ⟨b, cap, e, h2, h3, h4, ⟨cs, T0, h5, h6, h7⟩, h8⟩
  · rw [e]
    refine (hc.empty.2 w G.I [.slice none 0 0] S.val S.glob (by simp only [RepVs]; exact ⟨[.slice none 0 0], [], rfl, by simp [RepC, Value.cells, plain], rfl⟩)).mono ?_
    rintro e' w' ⟨v', I', rfl, hb, hle, hn, hv, hres⟩
    have S' := S.called hb hle hn hv
    have hs : ∀ j, a.tmps.getD j Go.undef = G.cur g → SlotS w' { G with I := I' } (.imm (.sl 1 (strs (sortB [])))) (a.tmps.getD j Go.undef) := by
      intro j hj
      rw [hj, e]
      simp only [SlotS]
      refine valS_imm.2 ⟨[.slice none 0 0], ?_, rfl⟩
      simp only [RepC]
      exact ⟨_, rfl, .inl (by simpa [strs, sortB] using nil_sl 0)⟩
    have S2 : SimG C B { G with I := I' } a w' := S'.retell fun j => by
      rw [hBj]
      split
      · exact .inr (.inl rfl)
      · split
        · rename_i hj; subst hj; exact .inr (.inr ⟨hkN', hs _ hval⟩)
        · split
          · rename_i hj; subst hj; exact .inr (.inr ⟨hkN2', hs _ hval2⟩)
          · exact .inl rfl
    have S3 := S2.put (d := d) hN' (x := .tup []) (v := v') (by
      have := resV_slot (w := w') (G := { G with I := I' }) (rs := []) hres
      simpa [resSV] using this)
    exact ⟨_, S3⟩
  · have hH : Sort.Holds Proofs.encStr w b 0 (l.map fun s => s.data.toList).toArray := holds_of_block h5 (by rw [enc_map]; simpa using h7)
    have hcall := hc.sorts b cap (l.map fun s => s.data.toList) w hH h4.2 (by simpa using hL)
    rw [List.length_map, ← e] at hcall
    refine hcall.mono ?_
    rintro e' w' ⟨rfl, n, os, rfl⟩
    obtain ⟨G', S'⟩ := S.sorted (B := B) (n := n) (os := os) hgA e h2 h3 h4 h5 h6 h8 (fun j => by
      rw [hBj]
      split
      · exact .inr (.inl rfl)
      · rename_i hjg
        split
        · rename_i hj; subst hj; exact .inr (.inr ⟨rfl, hkN', hval.trans e⟩)
        · split
          · rename_i hj; subst hj; exact .inr (.inr ⟨rfl, hkN2', hval2.trans e⟩)
          · exact .inl ⟨hjg, rfl⟩)
    have S3 := S'.put (d := d) hN' (x := .tup []) (v := .tuple #[]) (by
      simp only [SlotS]
      exact ⟨[], rfl, by simp only [ValSs]⟩)
    exact ⟨_, S3⟩
end
end Go.Al

