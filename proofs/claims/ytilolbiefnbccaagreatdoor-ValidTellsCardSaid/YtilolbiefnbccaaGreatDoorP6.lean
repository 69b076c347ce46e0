/- Texts that the proofs of this claim share, part 6: the abstract logic, plain Lean on values and batches, and walks. No condition but those typed in each lemma. -/
import Derived.Maps.RangeRun
import Derived.Sort.OwnSorted
import Derived.Shelf.Sort.Plain
import Derived.Shelf.Slices.In.SortNone
import Derived.Test.YtilolbiefnbccaaGreatDoorP5
set_option linter.unusedSimpArgs false
set_option linter.unusedVariables false
set_option maxHeartbeats 400000
namespace Go.Proofs
open Go Go.Al
set_option maxRecDepth 10000
theorem keyP_c (k : ByteArray) (hk : k.size < 9223372036854775808) : zn Tryz.prog Γ0 113 [sv k] [iv (keyC k)] := by
  have cr := check_range k
  refine zZ Tryz.func113 rfl Tryz.ntmps113 (by kernel_rfl) rfl fun w0 I0 G0 => ?_
  refine zE <| zB <| g_u (zD rfl rfl) <| zF <| zA <| zE <| zS <| zE <| zB <| g_u (zC rfl rfl) <| g_u (s_eqS rfl rfl rfl) <| g_u (zD rfl rfl) <| zF <| zA ?_
  refine zL rfl (fun hb1 => ?_) (fun hb1 => ?_)
  · have q : k.size = 0 := by have e := hb1; rw [ya] at e; exact (size0 k).1 (of_decide_eq_true e)
    refine zE <| zB <| g_u (zD rfl rfl) <| zF <| zA <| zK <| zf <| zJ ?_
    exact ⟨⟨(rfl : toAV (Al.look _ _) = some _).trans (congrArg some (by (exact congrArg iv (by unfold keyC; (repeat' split) <;> first | rfl | omega)))), rfl⟩, trivial⟩
  · have q : ¬ k.size = 0 := by have e := hb1; rw [ya] at e; exact fun h => of_decide_eq_false e ((size0 k).2 h)
    refine zE <| zB <| g_u (zC rfl rfl) ?_
    refine g_u (zQ (check_c _ (by omega)) rfl rfl) ?_
    refine g_u (s_geI rfl rfl rfl) <| g_u (zD rfl rfl) <| zF <| zA ?_
    refine zL rfl (fun hb2 => ?_) (fun hb2 => ?_)
    · have q := of_decide_eq_true hb2
      refine zE <| zB <| g_u (zD rfl rfl) <| zF <| zA <| zK <| zf <| zJ ?_
      exact ⟨⟨(rfl : toAV (Al.look _ _) = some _).trans (congrArg some (by (exact congrArg iv (by unfold keyC; (repeat' split) <;> first | rfl | omega)))), rfl⟩, trivial⟩
    · have q := of_decide_eq_false hb2
      refine zE <| zB <| g_u (zC rfl rfl) <| g_u (yR rfl rfl Tryz.underlying9) <| g_u (xA rfl rfl rfl) <| g_u (zD rfl rfl) <| zF <| zA ?_
      refine zL rfl (fun hb3 => ?_) (fun hb3 => ?_)
      · have q := of_decide_eq_true hb3
        refine zE <| zB <| g_u (zD rfl rfl) <| zF <| zA <| zK <| zf <| zJ ?_
        exact ⟨⟨(rfl : toAV (Al.look _ _) = some _).trans (congrArg some (by (exact congrArg iv (by unfold keyC; (repeat' split) <;> first | rfl | omega)))), rfl⟩, trivial⟩
      · have q := of_decide_eq_false hb3
        refine zN <| zP <| zA <| zE <| zB <| g_u (zD rfl rfl) <| zF <| zA <| zK ?_
        exact ⟨⟨(rfl : toAV (Al.look _ _) = some _).trans (congrArg some (by (exact congrArg iv (by unfold keyC; (repeat' split) <;> first | rfl | omega)))), rfl⟩, trivial⟩
theorem rkeyP_c (k : ByteArray) (hk : k.size < 9223372036854775808) : zn Tryz.prog Γ0 137 [sv k] [iv (keyC k)] := by
  have cr := check_range k
  have ce := check_eq k
  refine zZ Tryz.func137 rfl Tryz.ntmps137 (by kernel_rfl) rfl fun w0 I0 G0 => ?_
  refine zE <| zB <| g_u (zD rfl rfl) <| zF <| zA <| zE <| zE <| zB <| g_u (zC rfl rfl) <| g_u (s_eqS rfl rfl rfl) <| zF <| zA ?_
  refine zL rfl (fun hb1 => ?_) (fun hb1 => ?_)
  · have q : k.size = 0 := by have e := hb1; rw [ya] at e; exact (size0 k).1 (of_decide_eq_true e)
    refine zE <| zB <| g_u (zD rfl rfl) <| zF <| zA <| zK <| zJ ?_
    exact ⟨⟨(rfl : toAV (Al.look _ _) = some _).trans (congrArg some (by (exact congrArg iv (by unfold keyC; (repeat' split) <;> first | rfl | omega)))), rfl⟩, trivial⟩
  · have q : ¬ k.size = 0 := by have e := hb1; rw [ya] at e; exact fun h => of_decide_eq_false e ((size0 k).2 h)
    refine zN <| zA <| zE <| zE <| zB <| g_u (zC rfl rfl) ?_
    refine g_u (zQ (rcheck_c _ (by omega)) rfl rfl) ?_
    refine g_u (y9 rfl rfl rfl) <| zF <| zA ?_
    refine zL rfl (fun hb2 => ?_) (fun hb2 => ?_)
    · have q := qc.1 hb2
      refine zE <| zB <| g_u (zD rfl rfl) <| zF <| zA <| zK <| zJ ?_
      exact ⟨⟨(rfl : toAV (Al.look _ _) = some _).trans (congrArg some (by (exact congrArg iv (by unfold keyC; (repeat' split) <;> first | rfl | omega)))), rfl⟩, trivial⟩
    · have q := qd.1 hb2
      refine zN <| zA <| zE <| zE <| zB <| g_u (zC rfl rfl) <| g_u (yR rfl rfl Tryz.underlying9) <| g_u (xA rfl rfl rfl) <| zF <| zA ?_
      refine zL rfl (fun hb3 => ?_) (fun hb3 => ?_)
      · have q := of_decide_eq_true hb3
        refine zE <| zB <| g_u (zD rfl rfl) <| zF <| zA <| zK <| zJ ?_
        exact ⟨⟨(rfl : toAV (Al.look _ _) = some _).trans (congrArg some (by (exact congrArg iv (by unfold keyC; (repeat' split) <;> first | rfl | omega)))), rfl⟩, trivial⟩
      · have q := of_decide_eq_false hb3
        refine zN <| zA <| zE <| zB <| g_u (zD rfl rfl) <| zF <| zA <| zK ?_
        exact ⟨⟨(rfl : toAV (Al.look _ _) = some _).trans (congrArg some (by (exact congrArg iv (by unfold keyC; (repeat' split) <;> first | rfl | omega)))), rfl⟩, trivial⟩
set_option maxHeartbeats 2000000 in
theorem bare_c (v : GV) : zn Tryz.prog Γ0 211 [v.av] [(zd v).av] := by
  refine zZ Tryz.func211 rfl Tryz.ntmps211 (by kernel_rfl) rfl fun w0 I0 G0 => ?_
  refine zE <| zB <| g_uG (zp 1001 rfl rfl rfl rfl) rfl <| g_uG (yG 1002 rfl rfl rfl tZ91) rfl <| zF <| zA <| zE <| zB <| g_u (zG rfl rfl yv rfl) <| g_u (zH rfl rfl rfl tA5 tS5 rfl rfl) <| g_u (yw rfl tU91 us91 pl91 rfl rfl rfl rfl) <| g_uG (yG 1003 rfl rfl rfl tZ91) rfl <| g_u (zV rfl rfl rfl tS91 rfl rfl) <| zF <| zA <| zE <| zE <| zB <| g_u (zG rfl rfl yv rfl) <| g_u (zH rfl rfl rfl tA5 tS5 rfl rfl) <| zF <| zA <| zS <| zE <| zE <| zB <| g_u (yM rfl rfl rfl) <| g_u (zD rfl rfl) <| zF <| zA ?_
  refine zL rfl (fun hb1 => ?_) (fun hb1 => ?_)
  · have q := beq_iff_eq.1 hb1
    refine zN <| zA ?_
    refine zL rfl (fun hb2 => ?_) (fun hb2 => ?_)
    · have q := beq_iff_eq.1 hb2
      refine zB <| g_u (zG rfl rfl fa91_1 rfl) <| g_u (zH rfl rfl rfl tA9 tS9 rfl rfl) <| g_u (zG rfl rfl fa91_1 rfl) <| g_u (zV rfl rfl rfl tS9 rfl rfl) <| zF <| zP <| zA <| zE <| zB <| g_u (zz rfl rfl rfl tA91 tS91 rfl rfl) <| g_u (zV rfl rfl rfl tS91 rfl rfl) <| zF <| zA <| zK ?_
      exact ⟨⟨_, _, _, _, _, _, _, rfl, rfl, tA91, tS91, rfl, rfl, (rfl : toAV _ = some _).trans (congrArg some (by (first | (exfalso; omega) | (rw [show zd v = .mk v.kind v.text 0 0 [] [] from by unfold zd; rw [if_pos (by omega), if_neg (by omega), if_neg (by omega), if_neg (by omega), if_neg (by omega)]]; rfl) | (rw [show zd v = .mk v.kind ⟨#[]⟩ v.num 0 [] [] from by unfold zd; rw [if_neg (by omega), if_pos (by omega), if_neg (by omega), if_neg (by omega), if_neg (by omega)]]; rfl) | (rw [show zd v = .mk v.kind ⟨#[]⟩ 0 v.bits [] [] from by unfold zd; rw [if_neg (by omega), if_neg (by omega), if_pos (by omega), if_neg (by omega), if_neg (by omega)]]; rfl) | (rw [show zd v = .mk v.kind ⟨#[]⟩ 0 0 v.list [] from by unfold zd; rw [if_neg (by omega), if_neg (by omega), if_neg (by omega), if_pos (by omega), if_neg (by omega)]]; rfl) | (rw [show zd v = .mk v.kind ⟨#[]⟩ 0 0 [] v.map from by unfold zd; rw [if_neg (by omega), if_neg (by omega), if_neg (by omega), if_neg (by omega), if_pos (by omega)]]; rfl) | (rw [show zd v = .mk v.kind ⟨#[]⟩ 0 0 [] [] from by unfold zd; rw [if_neg (by omega), if_neg (by omega), if_neg (by omega), if_neg (by omega), if_neg (by omega)]]; rfl))))⟩, trivial⟩
    · have q := beq_eq_false_iff_ne.1 hb2
      refine zE <| zE <| zB <| g_u (yM rfl rfl rfl) <| g_u (zD rfl rfl) <| zF <| zA ?_
      refine zL rfl (fun hb3 => ?_) (fun hb3 => ?_)
      · have q := beq_iff_eq.1 hb3
        refine zN <| zA ?_
        refine zL rfl (fun hb4 => ?_) (fun hb4 => ?_)
        · have q := beq_iff_eq.1 hb4
          refine zB <| g_u (zG rfl rfl wh rfl) <| g_u (zH rfl rfl rfl tA3 tS3 rfl rfl) <| g_u (zG rfl rfl wh rfl) <| g_u (zV rfl rfl rfl tS3 rfl rfl) <| zF <| zP <| zA <| zE <| zB <| g_u (zz rfl rfl rfl tA91 tS91 rfl rfl) <| g_u (zV rfl rfl rfl tS91 rfl rfl) <| zF <| zA <| zK ?_
          exact ⟨⟨_, _, _, _, _, _, _, rfl, rfl, tA91, tS91, rfl, rfl, (rfl : toAV _ = some _).trans (congrArg some (by (first | (exfalso; omega) | (rw [show zd v = .mk v.kind v.text 0 0 [] [] from by unfold zd; rw [if_pos (by omega), if_neg (by omega), if_neg (by omega), if_neg (by omega), if_neg (by omega)]]; rfl) | (rw [show zd v = .mk v.kind ⟨#[]⟩ v.num 0 [] [] from by unfold zd; rw [if_neg (by omega), if_pos (by omega), if_neg (by omega), if_neg (by omega), if_neg (by omega)]]; rfl) | (rw [show zd v = .mk v.kind ⟨#[]⟩ 0 v.bits [] [] from by unfold zd; rw [if_neg (by omega), if_neg (by omega), if_pos (by omega), if_neg (by omega), if_neg (by omega)]]; rfl) | (rw [show zd v = .mk v.kind ⟨#[]⟩ 0 0 v.list [] from by unfold zd; rw [if_neg (by omega), if_neg (by omega), if_neg (by omega), if_pos (by omega), if_neg (by omega)]]; rfl) | (rw [show zd v = .mk v.kind ⟨#[]⟩ 0 0 [] v.map from by unfold zd; rw [if_neg (by omega), if_neg (by omega), if_neg (by omega), if_neg (by omega), if_pos (by omega)]]; rfl) | (rw [show zd v = .mk v.kind ⟨#[]⟩ 0 0 [] [] from by unfold zd; rw [if_neg (by omega), if_neg (by omega), if_neg (by omega), if_neg (by omega), if_neg (by omega)]]; rfl))))⟩, trivial⟩
        · have q := beq_eq_false_iff_ne.1 hb4
          refine zE <| zB <| g_u (yM rfl rfl rfl) <| g_u (zD rfl rfl) <| zF <| zA ?_
          refine zL rfl (fun hb5 => ?_) (fun hb5 => ?_)
          · have q := beq_iff_eq.1 hb5
            refine zB <| g_u (zG rfl rfl fa91_3 rfl) <| g_u (zH rfl rfl rfl tA45 tS45 rfl rfl) <| g_u (zG rfl rfl fa91_3 rfl) <| g_u (zV rfl rfl rfl tS45 rfl rfl) <| zF <| zP <| zA <| zE <| zB <| g_u (zz rfl rfl rfl tA91 tS91 rfl rfl) <| g_u (zV rfl rfl rfl tS91 rfl rfl) <| zF <| zA <| zK ?_
            exact ⟨⟨_, _, _, _, _, _, _, rfl, rfl, tA91, tS91, rfl, rfl, (rfl : toAV _ = some _).trans (congrArg some (by (first | (exfalso; omega) | (rw [show zd v = .mk v.kind v.text 0 0 [] [] from by unfold zd; rw [if_pos (by omega), if_neg (by omega), if_neg (by omega), if_neg (by omega), if_neg (by omega)]]; rfl) | (rw [show zd v = .mk v.kind ⟨#[]⟩ v.num 0 [] [] from by unfold zd; rw [if_neg (by omega), if_pos (by omega), if_neg (by omega), if_neg (by omega), if_neg (by omega)]]; rfl) | (rw [show zd v = .mk v.kind ⟨#[]⟩ 0 v.bits [] [] from by unfold zd; rw [if_neg (by omega), if_neg (by omega), if_pos (by omega), if_neg (by omega), if_neg (by omega)]]; rfl) | (rw [show zd v = .mk v.kind ⟨#[]⟩ 0 0 v.list [] from by unfold zd; rw [if_neg (by omega), if_neg (by omega), if_neg (by omega), if_pos (by omega), if_neg (by omega)]]; rfl) | (rw [show zd v = .mk v.kind ⟨#[]⟩ 0 0 [] v.map from by unfold zd; rw [if_neg (by omega), if_neg (by omega), if_neg (by omega), if_neg (by omega), if_pos (by omega)]]; rfl) | (rw [show zd v = .mk v.kind ⟨#[]⟩ 0 0 [] [] from by unfold zd; rw [if_neg (by omega), if_neg (by omega), if_neg (by omega), if_neg (by omega), if_neg (by omega)]]; rfl))))⟩, trivial⟩
          · have q := beq_eq_false_iff_ne.1 hb5
            refine zE <| zB <| g_u (yM rfl rfl rfl) <| g_u (zD rfl rfl) <| zF <| zA ?_
            refine zL rfl (fun hb6 => ?_) (fun hb6 => ?_)
            · have q := beq_iff_eq.1 hb6
              refine zB <| g_u (zG rfl rfl wr rfl) <| g_u (zH rfl rfl rfl tA89 tS89 rfl rfl) <| g_u (zG rfl rfl wr rfl) <| g_u (zV rfl rfl rfl tS89 rfl rfl) <| zF <| zP <| zA <| zE <| zB <| g_u (zz rfl rfl rfl tA91 tS91 rfl rfl) <| g_u (zV rfl rfl rfl tS91 rfl rfl) <| zF <| zA <| zK ?_
              exact ⟨⟨_, _, _, _, _, _, _, rfl, rfl, tA91, tS91, rfl, rfl, (rfl : toAV _ = some _).trans (congrArg some (by (first | (exfalso; omega) | (rw [show zd v = .mk v.kind v.text 0 0 [] [] from by unfold zd; rw [if_pos (by omega), if_neg (by omega), if_neg (by omega), if_neg (by omega), if_neg (by omega)]]; rfl) | (rw [show zd v = .mk v.kind ⟨#[]⟩ v.num 0 [] [] from by unfold zd; rw [if_neg (by omega), if_pos (by omega), if_neg (by omega), if_neg (by omega), if_neg (by omega)]]; rfl) | (rw [show zd v = .mk v.kind ⟨#[]⟩ 0 v.bits [] [] from by unfold zd; rw [if_neg (by omega), if_neg (by omega), if_pos (by omega), if_neg (by omega), if_neg (by omega)]]; rfl) | (rw [show zd v = .mk v.kind ⟨#[]⟩ 0 0 v.list [] from by unfold zd; rw [if_neg (by omega), if_neg (by omega), if_neg (by omega), if_pos (by omega), if_neg (by omega)]]; rfl) | (rw [show zd v = .mk v.kind ⟨#[]⟩ 0 0 [] v.map from by unfold zd; rw [if_neg (by omega), if_neg (by omega), if_neg (by omega), if_neg (by omega), if_pos (by omega)]]; rfl) | (rw [show zd v = .mk v.kind ⟨#[]⟩ 0 0 [] [] from by unfold zd; rw [if_neg (by omega), if_neg (by omega), if_neg (by omega), if_neg (by omega), if_neg (by omega)]]; rfl))))⟩, trivial⟩
            · have q := beq_eq_false_iff_ne.1 hb6
              refine zE <| zB <| g_u (yM rfl rfl rfl) <| g_u (zD rfl rfl) <| zF <| zA ?_
              refine zL rfl (fun hb7 => ?_) (fun hb7 => ?_)
              · have q := beq_iff_eq.1 hb7
                refine zB <| g_u (zG rfl rfl vF rfl) <| g_u (zH rfl rfl rfl tA46 tS46 rfl rfl) <| g_u (zG rfl rfl vF rfl) <| g_u (zV rfl rfl rfl tS46 rfl rfl) <| zF <| zP <| zA <| zE <| zB <| g_u (zz rfl rfl rfl tA91 tS91 rfl rfl) <| g_u (zV rfl rfl rfl tS91 rfl rfl) <| zF <| zA <| zK ?_
                exact ⟨⟨_, _, _, _, _, _, _, rfl, rfl, tA91, tS91, rfl, rfl, (rfl : toAV _ = some _).trans (congrArg some (by (first | (exfalso; omega) | (rw [show zd v = .mk v.kind v.text 0 0 [] [] from by unfold zd; rw [if_pos (by omega), if_neg (by omega), if_neg (by omega), if_neg (by omega), if_neg (by omega)]]; rfl) | (rw [show zd v = .mk v.kind ⟨#[]⟩ v.num 0 [] [] from by unfold zd; rw [if_neg (by omega), if_pos (by omega), if_neg (by omega), if_neg (by omega), if_neg (by omega)]]; rfl) | (rw [show zd v = .mk v.kind ⟨#[]⟩ 0 v.bits [] [] from by unfold zd; rw [if_neg (by omega), if_neg (by omega), if_pos (by omega), if_neg (by omega), if_neg (by omega)]]; rfl) | (rw [show zd v = .mk v.kind ⟨#[]⟩ 0 0 v.list [] from by unfold zd; rw [if_neg (by omega), if_neg (by omega), if_neg (by omega), if_pos (by omega), if_neg (by omega)]]; rfl) | (rw [show zd v = .mk v.kind ⟨#[]⟩ 0 0 [] v.map from by unfold zd; rw [if_neg (by omega), if_neg (by omega), if_neg (by omega), if_neg (by omega), if_pos (by omega)]]; rfl) | (rw [show zd v = .mk v.kind ⟨#[]⟩ 0 0 [] [] from by unfold zd; rw [if_neg (by omega), if_neg (by omega), if_neg (by omega), if_neg (by omega), if_neg (by omega)]]; rfl))))⟩, trivial⟩
              · have q := beq_eq_false_iff_ne.1 hb7
                refine zN <| zP <| zA <| zE <| zB <| g_u (zz rfl rfl rfl tA91 tS91 rfl rfl) <| g_u (zV rfl rfl rfl tS91 rfl rfl) <| zF <| zA <| zK ?_
                exact ⟨⟨_, _, _, _, _, _, _, rfl, rfl, tA91, tS91, rfl, rfl, (rfl : toAV _ = some _).trans (congrArg some (by (first | (exfalso; omega) | (rw [show zd v = .mk v.kind v.text 0 0 [] [] from by unfold zd; rw [if_pos (by omega), if_neg (by omega), if_neg (by omega), if_neg (by omega), if_neg (by omega)]]; rfl) | (rw [show zd v = .mk v.kind ⟨#[]⟩ v.num 0 [] [] from by unfold zd; rw [if_neg (by omega), if_pos (by omega), if_neg (by omega), if_neg (by omega), if_neg (by omega)]]; rfl) | (rw [show zd v = .mk v.kind ⟨#[]⟩ 0 v.bits [] [] from by unfold zd; rw [if_neg (by omega), if_neg (by omega), if_pos (by omega), if_neg (by omega), if_neg (by omega)]]; rfl) | (rw [show zd v = .mk v.kind ⟨#[]⟩ 0 0 v.list [] from by unfold zd; rw [if_neg (by omega), if_neg (by omega), if_neg (by omega), if_pos (by omega), if_neg (by omega)]]; rfl) | (rw [show zd v = .mk v.kind ⟨#[]⟩ 0 0 [] v.map from by unfold zd; rw [if_neg (by omega), if_neg (by omega), if_neg (by omega), if_neg (by omega), if_pos (by omega)]]; rfl) | (rw [show zd v = .mk v.kind ⟨#[]⟩ 0 0 [] [] from by unfold zd; rw [if_neg (by omega), if_neg (by omega), if_neg (by omega), if_neg (by omega), if_neg (by omega)]]; rfl))))⟩, trivial⟩
      · have q := beq_eq_false_iff_ne.1 hb3
        refine zB <| g_u (yM rfl rfl rfl) <| g_u (zD rfl rfl) <| zF <| zA ?_
        refine zL rfl (fun hb8 => ?_) (fun hb8 => ?_)
        · have q := beq_iff_eq.1 hb8
          refine zB <| g_u (zG rfl rfl wh rfl) <| g_u (zH rfl rfl rfl tA3 tS3 rfl rfl) <| g_u (zG rfl rfl wh rfl) <| g_u (zV rfl rfl rfl tS3 rfl rfl) <| zF <| zP <| zA <| zE <| zB <| g_u (zz rfl rfl rfl tA91 tS91 rfl rfl) <| g_u (zV rfl rfl rfl tS91 rfl rfl) <| zF <| zA <| zK ?_
          exact ⟨⟨_, _, _, _, _, _, _, rfl, rfl, tA91, tS91, rfl, rfl, (rfl : toAV _ = some _).trans (congrArg some (by (first | (exfalso; omega) | (rw [show zd v = .mk v.kind v.text 0 0 [] [] from by unfold zd; rw [if_pos (by omega), if_neg (by omega), if_neg (by omega), if_neg (by omega), if_neg (by omega)]]; rfl) | (rw [show zd v = .mk v.kind ⟨#[]⟩ v.num 0 [] [] from by unfold zd; rw [if_neg (by omega), if_pos (by omega), if_neg (by omega), if_neg (by omega), if_neg (by omega)]]; rfl) | (rw [show zd v = .mk v.kind ⟨#[]⟩ 0 v.bits [] [] from by unfold zd; rw [if_neg (by omega), if_neg (by omega), if_pos (by omega), if_neg (by omega), if_neg (by omega)]]; rfl) | (rw [show zd v = .mk v.kind ⟨#[]⟩ 0 0 v.list [] from by unfold zd; rw [if_neg (by omega), if_neg (by omega), if_neg (by omega), if_pos (by omega), if_neg (by omega)]]; rfl) | (rw [show zd v = .mk v.kind ⟨#[]⟩ 0 0 [] v.map from by unfold zd; rw [if_neg (by omega), if_neg (by omega), if_neg (by omega), if_neg (by omega), if_pos (by omega)]]; rfl) | (rw [show zd v = .mk v.kind ⟨#[]⟩ 0 0 [] [] from by unfold zd; rw [if_neg (by omega), if_neg (by omega), if_neg (by omega), if_neg (by omega), if_neg (by omega)]]; rfl))))⟩, trivial⟩
        · have q := beq_eq_false_iff_ne.1 hb8
          refine zE <| zB <| g_u (yM rfl rfl rfl) <| g_u (zD rfl rfl) <| zF <| zA ?_
          refine zL rfl (fun hb9 => ?_) (fun hb9 => ?_)
          · have q := beq_iff_eq.1 hb9
            refine zB <| g_u (zG rfl rfl fa91_3 rfl) <| g_u (zH rfl rfl rfl tA45 tS45 rfl rfl) <| g_u (zG rfl rfl fa91_3 rfl) <| g_u (zV rfl rfl rfl tS45 rfl rfl) <| zF <| zP <| zA <| zE <| zB <| g_u (zz rfl rfl rfl tA91 tS91 rfl rfl) <| g_u (zV rfl rfl rfl tS91 rfl rfl) <| zF <| zA <| zK ?_
            exact ⟨⟨_, _, _, _, _, _, _, rfl, rfl, tA91, tS91, rfl, rfl, (rfl : toAV _ = some _).trans (congrArg some (by (first | (exfalso; omega) | (rw [show zd v = .mk v.kind v.text 0 0 [] [] from by unfold zd; rw [if_pos (by omega), if_neg (by omega), if_neg (by omega), if_neg (by omega), if_neg (by omega)]]; rfl) | (rw [show zd v = .mk v.kind ⟨#[]⟩ v.num 0 [] [] from by unfold zd; rw [if_neg (by omega), if_pos (by omega), if_neg (by omega), if_neg (by omega), if_neg (by omega)]]; rfl) | (rw [show zd v = .mk v.kind ⟨#[]⟩ 0 v.bits [] [] from by unfold zd; rw [if_neg (by omega), if_neg (by omega), if_pos (by omega), if_neg (by omega), if_neg (by omega)]]; rfl) | (rw [show zd v = .mk v.kind ⟨#[]⟩ 0 0 v.list [] from by unfold zd; rw [if_neg (by omega), if_neg (by omega), if_neg (by omega), if_pos (by omega), if_neg (by omega)]]; rfl) | (rw [show zd v = .mk v.kind ⟨#[]⟩ 0 0 [] v.map from by unfold zd; rw [if_neg (by omega), if_neg (by omega), if_neg (by omega), if_neg (by omega), if_pos (by omega)]]; rfl) | (rw [show zd v = .mk v.kind ⟨#[]⟩ 0 0 [] [] from by unfold zd; rw [if_neg (by omega), if_neg (by omega), if_neg (by omega), if_neg (by omega), if_neg (by omega)]]; rfl))))⟩, trivial⟩
          · have q := beq_eq_false_iff_ne.1 hb9
            refine zE <| zB <| g_u (yM rfl rfl rfl) <| g_u (zD rfl rfl) <| zF <| zA ?_
            refine zL rfl (fun hb10 => ?_) (fun hb10 => ?_)
            · have q := beq_iff_eq.1 hb10
              refine zB <| g_u (zG rfl rfl wr rfl) <| g_u (zH rfl rfl rfl tA89 tS89 rfl rfl) <| g_u (zG rfl rfl wr rfl) <| g_u (zV rfl rfl rfl tS89 rfl rfl) <| zF <| zP <| zA <| zE <| zB <| g_u (zz rfl rfl rfl tA91 tS91 rfl rfl) <| g_u (zV rfl rfl rfl tS91 rfl rfl) <| zF <| zA <| zK ?_
              exact ⟨⟨_, _, _, _, _, _, _, rfl, rfl, tA91, tS91, rfl, rfl, (rfl : toAV _ = some _).trans (congrArg some (by (first | (exfalso; omega) | (rw [show zd v = .mk v.kind v.text 0 0 [] [] from by unfold zd; rw [if_pos (by omega), if_neg (by omega), if_neg (by omega), if_neg (by omega), if_neg (by omega)]]; rfl) | (rw [show zd v = .mk v.kind ⟨#[]⟩ v.num 0 [] [] from by unfold zd; rw [if_neg (by omega), if_pos (by omega), if_neg (by omega), if_neg (by omega), if_neg (by omega)]]; rfl) | (rw [show zd v = .mk v.kind ⟨#[]⟩ 0 v.bits [] [] from by unfold zd; rw [if_neg (by omega), if_neg (by omega), if_pos (by omega), if_neg (by omega), if_neg (by omega)]]; rfl) | (rw [show zd v = .mk v.kind ⟨#[]⟩ 0 0 v.list [] from by unfold zd; rw [if_neg (by omega), if_neg (by omega), if_neg (by omega), if_pos (by omega), if_neg (by omega)]]; rfl) | (rw [show zd v = .mk v.kind ⟨#[]⟩ 0 0 [] v.map from by unfold zd; rw [if_neg (by omega), if_neg (by omega), if_neg (by omega), if_neg (by omega), if_pos (by omega)]]; rfl) | (rw [show zd v = .mk v.kind ⟨#[]⟩ 0 0 [] [] from by unfold zd; rw [if_neg (by omega), if_neg (by omega), if_neg (by omega), if_neg (by omega), if_neg (by omega)]]; rfl))))⟩, trivial⟩
            · have q := beq_eq_false_iff_ne.1 hb10
              refine zE <| zB <| g_u (yM rfl rfl rfl) <| g_u (zD rfl rfl) <| zF <| zA ?_
              refine zL rfl (fun hb11 => ?_) (fun hb11 => ?_)
              · have q := beq_iff_eq.1 hb11
                refine zB <| g_u (zG rfl rfl vF rfl) <| g_u (zH rfl rfl rfl tA46 tS46 rfl rfl) <| g_u (zG rfl rfl vF rfl) <| g_u (zV rfl rfl rfl tS46 rfl rfl) <| zF <| zP <| zA <| zE <| zB <| g_u (zz rfl rfl rfl tA91 tS91 rfl rfl) <| g_u (zV rfl rfl rfl tS91 rfl rfl) <| zF <| zA <| zK ?_
                exact ⟨⟨_, _, _, _, _, _, _, rfl, rfl, tA91, tS91, rfl, rfl, (rfl : toAV _ = some _).trans (congrArg some (by (first | (exfalso; omega) | (rw [show zd v = .mk v.kind v.text 0 0 [] [] from by unfold zd; rw [if_pos (by omega), if_neg (by omega), if_neg (by omega), if_neg (by omega), if_neg (by omega)]]; rfl) | (rw [show zd v = .mk v.kind ⟨#[]⟩ v.num 0 [] [] from by unfold zd; rw [if_neg (by omega), if_pos (by omega), if_neg (by omega), if_neg (by omega), if_neg (by omega)]]; rfl) | (rw [show zd v = .mk v.kind ⟨#[]⟩ 0 v.bits [] [] from by unfold zd; rw [if_neg (by omega), if_neg (by omega), if_pos (by omega), if_neg (by omega), if_neg (by omega)]]; rfl) | (rw [show zd v = .mk v.kind ⟨#[]⟩ 0 0 v.list [] from by unfold zd; rw [if_neg (by omega), if_neg (by omega), if_neg (by omega), if_pos (by omega), if_neg (by omega)]]; rfl) | (rw [show zd v = .mk v.kind ⟨#[]⟩ 0 0 [] v.map from by unfold zd; rw [if_neg (by omega), if_neg (by omega), if_neg (by omega), if_neg (by omega), if_pos (by omega)]]; rfl) | (rw [show zd v = .mk v.kind ⟨#[]⟩ 0 0 [] [] from by unfold zd; rw [if_neg (by omega), if_neg (by omega), if_neg (by omega), if_neg (by omega), if_neg (by omega)]]; rfl))))⟩, trivial⟩
              · have q := beq_eq_false_iff_ne.1 hb11
                refine zN <| zP <| zA <| zE <| zB <| g_u (zz rfl rfl rfl tA91 tS91 rfl rfl) <| g_u (zV rfl rfl rfl tS91 rfl rfl) <| zF <| zA <| zK ?_
                exact ⟨⟨_, _, _, _, _, _, _, rfl, rfl, tA91, tS91, rfl, rfl, (rfl : toAV _ = some _).trans (congrArg some (by (first | (exfalso; omega) | (rw [show zd v = .mk v.kind v.text 0 0 [] [] from by unfold zd; rw [if_pos (by omega), if_neg (by omega), if_neg (by omega), if_neg (by omega), if_neg (by omega)]]; rfl) | (rw [show zd v = .mk v.kind ⟨#[]⟩ v.num 0 [] [] from by unfold zd; rw [if_neg (by omega), if_pos (by omega), if_neg (by omega), if_neg (by omega), if_neg (by omega)]]; rfl) | (rw [show zd v = .mk v.kind ⟨#[]⟩ 0 v.bits [] [] from by unfold zd; rw [if_neg (by omega), if_neg (by omega), if_pos (by omega), if_neg (by omega), if_neg (by omega)]]; rfl) | (rw [show zd v = .mk v.kind ⟨#[]⟩ 0 0 v.list [] from by unfold zd; rw [if_neg (by omega), if_neg (by omega), if_neg (by omega), if_pos (by omega), if_neg (by omega)]]; rfl) | (rw [show zd v = .mk v.kind ⟨#[]⟩ 0 0 [] v.map from by unfold zd; rw [if_neg (by omega), if_neg (by omega), if_neg (by omega), if_neg (by omega), if_pos (by omega)]]; rfl) | (rw [show zd v = .mk v.kind ⟨#[]⟩ 0 0 [] [] from by unfold zd; rw [if_neg (by omega), if_neg (by omega), if_neg (by omega), if_neg (by omega), if_neg (by omega)]]; rfl))))⟩, trivial⟩
  · have q := beq_eq_false_iff_ne.1 hb1
    refine zB <| g_u (yM rfl rfl rfl) <| g_u (zD rfl rfl) <| zF <| zA ?_
    refine zL rfl (fun hb12 => ?_) (fun hb12 => ?_)
    · have q := beq_iff_eq.1 hb12
      refine zB <| g_u (zG rfl rfl fa91_1 rfl) <| g_u (zH rfl rfl rfl tA9 tS9 rfl rfl) <| g_u (zG rfl rfl fa91_1 rfl) <| g_u (zV rfl rfl rfl tS9 rfl rfl) <| zF <| zP <| zA <| zE <| zB <| g_u (zz rfl rfl rfl tA91 tS91 rfl rfl) <| g_u (zV rfl rfl rfl tS91 rfl rfl) <| zF <| zA <| zK ?_
      exact ⟨⟨_, _, _, _, _, _, _, rfl, rfl, tA91, tS91, rfl, rfl, (rfl : toAV _ = some _).trans (congrArg some (by (first | (exfalso; omega) | (rw [show zd v = .mk v.kind v.text 0 0 [] [] from by unfold zd; rw [if_pos (by omega), if_neg (by omega), if_neg (by omega), if_neg (by omega), if_neg (by omega)]]; rfl) | (rw [show zd v = .mk v.kind ⟨#[]⟩ v.num 0 [] [] from by unfold zd; rw [if_neg (by omega), if_pos (by omega), if_neg (by omega), if_neg (by omega), if_neg (by omega)]]; rfl) | (rw [show zd v = .mk v.kind ⟨#[]⟩ 0 v.bits [] [] from by unfold zd; rw [if_neg (by omega), if_neg (by omega), if_pos (by omega), if_neg (by omega), if_neg (by omega)]]; rfl) | (rw [show zd v = .mk v.kind ⟨#[]⟩ 0 0 v.list [] from by unfold zd; rw [if_neg (by omega), if_neg (by omega), if_neg (by omega), if_pos (by omega), if_neg (by omega)]]; rfl) | (rw [show zd v = .mk v.kind ⟨#[]⟩ 0 0 [] v.map from by unfold zd; rw [if_neg (by omega), if_neg (by omega), if_neg (by omega), if_neg (by omega), if_pos (by omega)]]; rfl) | (rw [show zd v = .mk v.kind ⟨#[]⟩ 0 0 [] [] from by unfold zd; rw [if_neg (by omega), if_neg (by omega), if_neg (by omega), if_neg (by omega), if_neg (by omega)]]; rfl))))⟩, trivial⟩
    · have q := beq_eq_false_iff_ne.1 hb12
      refine zE <| zE <| zB <| g_u (yM rfl rfl rfl) <| g_u (zD rfl rfl) <| zF <| zA ?_
      refine zL rfl (fun hb13 => ?_) (fun hb13 => ?_)
      · have q := beq_iff_eq.1 hb13
        refine zN <| zA ?_
        refine zL rfl (fun hb14 => ?_) (fun hb14 => ?_)
        · have q := beq_iff_eq.1 hb14
          refine zB <| g_u (zG rfl rfl wh rfl) <| g_u (zH rfl rfl rfl tA3 tS3 rfl rfl) <| g_u (zG rfl rfl wh rfl) <| g_u (zV rfl rfl rfl tS3 rfl rfl) <| zF <| zP <| zA <| zE <| zB <| g_u (zz rfl rfl rfl tA91 tS91 rfl rfl) <| g_u (zV rfl rfl rfl tS91 rfl rfl) <| zF <| zA <| zK ?_
          exact ⟨⟨_, _, _, _, _, _, _, rfl, rfl, tA91, tS91, rfl, rfl, (rfl : toAV _ = some _).trans (congrArg some (by (first | (exfalso; omega) | (rw [show zd v = .mk v.kind v.text 0 0 [] [] from by unfold zd; rw [if_pos (by omega), if_neg (by omega), if_neg (by omega), if_neg (by omega), if_neg (by omega)]]; rfl) | (rw [show zd v = .mk v.kind ⟨#[]⟩ v.num 0 [] [] from by unfold zd; rw [if_neg (by omega), if_pos (by omega), if_neg (by omega), if_neg (by omega), if_neg (by omega)]]; rfl) | (rw [show zd v = .mk v.kind ⟨#[]⟩ 0 v.bits [] [] from by unfold zd; rw [if_neg (by omega), if_neg (by omega), if_pos (by omega), if_neg (by omega), if_neg (by omega)]]; rfl) | (rw [show zd v = .mk v.kind ⟨#[]⟩ 0 0 v.list [] from by unfold zd; rw [if_neg (by omega), if_neg (by omega), if_neg (by omega), if_pos (by omega), if_neg (by omega)]]; rfl) | (rw [show zd v = .mk v.kind ⟨#[]⟩ 0 0 [] v.map from by unfold zd; rw [if_neg (by omega), if_neg (by omega), if_neg (by omega), if_neg (by omega), if_pos (by omega)]]; rfl) | (rw [show zd v = .mk v.kind ⟨#[]⟩ 0 0 [] [] from by unfold zd; rw [if_neg (by omega), if_neg (by omega), if_neg (by omega), if_neg (by omega), if_neg (by omega)]]; rfl))))⟩, trivial⟩
        · have q := beq_eq_false_iff_ne.1 hb14
          refine zE <| zB <| g_u (yM rfl rfl rfl) <| g_u (zD rfl rfl) <| zF <| zA ?_
          refine zL rfl (fun hb15 => ?_) (fun hb15 => ?_)
          · have q := beq_iff_eq.1 hb15
            refine zB <| g_u (zG rfl rfl fa91_3 rfl) <| g_u (zH rfl rfl rfl tA45 tS45 rfl rfl) <| g_u (zG rfl rfl fa91_3 rfl) <| g_u (zV rfl rfl rfl tS45 rfl rfl) <| zF <| zP <| zA <| zE <| zB <| g_u (zz rfl rfl rfl tA91 tS91 rfl rfl) <| g_u (zV rfl rfl rfl tS91 rfl rfl) <| zF <| zA <| zK ?_
            exact ⟨⟨_, _, _, _, _, _, _, rfl, rfl, tA91, tS91, rfl, rfl, (rfl : toAV _ = some _).trans (congrArg some (by (first | (exfalso; omega) | (rw [show zd v = .mk v.kind v.text 0 0 [] [] from by unfold zd; rw [if_pos (by omega), if_neg (by omega), if_neg (by omega), if_neg (by omega), if_neg (by omega)]]; rfl) | (rw [show zd v = .mk v.kind ⟨#[]⟩ v.num 0 [] [] from by unfold zd; rw [if_neg (by omega), if_pos (by omega), if_neg (by omega), if_neg (by omega), if_neg (by omega)]]; rfl) | (rw [show zd v = .mk v.kind ⟨#[]⟩ 0 v.bits [] [] from by unfold zd; rw [if_neg (by omega), if_neg (by omega), if_pos (by omega), if_neg (by omega), if_neg (by omega)]]; rfl) | (rw [show zd v = .mk v.kind ⟨#[]⟩ 0 0 v.list [] from by unfold zd; rw [if_neg (by omega), if_neg (by omega), if_neg (by omega), if_pos (by omega), if_neg (by omega)]]; rfl) | (rw [show zd v = .mk v.kind ⟨#[]⟩ 0 0 [] v.map from by unfold zd; rw [if_neg (by omega), if_neg (by omega), if_neg (by omega), if_neg (by omega), if_pos (by omega)]]; rfl) | (rw [show zd v = .mk v.kind ⟨#[]⟩ 0 0 [] [] from by unfold zd; rw [if_neg (by omega), if_neg (by omega), if_neg (by omega), if_neg (by omega), if_neg (by omega)]]; rfl))))⟩, trivial⟩
          · have q := beq_eq_false_iff_ne.1 hb15
            refine zE <| zB <| g_u (yM rfl rfl rfl) <| g_u (zD rfl rfl) <| zF <| zA ?_
            refine zL rfl (fun hb16 => ?_) (fun hb16 => ?_)
            · have q := beq_iff_eq.1 hb16
              refine zB <| g_u (zG rfl rfl wr rfl) <| g_u (zH rfl rfl rfl tA89 tS89 rfl rfl) <| g_u (zG rfl rfl wr rfl) <| g_u (zV rfl rfl rfl tS89 rfl rfl) <| zF <| zP <| zA <| zE <| zB <| g_u (zz rfl rfl rfl tA91 tS91 rfl rfl) <| g_u (zV rfl rfl rfl tS91 rfl rfl) <| zF <| zA <| zK ?_
              exact ⟨⟨_, _, _, _, _, _, _, rfl, rfl, tA91, tS91, rfl, rfl, (rfl : toAV _ = some _).trans (congrArg some (by (first | (exfalso; omega) | (rw [show zd v = .mk v.kind v.text 0 0 [] [] from by unfold zd; rw [if_pos (by omega), if_neg (by omega), if_neg (by omega), if_neg (by omega), if_neg (by omega)]]; rfl) | (rw [show zd v = .mk v.kind ⟨#[]⟩ v.num 0 [] [] from by unfold zd; rw [if_neg (by omega), if_pos (by omega), if_neg (by omega), if_neg (by omega), if_neg (by omega)]]; rfl) | (rw [show zd v = .mk v.kind ⟨#[]⟩ 0 v.bits [] [] from by unfold zd; rw [if_neg (by omega), if_neg (by omega), if_pos (by omega), if_neg (by omega), if_neg (by omega)]]; rfl) | (rw [show zd v = .mk v.kind ⟨#[]⟩ 0 0 v.list [] from by unfold zd; rw [if_neg (by omega), if_neg (by omega), if_neg (by omega), if_pos (by omega), if_neg (by omega)]]; rfl) | (rw [show zd v = .mk v.kind ⟨#[]⟩ 0 0 [] v.map from by unfold zd; rw [if_neg (by omega), if_neg (by omega), if_neg (by omega), if_neg (by omega), if_pos (by omega)]]; rfl) | (rw [show zd v = .mk v.kind ⟨#[]⟩ 0 0 [] [] from by unfold zd; rw [if_neg (by omega), if_neg (by omega), if_neg (by omega), if_neg (by omega), if_neg (by omega)]]; rfl))))⟩, trivial⟩
            · have q := beq_eq_false_iff_ne.1 hb16
              refine zE <| zB <| g_u (yM rfl rfl rfl) <| g_u (zD rfl rfl) <| zF <| zA ?_
              refine zL rfl (fun hb17 => ?_) (fun hb17 => ?_)
              · have q := beq_iff_eq.1 hb17
                refine zB <| g_u (zG rfl rfl vF rfl) <| g_u (zH rfl rfl rfl tA46 tS46 rfl rfl) <| g_u (zG rfl rfl vF rfl) <| g_u (zV rfl rfl rfl tS46 rfl rfl) <| zF <| zP <| zA <| zE <| zB <| g_u (zz rfl rfl rfl tA91 tS91 rfl rfl) <| g_u (zV rfl rfl rfl tS91 rfl rfl) <| zF <| zA <| zK ?_
                exact ⟨⟨_, _, _, _, _, _, _, rfl, rfl, tA91, tS91, rfl, rfl, (rfl : toAV _ = some _).trans (congrArg some (by (first | (exfalso; omega) | (rw [show zd v = .mk v.kind v.text 0 0 [] [] from by unfold zd; rw [if_pos (by omega), if_neg (by omega), if_neg (by omega), if_neg (by omega), if_neg (by omega)]]; rfl) | (rw [show zd v = .mk v.kind ⟨#[]⟩ v.num 0 [] [] from by unfold zd; rw [if_neg (by omega), if_pos (by omega), if_neg (by omega), if_neg (by omega), if_neg (by omega)]]; rfl) | (rw [show zd v = .mk v.kind ⟨#[]⟩ 0 v.bits [] [] from by unfold zd; rw [if_neg (by omega), if_neg (by omega), if_pos (by omega), if_neg (by omega), if_neg (by omega)]]; rfl) | (rw [show zd v = .mk v.kind ⟨#[]⟩ 0 0 v.list [] from by unfold zd; rw [if_neg (by omega), if_neg (by omega), if_neg (by omega), if_pos (by omega), if_neg (by omega)]]; rfl) | (rw [show zd v = .mk v.kind ⟨#[]⟩ 0 0 [] v.map from by unfold zd; rw [if_neg (by omega), if_neg (by omega), if_neg (by omega), if_neg (by omega), if_pos (by omega)]]; rfl) | (rw [show zd v = .mk v.kind ⟨#[]⟩ 0 0 [] [] from by unfold zd; rw [if_neg (by omega), if_neg (by omega), if_neg (by omega), if_neg (by omega), if_neg (by omega)]]; rfl))))⟩, trivial⟩
              · have q := beq_eq_false_iff_ne.1 hb17
                refine zN <| zP <| zA <| zE <| zB <| g_u (zz rfl rfl rfl tA91 tS91 rfl rfl) <| g_u (zV rfl rfl rfl tS91 rfl rfl) <| zF <| zA <| zK ?_
                exact ⟨⟨_, _, _, _, _, _, _, rfl, rfl, tA91, tS91, rfl, rfl, (rfl : toAV _ = some _).trans (congrArg some (by (first | (exfalso; omega) | (rw [show zd v = .mk v.kind v.text 0 0 [] [] from by unfold zd; rw [if_pos (by omega), if_neg (by omega), if_neg (by omega), if_neg (by omega), if_neg (by omega)]]; rfl) | (rw [show zd v = .mk v.kind ⟨#[]⟩ v.num 0 [] [] from by unfold zd; rw [if_neg (by omega), if_pos (by omega), if_neg (by omega), if_neg (by omega), if_neg (by omega)]]; rfl) | (rw [show zd v = .mk v.kind ⟨#[]⟩ 0 v.bits [] [] from by unfold zd; rw [if_neg (by omega), if_neg (by omega), if_pos (by omega), if_neg (by omega), if_neg (by omega)]]; rfl) | (rw [show zd v = .mk v.kind ⟨#[]⟩ 0 0 v.list [] from by unfold zd; rw [if_neg (by omega), if_neg (by omega), if_neg (by omega), if_pos (by omega), if_neg (by omega)]]; rfl) | (rw [show zd v = .mk v.kind ⟨#[]⟩ 0 0 [] v.map from by unfold zd; rw [if_neg (by omega), if_neg (by omega), if_neg (by omega), if_neg (by omega), if_pos (by omega)]]; rfl) | (rw [show zd v = .mk v.kind ⟨#[]⟩ 0 0 [] [] from by unfold zd; rw [if_neg (by omega), if_neg (by omega), if_neg (by omega), if_neg (by omega), if_neg (by omega)]]; rfl))))⟩, trivial⟩
      · have q := beq_eq_false_iff_ne.1 hb13
        refine zB <| g_u (yM rfl rfl rfl) <| g_u (zD rfl rfl) <| zF <| zA ?_
        refine zL rfl (fun hb18 => ?_) (fun hb18 => ?_)
        · have q := beq_iff_eq.1 hb18
          refine zB <| g_u (zG rfl rfl wh rfl) <| g_u (zH rfl rfl rfl tA3 tS3 rfl rfl) <| g_u (zG rfl rfl wh rfl) <| g_u (zV rfl rfl rfl tS3 rfl rfl) <| zF <| zP <| zA <| zE <| zB <| g_u (zz rfl rfl rfl tA91 tS91 rfl rfl) <| g_u (zV rfl rfl rfl tS91 rfl rfl) <| zF <| zA <| zK ?_
          exact ⟨⟨_, _, _, _, _, _, _, rfl, rfl, tA91, tS91, rfl, rfl, (rfl : toAV _ = some _).trans (congrArg some (by (first | (exfalso; omega) | (rw [show zd v = .mk v.kind v.text 0 0 [] [] from by unfold zd; rw [if_pos (by omega), if_neg (by omega), if_neg (by omega), if_neg (by omega), if_neg (by omega)]]; rfl) | (rw [show zd v = .mk v.kind ⟨#[]⟩ v.num 0 [] [] from by unfold zd; rw [if_neg (by omega), if_pos (by omega), if_neg (by omega), if_neg (by omega), if_neg (by omega)]]; rfl) | (rw [show zd v = .mk v.kind ⟨#[]⟩ 0 v.bits [] [] from by unfold zd; rw [if_neg (by omega), if_neg (by omega), if_pos (by omega), if_neg (by omega), if_neg (by omega)]]; rfl) | (rw [show zd v = .mk v.kind ⟨#[]⟩ 0 0 v.list [] from by unfold zd; rw [if_neg (by omega), if_neg (by omega), if_neg (by omega), if_pos (by omega), if_neg (by omega)]]; rfl) | (rw [show zd v = .mk v.kind ⟨#[]⟩ 0 0 [] v.map from by unfold zd; rw [if_neg (by omega), if_neg (by omega), if_neg (by omega), if_neg (by omega), if_pos (by omega)]]; rfl) | (rw [show zd v = .mk v.kind ⟨#[]⟩ 0 0 [] [] from by unfold zd; rw [if_neg (by omega), if_neg (by omega), if_neg (by omega), if_neg (by omega), if_neg (by omega)]]; rfl))))⟩, trivial⟩
        · have q := beq_eq_false_iff_ne.1 hb18
          refine zE <| zB <| g_u (yM rfl rfl rfl) <| g_u (zD rfl rfl) <| zF <| zA ?_
          refine zL rfl (fun hb19 => ?_) (fun hb19 => ?_)
          · have q := beq_iff_eq.1 hb19
            refine zB <| g_u (zG rfl rfl fa91_3 rfl) <| g_u (zH rfl rfl rfl tA45 tS45 rfl rfl) <| g_u (zG rfl rfl fa91_3 rfl) <| g_u (zV rfl rfl rfl tS45 rfl rfl) <| zF <| zP <| zA <| zE <| zB <| g_u (zz rfl rfl rfl tA91 tS91 rfl rfl) <| g_u (zV rfl rfl rfl tS91 rfl rfl) <| zF <| zA <| zK ?_
            exact ⟨⟨_, _, _, _, _, _, _, rfl, rfl, tA91, tS91, rfl, rfl, (rfl : toAV _ = some _).trans (congrArg some (by (first | (exfalso; omega) | (rw [show zd v = .mk v.kind v.text 0 0 [] [] from by unfold zd; rw [if_pos (by omega), if_neg (by omega), if_neg (by omega), if_neg (by omega), if_neg (by omega)]]; rfl) | (rw [show zd v = .mk v.kind ⟨#[]⟩ v.num 0 [] [] from by unfold zd; rw [if_neg (by omega), if_pos (by omega), if_neg (by omega), if_neg (by omega), if_neg (by omega)]]; rfl) | (rw [show zd v = .mk v.kind ⟨#[]⟩ 0 v.bits [] [] from by unfold zd; rw [if_neg (by omega), if_neg (by omega), if_pos (by omega), if_neg (by omega), if_neg (by omega)]]; rfl) | (rw [show zd v = .mk v.kind ⟨#[]⟩ 0 0 v.list [] from by unfold zd; rw [if_neg (by omega), if_neg (by omega), if_neg (by omega), if_pos (by omega), if_neg (by omega)]]; rfl) | (rw [show zd v = .mk v.kind ⟨#[]⟩ 0 0 [] v.map from by unfold zd; rw [if_neg (by omega), if_neg (by omega), if_neg (by omega), if_neg (by omega), if_pos (by omega)]]; rfl) | (rw [show zd v = .mk v.kind ⟨#[]⟩ 0 0 [] [] from by unfold zd; rw [if_neg (by omega), if_neg (by omega), if_neg (by omega), if_neg (by omega), if_neg (by omega)]]; rfl))))⟩, trivial⟩
          · have q := beq_eq_false_iff_ne.1 hb19
            refine zE <| zB <| g_u (yM rfl rfl rfl) <| g_u (zD rfl rfl) <| zF <| zA ?_
            refine zL rfl (fun hb20 => ?_) (fun hb20 => ?_)
            · have q := beq_iff_eq.1 hb20
              refine zB <| g_u (zG rfl rfl wr rfl) <| g_u (zH rfl rfl rfl tA89 tS89 rfl rfl) <| g_u (zG rfl rfl wr rfl) <| g_u (zV rfl rfl rfl tS89 rfl rfl) <| zF <| zP <| zA <| zE <| zB <| g_u (zz rfl rfl rfl tA91 tS91 rfl rfl) <| g_u (zV rfl rfl rfl tS91 rfl rfl) <| zF <| zA <| zK ?_
              exact ⟨⟨_, _, _, _, _, _, _, rfl, rfl, tA91, tS91, rfl, rfl, (rfl : toAV _ = some _).trans (congrArg some (by (first | (exfalso; omega) | (rw [show zd v = .mk v.kind v.text 0 0 [] [] from by unfold zd; rw [if_pos (by omega), if_neg (by omega), if_neg (by omega), if_neg (by omega), if_neg (by omega)]]; rfl) | (rw [show zd v = .mk v.kind ⟨#[]⟩ v.num 0 [] [] from by unfold zd; rw [if_neg (by omega), if_pos (by omega), if_neg (by omega), if_neg (by omega), if_neg (by omega)]]; rfl) | (rw [show zd v = .mk v.kind ⟨#[]⟩ 0 v.bits [] [] from by unfold zd; rw [if_neg (by omega), if_neg (by omega), if_pos (by omega), if_neg (by omega), if_neg (by omega)]]; rfl) | (rw [show zd v = .mk v.kind ⟨#[]⟩ 0 0 v.list [] from by unfold zd; rw [if_neg (by omega), if_neg (by omega), if_neg (by omega), if_pos (by omega), if_neg (by omega)]]; rfl) | (rw [show zd v = .mk v.kind ⟨#[]⟩ 0 0 [] v.map from by unfold zd; rw [if_neg (by omega), if_neg (by omega), if_neg (by omega), if_neg (by omega), if_pos (by omega)]]; rfl) | (rw [show zd v = .mk v.kind ⟨#[]⟩ 0 0 [] [] from by unfold zd; rw [if_neg (by omega), if_neg (by omega), if_neg (by omega), if_neg (by omega), if_neg (by omega)]]; rfl))))⟩, trivial⟩
            · have q := beq_eq_false_iff_ne.1 hb20
              refine zE <| zB <| g_u (yM rfl rfl rfl) <| g_u (zD rfl rfl) <| zF <| zA ?_
              refine zL rfl (fun hb21 => ?_) (fun hb21 => ?_)
              · have q := beq_iff_eq.1 hb21
                refine zB <| g_u (zG rfl rfl vF rfl) <| g_u (zH rfl rfl rfl tA46 tS46 rfl rfl) <| g_u (zG rfl rfl vF rfl) <| g_u (zV rfl rfl rfl tS46 rfl rfl) <| zF <| zP <| zA <| zE <| zB <| g_u (zz rfl rfl rfl tA91 tS91 rfl rfl) <| g_u (zV rfl rfl rfl tS91 rfl rfl) <| zF <| zA <| zK ?_
                exact ⟨⟨_, _, _, _, _, _, _, rfl, rfl, tA91, tS91, rfl, rfl, (rfl : toAV _ = some _).trans (congrArg some (by (first | (exfalso; omega) | (rw [show zd v = .mk v.kind v.text 0 0 [] [] from by unfold zd; rw [if_pos (by omega), if_neg (by omega), if_neg (by omega), if_neg (by omega), if_neg (by omega)]]; rfl) | (rw [show zd v = .mk v.kind ⟨#[]⟩ v.num 0 [] [] from by unfold zd; rw [if_neg (by omega), if_pos (by omega), if_neg (by omega), if_neg (by omega), if_neg (by omega)]]; rfl) | (rw [show zd v = .mk v.kind ⟨#[]⟩ 0 v.bits [] [] from by unfold zd; rw [if_neg (by omega), if_neg (by omega), if_pos (by omega), if_neg (by omega), if_neg (by omega)]]; rfl) | (rw [show zd v = .mk v.kind ⟨#[]⟩ 0 0 v.list [] from by unfold zd; rw [if_neg (by omega), if_neg (by omega), if_neg (by omega), if_pos (by omega), if_neg (by omega)]]; rfl) | (rw [show zd v = .mk v.kind ⟨#[]⟩ 0 0 [] v.map from by unfold zd; rw [if_neg (by omega), if_neg (by omega), if_neg (by omega), if_neg (by omega), if_pos (by omega)]]; rfl) | (rw [show zd v = .mk v.kind ⟨#[]⟩ 0 0 [] [] from by unfold zd; rw [if_neg (by omega), if_neg (by omega), if_neg (by omega), if_neg (by omega), if_neg (by omega)]]; rfl))))⟩, trivial⟩
              · have q := beq_eq_false_iff_ne.1 hb21
                refine zN <| zP <| zA <| zE <| zB <| g_u (zz rfl rfl rfl tA91 tS91 rfl rfl) <| g_u (zV rfl rfl rfl tS91 rfl rfl) <| zF <| zA <| zK ?_
                exact ⟨⟨_, _, _, _, _, _, _, rfl, rfl, tA91, tS91, rfl, rfl, (rfl : toAV _ = some _).trans (congrArg some (by (first | (exfalso; omega) | (rw [show zd v = .mk v.kind v.text 0 0 [] [] from by unfold zd; rw [if_pos (by omega), if_neg (by omega), if_neg (by omega), if_neg (by omega), if_neg (by omega)]]; rfl) | (rw [show zd v = .mk v.kind ⟨#[]⟩ v.num 0 [] [] from by unfold zd; rw [if_neg (by omega), if_pos (by omega), if_neg (by omega), if_neg (by omega), if_neg (by omega)]]; rfl) | (rw [show zd v = .mk v.kind ⟨#[]⟩ 0 v.bits [] [] from by unfold zd; rw [if_neg (by omega), if_neg (by omega), if_pos (by omega), if_neg (by omega), if_neg (by omega)]]; rfl) | (rw [show zd v = .mk v.kind ⟨#[]⟩ 0 0 v.list [] from by unfold zd; rw [if_neg (by omega), if_neg (by omega), if_neg (by omega), if_pos (by omega), if_neg (by omega)]]; rfl) | (rw [show zd v = .mk v.kind ⟨#[]⟩ 0 0 [] v.map from by unfold zd; rw [if_neg (by omega), if_neg (by omega), if_neg (by omega), if_neg (by omega), if_pos (by omega)]]; rfl) | (rw [show zd v = .mk v.kind ⟨#[]⟩ 0 0 [] [] from by unfold zd; rw [if_neg (by omega), if_neg (by omega), if_neg (by omega), if_neg (by omega), if_neg (by omega)]]; rfl))))⟩, trivial⟩
theorem more_c (v : GV) : zn Tryz.prog Γ0 175 [v.av] [bv (!wN v)] := by
  refine zZ Tryz.func175 rfl Tryz.ntmps175 (by kernel_rfl) rfl fun w0 I0 G0 => ?_
  refine zE <| zB <| g_uG (zp 1001 rfl rfl rfl rfl) rfl <| g_u (zD rfl rfl) <| zF <| zA <| zE <| zB <| g_u (zH rfl rfl rfl tA91 tS91 rfl rfl) <| g_u (zQ (bare_c _) rfl rfl) <| g_uG (yG 1003 rfl rfl rfl tZ91) rfl <| g_u (zV rfl rfl rfl tS91 rfl rfl) <| zF <| zA <| zE <| zB <| g_u (zG rfl rfl fa91_1 rfl) <| g_u (zH rfl rfl rfl tA9 tS9 rfl rfl) <| g_u (zG rfl rfl fa91_1 rfl) <| g_u (zH rfl rfl rfl tA9 tS9 rfl rfl) <| g_u (s_neS rfl rfl rfl) <| g_u (zC rfl rfl) <| z6 (t := 11) rfl ?_
  rintro (hb1 | hb1)
  · rw [hb1]
    refine zM rfl rfl rfl <| zM rfl rfl rfl <| zM rfl rfl rfl <| zM rfl rfl rfl <| zM rfl rfl rfl <| g_u (zi rfl rfl rfl) <| g_u (zC rfl rfl) <| zM rfl rfl rfl <| zM rfl rfl rfl <| zM rfl rfl rfl <| zM rfl rfl rfl <| zM rfl rfl rfl <| g_u (zi rfl rfl rfl) <| g_u (zC rfl rfl) <| zM rfl rfl rfl <| zM rfl rfl rfl <| zM rfl rfl rfl <| zM rfl rfl rfl <| zM rfl rfl rfl <| zM rfl rfl rfl <| zM rfl rfl rfl <| g_u (zi rfl rfl rfl) <| g_u (zC rfl rfl) <| zM rfl rfl rfl <| zM rfl rfl rfl <| zM rfl rfl rfl <| zM rfl rfl rfl <| zM rfl rfl rfl <| zM rfl rfl rfl <| zM rfl rfl rfl <| g_u (zi rfl rfl rfl) <| g_u (zD rfl rfl) <| zF <| zA <| zK ?_
    exact ⟨⟨(rfl : toAV (Al.look _ _) = some _).trans (congrArg some (by (exact congrArg bv (by (try simp only [List.length_map] at *); rw [← more_eq]; unfold moreM; simp [*])))), rfl⟩, trivial⟩
  · rw [hb1]
    refine zX rfl rfl (zG rfl rfl wh rfl) <| zX rfl rfl (zH rfl rfl rfl tA3 tS3 rfl rfl) <| zX rfl rfl (zG rfl rfl wh rfl) <| zX rfl rfl (zH rfl rfl rfl tA3 tS3 rfl rfl) <| zX rfl rfl (y9 rfl rfl rfl) <| g_u (zj rfl rfl rfl) <| g_u (zC rfl rfl) <| z6 (t := 18) rfl ?_
    rintro (hb2 | hb2)
    · rw [hb2]
      refine zM rfl rfl rfl <| zM rfl rfl rfl <| zM rfl rfl rfl <| zM rfl rfl rfl <| zM rfl rfl rfl <| g_u (zi rfl rfl rfl) <| g_u (zC rfl rfl) <| zM rfl rfl rfl <| zM rfl rfl rfl <| zM rfl rfl rfl <| zM rfl rfl rfl <| zM rfl rfl rfl <| zM rfl rfl rfl <| zM rfl rfl rfl <| g_u (zi rfl rfl rfl) <| g_u (zC rfl rfl) <| zM rfl rfl rfl <| zM rfl rfl rfl <| zM rfl rfl rfl <| zM rfl rfl rfl <| zM rfl rfl rfl <| zM rfl rfl rfl <| zM rfl rfl rfl <| g_u (zi rfl rfl rfl) <| g_u (zD rfl rfl) <| zF <| zA <| zK ?_
      exact ⟨⟨(rfl : toAV (Al.look _ _) = some _).trans (congrArg some (by (exact congrArg bv (by (try simp only [List.length_map] at *); rw [← more_eq]; unfold moreM; simp [*])))), rfl⟩, trivial⟩
    · rw [hb2]
      refine zX rfl rfl (zG rfl rfl fa91_3 rfl) <| zX rfl rfl (zH rfl rfl rfl tA45 tS45 rfl rfl) <| zX rfl rfl (zG rfl rfl fa91_3 rfl) <| zX rfl rfl (zH rfl rfl rfl tA45 tS45 rfl rfl) <| zX rfl rfl (y9 rfl rfl rfl) <| g_u (zj rfl rfl rfl) <| g_u (zC rfl rfl) <| z6 (t := 25) rfl ?_
      rintro (hb3 | hb3)
      · rw [hb3]
        refine zM rfl rfl rfl <| zM rfl rfl rfl <| zM rfl rfl rfl <| zM rfl rfl rfl <| zM rfl rfl rfl <| zM rfl rfl rfl <| zM rfl rfl rfl <| g_u (zi rfl rfl rfl) <| g_u (zC rfl rfl) <| zM rfl rfl rfl <| zM rfl rfl rfl <| zM rfl rfl rfl <| zM rfl rfl rfl <| zM rfl rfl rfl <| zM rfl rfl rfl <| zM rfl rfl rfl <| g_u (zi rfl rfl rfl) <| g_u (zD rfl rfl) <| zF <| zA <| zK ?_
        exact ⟨⟨(rfl : toAV (Al.look _ _) = some _).trans (congrArg some (by (exact congrArg bv (by (try simp only [List.length_map] at *); rw [← more_eq]; unfold moreM; simp [*])))), rfl⟩, trivial⟩
      · rw [hb3]
        refine zX rfl rfl (zG rfl rfl wr rfl) <| zX rfl rfl (zH rfl rfl rfl tA89 tS89 rfl rfl) <| zX rfl rfl (yB rfl rfl Tryz.underlying89) <| zX rfl rfl (zG rfl rfl wr rfl) <| zX rfl rfl (zH rfl rfl rfl tA89 tS89 rfl rfl) <| zX rfl rfl (yB rfl rfl Tryz.underlying89) <| zX rfl rfl (y9 rfl rfl rfl) <| g_u (zj rfl rfl rfl) <| g_u (zC rfl rfl) <| z6 (t := 34) rfl ?_
        rintro (hb4 | hb4)
        · rw [hb4]
          refine zM rfl rfl rfl <| zM rfl rfl rfl <| zM rfl rfl rfl <| zM rfl rfl rfl <| zM rfl rfl rfl <| zM rfl rfl rfl <| zM rfl rfl rfl <| g_u (zi rfl rfl rfl) <| g_u (zD rfl rfl) <| zF <| zA <| zK ?_
          exact ⟨⟨(rfl : toAV (Al.look _ _) = some _).trans (congrArg some (by (exact congrArg bv (by (try simp only [List.length_map] at *); rw [← more_eq]; unfold moreM; simp [*])))), rfl⟩, trivial⟩
        · rw [hb4]
          refine zX rfl rfl (zG rfl rfl vF rfl) <| zX rfl rfl (zH rfl rfl rfl tA46 tS46 rfl rfl) <| zX rfl rfl (yB rfl rfl Tryz.underlying46) <| zX rfl rfl (zG rfl rfl vF rfl) <| zX rfl rfl (zH rfl rfl rfl tA46 tS46 rfl rfl) <| zX rfl rfl (yB rfl rfl Tryz.underlying46) <| zX rfl rfl (y9 rfl rfl rfl) <| g_u (zj rfl rfl rfl) <| g_u (zD rfl rfl) <| zF <| zA <| zK ?_
          exact ⟨⟨(rfl : toAV (Al.look _ _) = some _).trans (congrArg some (by (exact congrArg bv (by (try simp only [List.length_map] at *); rw [← more_eq]; unfold moreM; simp [*])))), rfl⟩, trivial⟩
theorem holds_c (v : GV) : zn Tryz.prog Γ0 176 [v.av] [bv (v.kind == 6 || v.kind == 7)] := by
  refine zZ Tryz.func176 rfl Tryz.ntmps176 (by kernel_rfl) rfl fun w0 I0 G0 => ?_
  refine zE <| zB <| g_uG (zp 1001 rfl rfl rfl rfl) rfl <| g_u (zD rfl rfl) <| zF <| zA <| zE <| zB <| g_u (zG rfl rfl yv rfl) <| g_u (zH rfl rfl rfl tA5 tS5 rfl rfl) <| g_u (yM rfl rfl rfl) <| g_u (zC rfl rfl) <| z6 (t := 6) rfl ?_
  rintro (hb1 | hb1)
  · rw [hb1]
    refine zM rfl rfl rfl <| zM rfl rfl rfl <| zM rfl rfl rfl <| g_u (zi rfl rfl rfl) <| g_u (zD rfl rfl) <| zF <| zA <| zK ?_
    exact ⟨⟨(rfl : toAV (Al.look _ _) = some _).trans (congrArg some (by (exact congrArg bv (by simp [*])))), rfl⟩, trivial⟩
  · rw [hb1]
    refine zX rfl rfl (zG rfl rfl yv rfl) <| zX rfl rfl (zH rfl rfl rfl tA5 tS5 rfl rfl) <| zX rfl rfl (yM rfl rfl rfl) <| g_u (zj rfl rfl rfl) <| g_u (zD rfl rfl) <| zF <| zA <| zK ?_
    exact ⟨⟨(rfl : toAV (Al.look _ _) = some _).trans (congrArg some (by (exact congrArg bv (by simp [*])))), rfl⟩, trivial⟩
set_option maxHeartbeats 2000000 in
theorem entC_st (l : List GA) (d : Int) (hd : 0 ≤ d ∧ d + wtAs l ≤ 1000000000) (ih : ∀ a ∈ l, ∀ d : Int, 0 ≤ d ∧ d + a.val.wt ≤ 1000000000 → zn Tryz.prog Γ0 114 [a.val.av, iv d] [iv (y3 d a.val)]) : zn Tryz.prog Γ0 81 [.sl 7 (l.map avA), iv d] [iv (entC d none l)] := by
  refine zZ Tryz.func81 rfl Tryz.ntmps81 (by kernel_rfl) rfl fun w0 I0 G0 => ?_
  refine zE <| zB <| g_u (zD rfl rfl) <| zF <| zA <| zE <| zE <| zB <| g_u (zC rfl rfl) <| g_u (yB rfl rfl Tryz.underlying46) <| g_u (zC rfl rfl) <| zF <| zA <| zS ?_
  refine zr (fun i : Nat => [(0, .imm (.sl 7 (l.map avA))), (1, .imm (iv d)), (8, .imm (.sl 7 (l.map avA))), (9, .imm (iv (l.length : Int))), (10, .imm (iv (i : Int)))]) (fun i => i ≤ l.length ∧ entC d none l = entC d (prevOf l i) (l.drop i)) (fun i => l.length - i) (0) ?_ ⟨rfl, rfl, rfl, zW rfl (by rw [List.length_map]), rfl, trivial⟩ ?_
  · exact ⟨Nat.zero_le _, rfl⟩
  · rintro i ⟨h1, h2⟩; (try dsimp only at h1 h2)
    refine zE <| zB <| g_u (yO rfl rfl rfl) <| zF <| zA <| zE ?_
    refine zL rfl (fun hb1 => ?_) (fun hb1 => ?_)
    · have hi : i < l.length := by have := of_decide_eq_true hb1; (try simp only [List.length_map] at this); omega
      have hw1 := wH (yq hi)
      have hw2 := (nthA l i).wt_eq
      have E := entC_drop d hi
      have ll := yr l
      refine zN <| zA <| zE <| zS <| zE <| zB <| g_u (zC rfl rfl) ?_
      refine g_u (za rfl rfl rfl Tryz.underlying46 tS93 (by omega) (ixA hi)) ?_
      refine g_u (zY rfl rfl tA93 tS93 rfl rfl) <| g_uG (yG 1006 rfl rfl rfl tZ93) rfl <| g_u (zD rfl rfl) <| g_u (zV rfl rfl rfl tS93 rfl rfl) <| zF <| zA <| zE <| zB <| g_u (zG rfl rfl fa93_0 rfl) <| g_u (zH rfl rfl rfl tA9 tS9 rfl rfl) ?_
      refine g_u (zQ (keyP_c _ (by omega)) rfl rfl) ?_
      refine g_u (zD rfl rfl) <| zF <| zA <| zE <| zE <| yZ xr <| g_u (zC rfl rfl) <| g_u (yM rfl rfl rfl) <| g_u (zC rfl rfl) <| z6 (t := 20) rfl ?_
      rintro (hb2 | hb2)
      · rw [hb2]
        have q := beq_iff_eq.1 hb2
        refine zX rfl rfl (zC rfl rfl) <| zX rfl rfl (xA rfl rfl rfl) <| g_u (zi rfl rfl rfl) <| g_u (zC rfl rfl) <| z6 (t := 24) rfl ?_
        rintro (hb3 | hb3)
        · rw [hb3]
          have hi0 : i ≠ 0 := by have := of_decide_eq_true hb3; omega
          have hm : i - 1 < l.length := by omega
          have em : IntKind.i64.wrap ((i : Int) - 1) = ((i - 1 : Nat) : Int) := by rw [zO (by omega) (by omega)]; omega
          refine zX rfl rfl (zC rfl rfl) <| zX rfl rfl (zC rfl rfl) <| zX rfl rfl (vK rfl rfl rfl) ?_
          refine zX rfl rfl (za rfl rfl rfl Tryz.underlying46 tS93 (by rw [em]; omega) ((congrArg (fun z : Int => (l.map avA)[z.toNat]?) em).trans (ixA hm))) ?_
          refine zX rfl rfl (zR rfl rfl fa93_0 rfl rfl) <| zX rfl rfl (zY rfl rfl tA9 tS9 rfl rfl) <| zX rfl rfl (zG rfl rfl fa93_0 rfl) <| zX rfl rfl (zH rfl rfl rfl tA9 tS9 rfl rfl) <| zX rfl rfl (s_geS rfl rfl rfl) <| g_u (zi rfl rfl rfl) ?_
          refine zF ⟨by kernel_rfl, ?_⟩
          refine zA ?_
          refine zL rfl (fun hb4 => ?_) (fun hb4 => ?_)
          · have pb : prevBad (prevOf l i) (nthA l i).key = true := by rw [prevBad_pos hi0, ← less_eq]; exact hb4
            refine zB <| g_u (zD rfl rfl) <| zF <| zA <| zE <| zE <| zB <| g_u (zC rfl rfl) <| g_u (yM rfl rfl rfl) <| zF <| zA ?_
            refine zL rfl (fun hb5 => ?_) (fun hb5 => ?_)
            · have q := beq_iff_eq.1 hb5
              refine zB <| g_u (zG rfl rfl fa93_1 rfl) <| g_u (zH rfl rfl rfl tA91 tS91 rfl rfl) <| g_u (zC rfl rfl) ?_
              refine g_u (zQ (ih _ (yq hi) d ⟨by omega, by omega⟩) rfl rfl) ?_
              refine g_u (zD rfl rfl) <| zF <| zA <| zE <| zB <| g_u (zC rfl rfl) <| g_u (y9 rfl rfl rfl) <| zF <| zA ?_
              refine zL rfl (fun hb6 => ?_) (fun hb6 => ?_)
              · have q := qc.1 hb6
                refine zE <| zB <| g_u (zC rfl rfl) <| g_u (zD rfl rfl) <| zF <| zA <| zK <| zf <| zJ <| zJ <| zf <| zJ ?_
                exact ⟨⟨(rfl : toAV (Al.look _ _) = some _).trans (congrArg some (by (exact congrArg iv (by first | (exfalso; omega) | (rw [h2, hin, List.drop_length]; rfl) | (rw [h2, E, zb _ _ (by omega)]; done) | (rw [h2, E, zI _ _ (by omega), if_pos pb]; done) | (rw [h2, E, zI _ _ (by omega), if_neg (by rw [pb]; decide), zb _ _ (by omega)]; done))))), rfl⟩, trivial⟩
              · have q := qd.1 hb6
                refine zN <| zP <| zA <| zB <| g_u (zt rfl rfl rfl) <| g_u (zC rfl rfl) <| zF <| zA ?_
                first | (exfalso; omega) | refine ⟨i + 1, ⟨hi, by (try dsimp only); rw [h2, E, zI _ _ (by omega), if_neg (by rw [pb]; decide), zI _ _ (by omega)]⟩, ⟨rfl, rfl, rfl, rfl, zW rfl (by rw [zO (by omega) (by omega)]; rfl), trivial⟩, by (try dsimp only); omega⟩
            · have q := beq_eq_false_iff_ne.1 hb5
              refine zN <| zA <| zE <| zB <| g_u (zC rfl rfl) <| g_u (y9 rfl rfl rfl) <| zF <| zA ?_
              refine zL rfl (fun hb7 => ?_) (fun hb7 => ?_)
              · have q := qc.1 hb7
                refine zE <| zB <| g_u (zC rfl rfl) <| g_u (zD rfl rfl) <| zF <| zA <| zK <| zf <| zJ <| zJ <| zf <| zJ ?_
                exact ⟨⟨(rfl : toAV (Al.look _ _) = some _).trans (congrArg some (by (exact congrArg iv (by first | (exfalso; omega) | (rw [h2, hin, List.drop_length]; rfl) | (rw [h2, E, zb _ _ (by omega)]; done) | (rw [h2, E, zI _ _ (by omega), if_pos pb]; done) | (rw [h2, E, zI _ _ (by omega), if_neg (by rw [pb]; decide), zb _ _ (by omega)]; done))))), rfl⟩, trivial⟩
              · have q := qd.1 hb7
                refine zN <| zP <| zA <| zB <| g_u (zt rfl rfl rfl) <| g_u (zC rfl rfl) <| zF <| zA ?_
                first | (exfalso; omega) | refine ⟨i + 1, ⟨hi, by (try dsimp only); rw [h2, E, zI _ _ (by omega), if_neg (by rw [pb]; decide), zI _ _ (by omega)]⟩, ⟨rfl, rfl, rfl, rfl, zW rfl (by rw [zO (by omega) (by omega)]; rfl), trivial⟩, by (try dsimp only); omega⟩
          · have pb : prevBad (prevOf l i) (nthA l i).key = false := by rw [prevBad_pos hi0, ← less_eq]; exact hb4
            refine zN <| zA <| zE <| zE <| zB <| g_u (zC rfl rfl) <| g_u (yM rfl rfl rfl) <| zF <| zA ?_
            refine zL rfl (fun hb8 => ?_) (fun hb8 => ?_)
            · have q := beq_iff_eq.1 hb8
              refine zB <| g_u (zG rfl rfl fa93_1 rfl) <| g_u (zH rfl rfl rfl tA91 tS91 rfl rfl) <| g_u (zC rfl rfl) ?_
              refine g_u (zQ (ih _ (yq hi) d ⟨by omega, by omega⟩) rfl rfl) ?_
              refine g_u (zD rfl rfl) <| zF <| zA <| zE <| zB <| g_u (zC rfl rfl) <| g_u (y9 rfl rfl rfl) <| zF <| zA ?_
              refine zL rfl (fun hb9 => ?_) (fun hb9 => ?_)
              · have q := qc.1 hb9
                refine zE <| zB <| g_u (zC rfl rfl) <| g_u (zD rfl rfl) <| zF <| zA <| zK <| zf <| zJ <| zJ <| zf <| zJ ?_
                exact ⟨⟨(rfl : toAV (Al.look _ _) = some _).trans (congrArg some (by (exact congrArg iv (by first | (exfalso; omega) | (rw [h2, hin, List.drop_length]; rfl) | (rw [h2, E, zb _ _ (by omega)]; done) | (rw [h2, E, zI _ _ (by omega), if_pos pb]; done) | (rw [h2, E, zI _ _ (by omega), if_neg (by rw [pb]; decide), zb _ _ (by omega)]; done))))), rfl⟩, trivial⟩
              · have q := qd.1 hb9
                refine zN <| zP <| zA <| zB <| g_u (zt rfl rfl rfl) <| g_u (zC rfl rfl) <| zF <| zA ?_
                first | (exfalso; omega) | refine ⟨i + 1, ⟨hi, by (try dsimp only); rw [h2, E, zI _ _ (by omega), if_neg (by rw [pb]; decide), zI _ _ (by omega)]⟩, ⟨rfl, rfl, rfl, rfl, zW rfl (by rw [zO (by omega) (by omega)]; rfl), trivial⟩, by (try dsimp only); omega⟩
            · have q := beq_eq_false_iff_ne.1 hb8
              refine zN <| zA <| zE <| zB <| g_u (zC rfl rfl) <| g_u (y9 rfl rfl rfl) <| zF <| zA ?_
              refine zL rfl (fun hb10 => ?_) (fun hb10 => ?_)
              · have q := qc.1 hb10
                refine zE <| zB <| g_u (zC rfl rfl) <| g_u (zD rfl rfl) <| zF <| zA <| zK <| zf <| zJ <| zJ <| zf <| zJ ?_
                exact ⟨⟨(rfl : toAV (Al.look _ _) = some _).trans (congrArg some (by (exact congrArg iv (by first | (exfalso; omega) | (rw [h2, hin, List.drop_length]; rfl) | (rw [h2, E, zb _ _ (by omega)]; done) | (rw [h2, E, zI _ _ (by omega), if_pos pb]; done) | (rw [h2, E, zI _ _ (by omega), if_neg (by rw [pb]; decide), zb _ _ (by omega)]; done))))), rfl⟩, trivial⟩
              · have q := qd.1 hb10
                refine zN <| zP <| zA <| zB <| g_u (zt rfl rfl rfl) <| g_u (zC rfl rfl) <| zF <| zA ?_
                first | (exfalso; omega) | refine ⟨i + 1, ⟨hi, by (try dsimp only); rw [h2, E, zI _ _ (by omega), if_neg (by rw [pb]; decide), zI _ _ (by omega)]⟩, ⟨rfl, rfl, rfl, rfl, zW rfl (by rw [zO (by omega) (by omega)]; rfl), trivial⟩, by (try dsimp only); omega⟩
        · rw [hb3]
          have hi0 : i = 0 := by have := of_decide_eq_false hb3; omega
          have pb : prevBad (prevOf l i) (nthA l i).key = false := by unfold prevOf; rw [if_pos hi0]; rfl
          refine zM rfl rfl rfl <| zM rfl rfl rfl <| zM rfl rfl rfl <| zM rfl rfl rfl <| zM rfl rfl rfl <| zM rfl rfl rfl <| zM rfl rfl rfl <| zM rfl rfl rfl <| zM rfl rfl rfl <| g_u (zj rfl rfl rfl) ?_
          refine zF ⟨by kernel_rfl, ?_⟩
          refine zA <| zh rfl <| zN <| zA <| zE <| zE <| zB <| g_u (zC rfl rfl) <| g_u (yM rfl rfl rfl) <| zF <| zA ?_
          refine zL rfl (fun hb11 => ?_) (fun hb11 => ?_)
          · have q := beq_iff_eq.1 hb11
            refine zB <| g_u (zG rfl rfl fa93_1 rfl) <| g_u (zH rfl rfl rfl tA91 tS91 rfl rfl) <| g_u (zC rfl rfl) ?_
            refine g_u (zQ (ih _ (yq hi) d ⟨by omega, by omega⟩) rfl rfl) ?_
            refine g_u (zD rfl rfl) <| zF <| zA <| zE <| zB <| g_u (zC rfl rfl) <| g_u (y9 rfl rfl rfl) <| zF <| zA ?_
            refine zL rfl (fun hb12 => ?_) (fun hb12 => ?_)
            · have q := qc.1 hb12
              refine zE <| zB <| g_u (zC rfl rfl) <| g_u (zD rfl rfl) <| zF <| zA <| zK <| zf <| zJ <| zJ <| zf <| zJ ?_
              exact ⟨⟨(rfl : toAV (Al.look _ _) = some _).trans (congrArg some (by (exact congrArg iv (by first | (exfalso; omega) | (rw [h2, hin, List.drop_length]; rfl) | (rw [h2, E, zb _ _ (by omega)]; done) | (rw [h2, E, zI _ _ (by omega), if_pos pb]; done) | (rw [h2, E, zI _ _ (by omega), if_neg (by rw [pb]; decide), zb _ _ (by omega)]; done))))), rfl⟩, trivial⟩
            · have q := qd.1 hb12
              refine zN <| zP <| zA <| zB <| g_u (zt rfl rfl rfl) <| g_u (zC rfl rfl) <| zF <| zA ?_
              first | (exfalso; omega) | refine ⟨i + 1, ⟨hi, by (try dsimp only); rw [h2, E, zI _ _ (by omega), if_neg (by rw [pb]; decide), zI _ _ (by omega)]⟩, ⟨rfl, rfl, rfl, rfl, zW rfl (by rw [zO (by omega) (by omega)]; rfl), trivial⟩, by (try dsimp only); omega⟩
          · have q := beq_eq_false_iff_ne.1 hb11
            refine zN <| zA <| zE <| zB <| g_u (zC rfl rfl) <| g_u (y9 rfl rfl rfl) <| zF <| zA ?_
            refine zL rfl (fun hb13 => ?_) (fun hb13 => ?_)
            · have q := qc.1 hb13
              refine zE <| zB <| g_u (zC rfl rfl) <| g_u (zD rfl rfl) <| zF <| zA <| zK <| zf <| zJ <| zJ <| zf <| zJ ?_
              exact ⟨⟨(rfl : toAV (Al.look _ _) = some _).trans (congrArg some (by (exact congrArg iv (by first | (exfalso; omega) | (rw [h2, hin, List.drop_length]; rfl) | (rw [h2, E, zb _ _ (by omega)]; done) | (rw [h2, E, zI _ _ (by omega), if_pos pb]; done) | (rw [h2, E, zI _ _ (by omega), if_neg (by rw [pb]; decide), zb _ _ (by omega)]; done))))), rfl⟩, trivial⟩
            · have q := qd.1 hb13
              refine zN <| zP <| zA <| zB <| g_u (zt rfl rfl rfl) <| g_u (zC rfl rfl) <| zF <| zA ?_
              first | (exfalso; omega) | refine ⟨i + 1, ⟨hi, by (try dsimp only); rw [h2, E, zI _ _ (by omega), if_neg (by rw [pb]; decide), zI _ _ (by omega)]⟩, ⟨rfl, rfl, rfl, rfl, zW rfl (by rw [zO (by omega) (by omega)]; rfl), trivial⟩, by (try dsimp only); omega⟩
      · rw [hb2]
        have q := beq_eq_false_iff_ne.1 hb2
        refine zM rfl rfl rfl <| zM rfl rfl rfl <| g_u (zj rfl rfl rfl) <| g_u (zC rfl rfl) <| zM rfl rfl rfl <| zM rfl rfl rfl <| zM rfl rfl rfl <| zM rfl rfl rfl <| zM rfl rfl rfl <| zM rfl rfl rfl <| zM rfl rfl rfl <| zM rfl rfl rfl <| zM rfl rfl rfl <| g_u (zj rfl rfl rfl) ?_
        refine zF ⟨by kernel_rfl, ?_⟩
        refine zA <| zh rfl <| zN <| zA <| zE <| zE <| zB <| g_u (zC rfl rfl) <| g_u (yM rfl rfl rfl) <| zF <| zA ?_
        refine zL rfl (fun hb14 => ?_) (fun hb14 => ?_)
        · have q := beq_iff_eq.1 hb14
          refine zB <| g_u (zG rfl rfl fa93_1 rfl) <| g_u (zH rfl rfl rfl tA91 tS91 rfl rfl) <| g_u (zC rfl rfl) ?_
          refine g_u (zQ (ih _ (yq hi) d ⟨by omega, by omega⟩) rfl rfl) ?_
          refine g_u (zD rfl rfl) <| zF <| zA <| zE <| zB <| g_u (zC rfl rfl) <| g_u (y9 rfl rfl rfl) <| zF <| zA ?_
          refine zL rfl (fun hb15 => ?_) (fun hb15 => ?_)
          · have q := qc.1 hb15
            refine zE <| zB <| g_u (zC rfl rfl) <| g_u (zD rfl rfl) <| zF <| zA <| zK <| zf <| zJ <| zJ <| zf <| zJ ?_
            exact ⟨⟨(rfl : toAV (Al.look _ _) = some _).trans (congrArg some (by (exact congrArg iv (by first | (exfalso; omega) | (rw [h2, hin, List.drop_length]; rfl) | (rw [h2, E, zb _ _ (by omega)]; done) | (rw [h2, E, zI _ _ (by omega), if_pos pb]; done) | (rw [h2, E, zI _ _ (by omega), if_neg (by rw [pb]; decide), zb _ _ (by omega)]; done))))), rfl⟩, trivial⟩
          · have q := qd.1 hb15
            refine zN <| zP <| zA <| zB <| g_u (zt rfl rfl rfl) <| g_u (zC rfl rfl) <| zF <| zA ?_
            first | (exfalso; omega) | refine ⟨i + 1, ⟨hi, by (try dsimp only); rw [h2, E, zI _ _ (by omega), if_neg (by rw [pb]; decide), zI _ _ (by omega)]⟩, ⟨rfl, rfl, rfl, rfl, zW rfl (by rw [zO (by omega) (by omega)]; rfl), trivial⟩, by (try dsimp only); omega⟩
        · have q := beq_eq_false_iff_ne.1 hb14
          refine zN <| zA <| zE <| zB <| g_u (zC rfl rfl) <| g_u (y9 rfl rfl rfl) <| zF <| zA ?_
          refine zL rfl (fun hb16 => ?_) (fun hb16 => ?_)
          · have q := qc.1 hb16
            refine zE <| zB <| g_u (zC rfl rfl) <| g_u (zD rfl rfl) <| zF <| zA <| zK <| zf <| zJ <| zJ <| zf <| zJ ?_
            exact ⟨⟨(rfl : toAV (Al.look _ _) = some _).trans (congrArg some (by (exact congrArg iv (by first | (exfalso; omega) | (rw [h2, hin, List.drop_length]; rfl) | (rw [h2, E, zb _ _ (by omega)]; done) | (rw [h2, E, zI _ _ (by omega), if_pos pb]; done) | (rw [h2, E, zI _ _ (by omega), if_neg (by rw [pb]; decide), zb _ _ (by omega)]; done))))), rfl⟩, trivial⟩
          · have q := qd.1 hb16
            refine zN <| zP <| zA <| zB <| g_u (zt rfl rfl rfl) <| g_u (zC rfl rfl) <| zF <| zA ?_
            first | (exfalso; omega) | refine ⟨i + 1, ⟨hi, by (try dsimp only); rw [h2, E, zI _ _ (by omega), if_neg (by rw [pb]; decide), zI _ _ (by omega)]⟩, ⟨rfl, rfl, rfl, rfl, zW rfl (by rw [zO (by omega) (by omega)]; rfl), trivial⟩, by (try dsimp only); omega⟩
    · have hin : i = l.length := by have := of_decide_eq_false hb1; (try simp only [List.length_map] at this); omega
      refine zw <| zT <| zT <| zo <| zA <| zE <| zB <| g_u (zD rfl rfl) <| zF <| zA <| zK ?_
      exact ⟨⟨(rfl : toAV (Al.look _ _) = some _).trans (congrArg some (by (exact congrArg iv (by first | (exfalso; omega) | (rw [h2, hin, List.drop_length]; rfl) | (rw [h2, E, zb _ _ (by omega)]; done) | (rw [h2, E, zI _ _ (by omega), if_pos pb]; done) | (rw [h2, E, zI _ _ (by omega), if_neg (by rw [pb]; decide), zb _ _ (by omega)]; done))))), rfl⟩, trivial⟩
set_option maxHeartbeats 2000000 in
theorem rentC_st (l : List GA) (d : Int) (hd : 0 ≤ d ∧ d + wtAs l ≤ 1000000000) (ih : ∀ a ∈ l, ∀ d : Int, 0 ≤ d ∧ d + a.val.wt ≤ 1000000000 → zn Tryz.prog Γ0 138 [a.val.av, iv d] [iv (y3 d a.val)]) : zn Tryz.prog Γ0 90 [.sl 7 (l.map avA), iv d] [iv (entC d none l)] := by
  refine zZ Tryz.func90 rfl Tryz.ntmps90 (by kernel_rfl) rfl fun w0 I0 G0 => ?_
  refine zE <| zB <| g_u (zD rfl rfl) <| zF <| zA <| zE <| zE <| zB <| g_u (zD rfl rfl) <| zF <| zA <| zS ?_
  refine zr (fun i : Nat => [(0, .imm (.sl 7 (l.map avA))), (1, .imm (iv d)), (5, .imm (iv (i : Int)))]) (fun i => i ≤ l.length ∧ entC d none l = entC d (prevOf l i) (l.drop i)) (fun i => l.length - i) (0) ?_ ⟨rfl, rfl, rfl, trivial⟩ ?_
  · exact ⟨Nat.zero_le _, rfl⟩
  · rintro i ⟨h1, h2⟩; (try dsimp only at h1 h2)
    refine zE <| zE <| zB <| g_u (zC rfl rfl) <| g_u (zC rfl rfl) <| g_u (yB rfl rfl Tryz.underlying46) <| g_u (yO rfl rfl rfl) <| zF <| zA ?_
    refine zL rfl (fun hb1 => ?_) (fun hb1 => ?_)
    · have hi : i < l.length := by have := of_decide_eq_true hb1; (try simp only [List.length_map] at this); omega
      have hw1 := wH (yq hi)
      have hw2 := (nthA l i).wt_eq
      have E := entC_drop d hi
      have ll := yr l
      refine zN <| zA <| zE <| zS <| zE <| zE <| zB <| g_u (zC rfl rfl) <| g_u (zC rfl rfl) ?_
      refine g_u (za rfl rfl rfl Tryz.underlying46 tS93 (by omega) (ixA hi)) ?_
      refine g_u (zR rfl rfl fa93_0 rfl rfl) <| g_u (zY rfl rfl tA9 tS9 rfl rfl) ?_
      refine g_u (zQ (rkeyP_c _ (by omega)) rfl rfl) ?_
      refine g_u (zD rfl rfl) <| zF <| zA <| zE <| zB <| g_u (zC rfl rfl) <| g_u (y9 rfl rfl rfl) <| zF <| zA ?_
      refine zL rfl (fun hb2 => ?_) (fun hb2 => ?_)
      · have q := qc.1 hb2
        refine zE <| zB <| g_u (zC rfl rfl) <| g_u (zD rfl rfl) <| zF <| zA <| zK <| zJ <| zf <| zJ <| zJ <| zf <| zJ ?_
        exact ⟨⟨(rfl : toAV (Al.look _ _) = some _).trans (congrArg some (by (exact congrArg iv (by first | (exfalso; omega) | (rw [h2, hin, List.drop_length]; rfl) | (rw [h2, E, zb _ _ (by omega)]; done) | (rw [h2, E, zI _ _ (by omega), if_pos pb]; done) | (rw [h2, E, zI _ _ (by omega), if_neg (by rw [pb]; decide), zb _ _ (by omega)]; done))))), rfl⟩, trivial⟩
      · have q := qd.1 hb2
        refine zN <| zA <| zE <| zE <| yZ xr <| g_u (zC rfl rfl) <| g_u (xA rfl rfl rfl) <| g_u (zC rfl rfl) <| z6 (t := 25) rfl ?_
        rintro (hb3 | hb3)
        · rw [hb3]
          have hi0 : i ≠ 0 := by have := of_decide_eq_true hb3; omega
          have hm : i - 1 < l.length := by omega
          have em : IntKind.i64.wrap ((i : Int) - 1) = ((i - 1 : Nat) : Int) := by rw [zO (by omega) (by omega)]; omega
          refine zX rfl rfl (zC rfl rfl) <| zX rfl rfl (zC rfl rfl) ?_
          refine zX rfl rfl (za rfl rfl rfl Tryz.underlying46 tS93 (by omega) (ixA hi)) ?_
          refine zX rfl rfl (zR rfl rfl fa93_0 rfl rfl) <| zX rfl rfl (zY rfl rfl tA9 tS9 rfl rfl) <| zX rfl rfl (zC rfl rfl) <| zX rfl rfl (zC rfl rfl) <| zX rfl rfl (vK rfl rfl rfl) ?_
          refine zX rfl rfl (za rfl rfl rfl Tryz.underlying46 tS93 (by rw [em]; omega) ((congrArg (fun z : Int => (l.map avA)[z.toNat]?) em).trans (ixA hm))) ?_
          refine zX rfl rfl (zR rfl rfl fa93_0 rfl rfl) <| zX rfl rfl (zY rfl rfl tA9 tS9 rfl rfl) <| zX rfl rfl (s_leS rfl rfl rfl) <| g_u (zi rfl rfl rfl) ?_
          refine zF ⟨by kernel_rfl, ?_⟩
          refine zA ?_
          refine zL rfl (fun hb4 => ?_) (fun hb4 => ?_)
          · have pb : prevBad (prevOf l i) (nthA l i).key = true := by rw [prevBad_pos hi0, ← leB]; exact hb4
            refine zE <| zB <| g_u (zD rfl rfl) <| zF <| zA <| zK <| zJ <| zf <| zJ <| zJ <| zf <| zJ ?_
            exact ⟨⟨(rfl : toAV (Al.look _ _) = some _).trans (congrArg some (by (exact congrArg iv (by first | (exfalso; omega) | (rw [h2, hin, List.drop_length]; rfl) | (rw [h2, E, zb _ _ (by omega)]; done) | (rw [h2, E, zI _ _ (by omega), if_pos pb]; done) | (rw [h2, E, zI _ _ (by omega), if_neg (by rw [pb]; decide), zb _ _ (by omega)]; done))))), rfl⟩, trivial⟩
          · have pb : prevBad (prevOf l i) (nthA l i).key = false := by rw [prevBad_pos hi0, ← leB]; exact hb4
            refine zN <| zA <| zE <| zB <| g_u (zC rfl rfl) <| g_u (zC rfl rfl) ?_
            refine g_u (za rfl rfl rfl Tryz.underlying46 tS93 (by omega) (ixA hi)) ?_
            refine g_u (zR rfl rfl fa93_1 rfl rfl) <| g_u (zY rfl rfl tA91 tS91 rfl rfl) <| g_u (zC rfl rfl) ?_
            refine g_u (zQ (ih _ (yq hi) d ⟨by omega, by omega⟩) rfl rfl) ?_
            refine g_u (zD rfl rfl) <| zF <| zA <| zE <| zB <| g_u (zC rfl rfl) <| g_u (y9 rfl rfl rfl) <| zF <| zA ?_
            refine zL rfl (fun hb5 => ?_) (fun hb5 => ?_)
            · have q := qc.1 hb5
              refine zE <| zB <| g_u (zC rfl rfl) <| g_u (zD rfl rfl) <| zF <| zA <| zK <| zf <| zJ <| zJ <| zf <| zJ ?_
              exact ⟨⟨(rfl : toAV (Al.look _ _) = some _).trans (congrArg some (by (exact congrArg iv (by first | (exfalso; omega) | (rw [h2, hin, List.drop_length]; rfl) | (rw [h2, E, zb _ _ (by omega)]; done) | (rw [h2, E, zI _ _ (by omega), if_pos pb]; done) | (rw [h2, E, zI _ _ (by omega), if_neg (by rw [pb]; decide), zb _ _ (by omega)]; done))))), rfl⟩, trivial⟩
            · have q := qd.1 hb5
              refine zN <| zP <| zA <| zB <| g_u (zC rfl rfl) <| g_u (zt rfl rfl rfl) <| g_u (zD rfl rfl) <| zF <| zA ?_
              first | (exfalso; omega) | refine ⟨i + 1, ⟨hi, by (try dsimp only); rw [h2, E, zI _ _ (by omega), if_neg (by rw [pb]; decide), zI _ _ (by omega)]⟩, ⟨rfl, rfl, zW rfl (by rw [zO (by omega) (by omega)]; rfl), trivial⟩, by (try dsimp only); omega⟩
        · rw [hb3]
          have hi0 : i = 0 := by have := of_decide_eq_false hb3; omega
          have pb : prevBad (prevOf l i) (nthA l i).key = false := by unfold prevOf; rw [if_pos hi0]; rfl
          refine zM rfl rfl rfl <| zM rfl rfl rfl <| zM rfl rfl rfl <| zM rfl rfl rfl <| zM rfl rfl rfl <| zM rfl rfl rfl <| zM rfl rfl rfl <| zM rfl rfl rfl <| zM rfl rfl rfl <| zM rfl rfl rfl <| zM rfl rfl rfl <| zM rfl rfl rfl <| g_u (zj rfl rfl rfl) ?_
          refine zF ⟨by kernel_rfl, ?_⟩
          refine zA <| zh rfl <| zN <| zA <| zE <| zB <| g_u (zC rfl rfl) <| g_u (zC rfl rfl) ?_
          refine g_u (za rfl rfl rfl Tryz.underlying46 tS93 (by omega) (ixA hi)) ?_
          refine g_u (zR rfl rfl fa93_1 rfl rfl) <| g_u (zY rfl rfl tA91 tS91 rfl rfl) <| g_u (zC rfl rfl) ?_
          refine g_u (zQ (ih _ (yq hi) d ⟨by omega, by omega⟩) rfl rfl) ?_
          refine g_u (zD rfl rfl) <| zF <| zA <| zE <| zB <| g_u (zC rfl rfl) <| g_u (y9 rfl rfl rfl) <| zF <| zA ?_
          refine zL rfl (fun hb6 => ?_) (fun hb6 => ?_)
          · have q := qc.1 hb6
            refine zE <| zB <| g_u (zC rfl rfl) <| g_u (zD rfl rfl) <| zF <| zA <| zK <| zf <| zJ <| zJ <| zf <| zJ ?_
            exact ⟨⟨(rfl : toAV (Al.look _ _) = some _).trans (congrArg some (by (exact congrArg iv (by first | (exfalso; omega) | (rw [h2, hin, List.drop_length]; rfl) | (rw [h2, E, zb _ _ (by omega)]; done) | (rw [h2, E, zI _ _ (by omega), if_pos pb]; done) | (rw [h2, E, zI _ _ (by omega), if_neg (by rw [pb]; decide), zb _ _ (by omega)]; done))))), rfl⟩, trivial⟩
          · have q := qd.1 hb6
            refine zN <| zP <| zA <| zB <| g_u (zC rfl rfl) <| g_u (zt rfl rfl rfl) <| g_u (zD rfl rfl) <| zF <| zA ?_
            first | (exfalso; omega) | refine ⟨i + 1, ⟨hi, by (try dsimp only); rw [h2, E, zI _ _ (by omega), if_neg (by rw [pb]; decide), zI _ _ (by omega)]⟩, ⟨rfl, rfl, zW rfl (by rw [zO (by omega) (by omega)]; rfl), trivial⟩, by (try dsimp only); omega⟩
    · have hin : i = l.length := by have := of_decide_eq_false hb1; (try simp only [List.length_map] at this); omega
      refine zw <| zT <| zT <| zo <| zA <| zE <| zB <| g_u (zD rfl rfl) <| zF <| zA <| zK ?_
      exact ⟨⟨(rfl : toAV (Al.look _ _) = some _).trans (congrArg some (by (exact congrArg iv (by first | (exfalso; omega) | (rw [h2, hin, List.drop_length]; rfl) | (rw [h2, E, zb _ _ (by omega)]; done) | (rw [h2, E, zI _ _ (by omega), if_pos pb]; done) | (rw [h2, E, zI _ _ (by omega), if_neg (by rw [pb]; decide), zb _ _ (by omega)]; done))))), rfl⟩, trivial⟩
set_option maxHeartbeats 2000000 in
theorem contentV_st (v : GV) (d : Int) (hd : 0 ≤ d ∧ d + v.wt ≤ 1000000000) (ih : ∀ y ∈ v.list, ∀ d : Int, 0 ≤ d ∧ d + y.wt ≤ 1000000000 → zn Tryz.prog Γ0 114 [y.av, iv d] [iv (y3 d y)]) (ihm : ∀ d : Int, 0 ≤ d ∧ d + wtAs v.map ≤ 1000000000 → zn Tryz.prog Γ0 81 [.sl 7 (v.map.map avA), iv d] [iv (entC d none v.map)]) : zn Tryz.prog Γ0 177 [v.av, iv d] [iv (wG d v)] := by
  have ek := v.wt_eq
  have e1 : IntKind.i64.wrap (d + 1) = d + 1 := zO (by omega) (by omega)
  have lv := xY v.list
  have cr := check_range v.text
  have ce := check_eq v.text
  refine zZ Tryz.func177 rfl Tryz.ntmps177 (by kernel_rfl) rfl fun w0 I0 G0 => ?_
  refine zE <| zB <| g_uG (zp 1002 rfl rfl rfl rfl) rfl <| g_u (zD rfl rfl) <| zF <| zA <| zE <| zE <| zB <| g_u (zG rfl rfl yv rfl) <| g_u (zH rfl rfl rfl tA5 tS5 rfl rfl) <| zF <| zA <| zS <| zE <| zB <| g_u (yM rfl rfl rfl) <| g_u (zD rfl rfl) <| zF <| zA ?_
  refine zL rfl (fun hb1 => ?_) (fun hb1 => ?_)
  · have q := beq_iff_eq.1 hb1
    refine zE <| zB <| g_u (zG rfl rfl fa91_1 rfl) <| g_u (zH rfl rfl rfl tA9 tS9 rfl rfl) ?_
    refine g_u (zQ (check_c _ (by omega)) rfl rfl) ?_
    refine g_u (s_geI rfl rfl rfl) <| zF <| zA ?_
    refine zL rfl (fun hb2 => ?_) (fun hb2 => ?_)
    · have q := of_decide_eq_true hb2
      refine zE <| zB <| g_u (zD rfl rfl) <| zF <| zA <| zK <| zf <| zJ ?_
      exact ⟨⟨(rfl : toAV (Al.look _ _) = some _).trans (congrArg some (by (exact congrArg iv (by unfold wG; first | (exfalso; omega) | (rw [if_pos (by omega), if_pos (by omega)]; done) | (rw [if_pos (by omega), if_neg (by omega)]; done) | (rw [if_neg (by omega), if_pos (by omega), if_pos (by omega)]; done) | (rw [if_neg (by omega), if_pos (by omega), if_neg (by omega)]; done) | (rw [if_neg (by omega), if_neg (by omega), if_pos (by omega), h2, E, zb _ _ (by omega)]; done) | (rw [if_neg (by omega), if_neg (by omega), if_pos (by omega), h2, hin, List.drop_length]; rfl) | (rw [if_neg (by omega), if_neg (by omega), if_neg (by omega), if_pos (by omega)]; done) | (rw [if_neg (by omega), if_neg (by omega), if_neg (by omega), if_neg (by omega)]; done))))), rfl⟩, trivial⟩
    · have q := of_decide_eq_false hb2
      refine zN <| zP <| zA <| zE <| zB <| g_u (zD rfl rfl) <| zF <| zA <| zK ?_
      exact ⟨⟨(rfl : toAV (Al.look _ _) = some _).trans (congrArg some (by (exact congrArg iv (by unfold wG; first | (exfalso; omega) | (rw [if_pos (by omega), if_pos (by omega)]; done) | (rw [if_pos (by omega), if_neg (by omega)]; done) | (rw [if_neg (by omega), if_pos (by omega), if_pos (by omega)]; done) | (rw [if_neg (by omega), if_pos (by omega), if_neg (by omega)]; done) | (rw [if_neg (by omega), if_neg (by omega), if_pos (by omega), h2, E, zb _ _ (by omega)]; done) | (rw [if_neg (by omega), if_neg (by omega), if_pos (by omega), h2, hin, List.drop_length]; rfl) | (rw [if_neg (by omega), if_neg (by omega), if_neg (by omega), if_pos (by omega)]; done) | (rw [if_neg (by omega), if_neg (by omega), if_neg (by omega), if_neg (by omega)]; done))))), rfl⟩, trivial⟩
  · have q := beq_eq_false_iff_ne.1 hb1
    refine zE <| zB <| g_u (yM rfl rfl rfl) <| g_u (zD rfl rfl) <| zF <| zA ?_
    refine zL rfl (fun hb3 => ?_) (fun hb3 => ?_)
    · have q := beq_iff_eq.1 hb3
      refine zE <| zB <| g_u (zG rfl rfl wh rfl) <| g_u (zH rfl rfl rfl tA3 tS3 rfl rfl) <| g_u (y9 rfl rfl rfl) <| g_u (zC rfl rfl) <| z6 (t := 21) rfl ?_
      rintro (hb4 | hb4)
      · rw [hb4]
        have q := qc.1 hb4
        refine zX rfl rfl (zG rfl rfl wh rfl) <| zX rfl rfl (zH rfl rfl rfl tA3 tS3 rfl rfl) <| zX rfl rfl (y9 rfl rfl rfl) <| g_u (zi rfl rfl rfl) <| zF <| zA ?_
        refine zL rfl (fun hb5 => ?_) (fun hb5 => ?_)
        · have q := qc.1 hb5
          refine zE <| zB <| g_u (zD rfl rfl) <| zF <| zA <| zK <| zf <| zJ ?_
          exact ⟨⟨(rfl : toAV (Al.look _ _) = some _).trans (congrArg some (by (exact congrArg iv (by unfold wG; first | (exfalso; omega) | (rw [if_pos (by omega), if_pos (by omega)]; done) | (rw [if_pos (by omega), if_neg (by omega)]; done) | (rw [if_neg (by omega), if_pos (by omega), if_pos (by omega)]; done) | (rw [if_neg (by omega), if_pos (by omega), if_neg (by omega)]; done) | (rw [if_neg (by omega), if_neg (by omega), if_pos (by omega), h2, E, zb _ _ (by omega)]; done) | (rw [if_neg (by omega), if_neg (by omega), if_pos (by omega), h2, hin, List.drop_length]; rfl) | (rw [if_neg (by omega), if_neg (by omega), if_neg (by omega), if_pos (by omega)]; done) | (rw [if_neg (by omega), if_neg (by omega), if_neg (by omega), if_neg (by omega)]; done))))), rfl⟩, trivial⟩
        · have q := qd.1 hb5
          refine zN <| zP <| zA <| zE <| zB <| g_u (zD rfl rfl) <| zF <| zA <| zK ?_
          exact ⟨⟨(rfl : toAV (Al.look _ _) = some _).trans (congrArg some (by (exact congrArg iv (by unfold wG; first | (exfalso; omega) | (rw [if_pos (by omega), if_pos (by omega)]; done) | (rw [if_pos (by omega), if_neg (by omega)]; done) | (rw [if_neg (by omega), if_pos (by omega), if_pos (by omega)]; done) | (rw [if_neg (by omega), if_pos (by omega), if_neg (by omega)]; done) | (rw [if_neg (by omega), if_neg (by omega), if_pos (by omega), h2, E, zb _ _ (by omega)]; done) | (rw [if_neg (by omega), if_neg (by omega), if_pos (by omega), h2, hin, List.drop_length]; rfl) | (rw [if_neg (by omega), if_neg (by omega), if_neg (by omega), if_pos (by omega)]; done) | (rw [if_neg (by omega), if_neg (by omega), if_neg (by omega), if_neg (by omega)]; done))))), rfl⟩, trivial⟩
      · rw [hb4]
        have q := qd.1 hb4
        refine zM rfl rfl rfl <| zM rfl rfl rfl <| zM rfl rfl rfl <| g_u (zj rfl rfl rfl) <| zF <| zA <| zh rfl <| zN <| zP <| zA <| zE <| zB <| g_u (zD rfl rfl) <| zF <| zA <| zK ?_
        exact ⟨⟨(rfl : toAV (Al.look _ _) = some _).trans (congrArg some (by (exact congrArg iv (by unfold wG; first | (exfalso; omega) | (rw [if_pos (by omega), if_pos (by omega)]; done) | (rw [if_pos (by omega), if_neg (by omega)]; done) | (rw [if_neg (by omega), if_pos (by omega), if_pos (by omega)]; done) | (rw [if_neg (by omega), if_pos (by omega), if_neg (by omega)]; done) | (rw [if_neg (by omega), if_neg (by omega), if_pos (by omega), h2, E, zb _ _ (by omega)]; done) | (rw [if_neg (by omega), if_neg (by omega), if_pos (by omega), h2, hin, List.drop_length]; rfl) | (rw [if_neg (by omega), if_neg (by omega), if_neg (by omega), if_pos (by omega)]; done) | (rw [if_neg (by omega), if_neg (by omega), if_neg (by omega), if_neg (by omega)]; done))))), rfl⟩, trivial⟩
    · have q := beq_eq_false_iff_ne.1 hb3
      refine zE <| zB <| g_u (yM rfl rfl rfl) <| g_u (zD rfl rfl) <| zF <| zA ?_
      refine zL rfl (fun hb6 => ?_) (fun hb6 => ?_)
      · have q := beq_iff_eq.1 hb6
        refine zE <| zB <| g_u (zG rfl rfl wr rfl) <| g_u (zH rfl rfl rfl tA89 tS89 rfl rfl) <| g_u (yB rfl rfl Tryz.underlying89) <| g_u (zC rfl rfl) <| zF <| zA <| zS ?_
        refine zr (fun i : Nat => [(1, .imm (iv d)), (29, .imm (.sl 6 (v.list.map avV))), (30, .imm (iv (v.list.length : Int))), (31, .imm (iv (i : Int)))]) (fun i => i ≤ v.list.length ∧ xy (d + 1) v.list = xy (d + 1) (v.list.drop i)) (fun i => v.list.length - i) (0) ?_ ⟨rfl, rfl, zW rfl (by rw [List.length_map]), rfl, trivial⟩ ?_
        · exact ⟨Nat.zero_le _, rfl⟩
        · rintro i ⟨h1, h2⟩; (try dsimp only at h1 h2)
          refine zE <| zB <| g_u (yO rfl rfl rfl) <| zF <| zA <| zE ?_
          refine zL rfl (fun hb7 => ?_) (fun hb7 => ?_)
          · have hi : i < v.list.length := by have := of_decide_eq_true hb7; (try simp only [List.length_map] at this); omega
            have hw1 := wtVs_mem (nthV_mem hi)
            have E := checkVs_drop (d + 1) hi
            refine zN <| zA <| zE <| zS <| zE <| zB ?_
            refine g_u (za rfl rfl rfl Tryz.underlying89 tS91 (by omega) (ixV hi)) ?_
            refine g_u (zY rfl rfl tA91 tS91 rfl rfl) <| g_uG (yG 1006 rfl rfl rfl tZ91) rfl <| g_u (zV rfl rfl rfl tS91 rfl rfl) <| zF <| zA <| zE <| zB <| g_u (zz rfl rfl rfl tA91 tS91 rfl rfl) <| g_u (zC rfl rfl) <| g_u (zt rfl rfl rfl) ?_
            refine g_u (zQ ((show zn Tryz.prog Γ0 114 [(nthV v.list i).av, iv (IntKind.i64.wrap (d + 1))] [iv (y3 (d + 1) (nthV v.list i))] from by rw [e1]; exact ih _ (nthV_mem hi) _ ⟨by omega, by omega⟩)) rfl rfl) ?_
            refine g_u (zD rfl rfl) <| zF <| zA <| zE <| zB <| g_u (zC rfl rfl) <| g_u (y9 rfl rfl rfl) <| zF <| zA ?_
            refine zL rfl (fun hb8 => ?_) (fun hb8 => ?_)
            · have q := qc.1 hb8
              refine zE <| zB <| g_u (zC rfl rfl) <| g_u (zD rfl rfl) <| zF <| zA <| zK <| zf <| zJ <| zJ <| zf <| zf <| zJ ?_
              exact ⟨⟨(rfl : toAV (Al.look _ _) = some _).trans (congrArg some (by (exact congrArg iv (by unfold wG; first | (exfalso; omega) | (rw [if_pos (by omega), if_pos (by omega)]; done) | (rw [if_pos (by omega), if_neg (by omega)]; done) | (rw [if_neg (by omega), if_pos (by omega), if_pos (by omega)]; done) | (rw [if_neg (by omega), if_pos (by omega), if_neg (by omega)]; done) | (rw [if_neg (by omega), if_neg (by omega), if_pos (by omega), h2, E, zb _ _ (by omega)]; done) | (rw [if_neg (by omega), if_neg (by omega), if_pos (by omega), h2, hin, List.drop_length]; rfl) | (rw [if_neg (by omega), if_neg (by omega), if_neg (by omega), if_pos (by omega)]; done) | (rw [if_neg (by omega), if_neg (by omega), if_neg (by omega), if_neg (by omega)]; done))))), rfl⟩, trivial⟩
            · have q := qd.1 hb8
              refine zN <| zP <| zA <| zB <| g_u (zt rfl rfl rfl) <| g_u (zC rfl rfl) <| zF <| zA ?_
              refine ⟨i + 1, ⟨hi, by (try dsimp only); rw [h2, E, zI _ _ (by omega)]⟩, ⟨rfl, rfl, rfl, zW rfl (by rw [zO (by omega) (by omega)]; rfl), trivial⟩, by (try dsimp only); omega⟩
          · have hin : i = v.list.length := by have := of_decide_eq_false hb7; (try simp only [List.length_map] at this); omega
            refine zw <| zT <| zT <| zo <| zP <| zA <| zE <| zB <| g_u (zD rfl rfl) <| zF <| zA <| zK ?_
            exact ⟨⟨(rfl : toAV (Al.look _ _) = some _).trans (congrArg some (by (exact congrArg iv (by unfold wG; first | (exfalso; omega) | (rw [if_pos (by omega), if_pos (by omega)]; done) | (rw [if_pos (by omega), if_neg (by omega)]; done) | (rw [if_neg (by omega), if_pos (by omega), if_pos (by omega)]; done) | (rw [if_neg (by omega), if_pos (by omega), if_neg (by omega)]; done) | (rw [if_neg (by omega), if_neg (by omega), if_pos (by omega), h2, E, zb _ _ (by omega)]; done) | (rw [if_neg (by omega), if_neg (by omega), if_pos (by omega), h2, hin, List.drop_length]; rfl) | (rw [if_neg (by omega), if_neg (by omega), if_neg (by omega), if_pos (by omega)]; done) | (rw [if_neg (by omega), if_neg (by omega), if_neg (by omega), if_neg (by omega)]; done))))), rfl⟩, trivial⟩
      · have q := beq_eq_false_iff_ne.1 hb6
        refine zE <| zB <| g_u (yM rfl rfl rfl) <| g_u (zD rfl rfl) <| zF <| zA ?_
        refine zL rfl (fun hb9 => ?_) (fun hb9 => ?_)
        · have q := beq_iff_eq.1 hb9
          refine zE <| zB <| g_u (zG rfl rfl vF rfl) <| g_u (zH rfl rfl rfl tA46 tS46 rfl rfl) <| g_u (zC rfl rfl) <| g_u (zt rfl rfl rfl) ?_
          refine g_u (zQ ((show zn Tryz.prog Γ0 81 [.sl 7 (v.map.map avA), iv (IntKind.i64.wrap (d + 1))] [iv (entC (d + 1) none v.map)] from by rw [e1]; exact ihm _ ⟨by omega, by omega⟩)) rfl rfl) ?_
          refine g_u (zD rfl rfl) <| zF <| zA <| zK <| zf <| zJ ?_
          exact ⟨⟨(rfl : toAV (Al.look _ _) = some _).trans (congrArg some (by (exact congrArg iv (by unfold wG; first | (exfalso; omega) | (rw [if_pos (by omega), if_pos (by omega)]; done) | (rw [if_pos (by omega), if_neg (by omega)]; done) | (rw [if_neg (by omega), if_pos (by omega), if_pos (by omega)]; done) | (rw [if_neg (by omega), if_pos (by omega), if_neg (by omega)]; done) | (rw [if_neg (by omega), if_neg (by omega), if_pos (by omega), h2, E, zb _ _ (by omega)]; done) | (rw [if_neg (by omega), if_neg (by omega), if_pos (by omega), h2, hin, List.drop_length]; rfl) | (rw [if_neg (by omega), if_neg (by omega), if_neg (by omega), if_pos (by omega)]; done) | (rw [if_neg (by omega), if_neg (by omega), if_neg (by omega), if_neg (by omega)]; done))))), rfl⟩, trivial⟩
        · have q := beq_eq_false_iff_ne.1 hb9
          refine zN <| zP <| zA <| zE <| zB <| g_u (zD rfl rfl) <| zF <| zA <| zK ?_
          exact ⟨⟨(rfl : toAV (Al.look _ _) = some _).trans (congrArg some (by (exact congrArg iv (by unfold wG; first | (exfalso; omega) | (rw [if_pos (by omega), if_pos (by omega)]; done) | (rw [if_pos (by omega), if_neg (by omega)]; done) | (rw [if_neg (by omega), if_pos (by omega), if_pos (by omega)]; done) | (rw [if_neg (by omega), if_pos (by omega), if_neg (by omega)]; done) | (rw [if_neg (by omega), if_neg (by omega), if_pos (by omega), h2, E, zb _ _ (by omega)]; done) | (rw [if_neg (by omega), if_neg (by omega), if_pos (by omega), h2, hin, List.drop_length]; rfl) | (rw [if_neg (by omega), if_neg (by omega), if_neg (by omega), if_pos (by omega)]; done) | (rw [if_neg (by omega), if_neg (by omega), if_neg (by omega), if_neg (by omega)]; done))))), rfl⟩, trivial⟩
theorem checkV_st (v : GV) (d : Int) (hd : 0 ≤ d ∧ d + v.wt ≤ 1000000000) (ihc : zn Tryz.prog Γ0 177 [v.av, iv d] [iv (wG d v)]) : zn Tryz.prog Γ0 114 [v.av, iv d] [iv (y3 d v)] := by
  have ek := v.wt_eq
  refine zZ Tryz.func114 rfl Tryz.ntmps114 (by kernel_rfl) rfl fun w0 I0 G0 => ?_
  refine zE <| zB <| g_uG (zp 1002 rfl rfl rfl rfl) rfl <| g_u (zD rfl rfl) <| zF <| zA <| zE <| zS <| zE <| zB <| g_u (zG rfl rfl yv rfl) <| g_u (zH rfl rfl rfl tA5 tS5 rfl rfl) <| g_u (xA rfl rfl rfl) <| g_u (zD rfl rfl) <| zF <| zA ?_
  refine zL rfl (fun hb1 => ?_) (fun hb1 => ?_)
  · have h7 := of_decide_eq_true hb1
    refine zE <| zB <| g_u (zD rfl rfl) <| zF <| zA <| zK <| zf <| zJ ?_
    exact ⟨⟨(rfl : toAV (Al.look _ _) = some _).trans (congrArg some (by (exact congrArg iv (by first | (exfalso; omega) | (rw [wR (by omega) he (by omega)]; done) | (rw [zs, if_pos (by omega)]; done) | (rw [zs, if_neg (by omega), if_pos he]; done) | (rw [zs, if_neg (by omega), if_neg (by rw [he]; decide), if_pos (by omega)]; done))))), rfl⟩, trivial⟩
  · have h7 := of_decide_eq_false hb1
    refine zE <| zB <| g_u (zH rfl rfl rfl tA91 tS91 rfl rfl) <| g_u (zQ (more_c _) rfl rfl) <| g_u (zD rfl rfl) <| zF <| zA ?_
    refine zL rfl (fun hb2 => ?_) (fun hb2 => ?_)
    · have he : wN v = false := by have e := hb2; simpa using e
      refine zE <| zB <| g_u (zD rfl rfl) <| zF <| zA <| zK <| zf <| zJ ?_
      exact ⟨⟨(rfl : toAV (Al.look _ _) = some _).trans (congrArg some (by (exact congrArg iv (by first | (exfalso; omega) | (rw [wR (by omega) he (by omega)]; done) | (rw [zs, if_pos (by omega)]; done) | (rw [zs, if_neg (by omega), if_pos he]; done) | (rw [zs, if_neg (by omega), if_neg (by rw [he]; decide), if_pos (by omega)]; done))))), rfl⟩, trivial⟩
    · have he : wN v = true := by have e := hb2; simpa using e
      refine zE <| zB <| g_u (zH rfl rfl rfl tA91 tS91 rfl rfl) <| g_u (zQ (holds_c _) rfl rfl) <| g_u (zC rfl rfl) <| z6 (t := 15) rfl ?_
      rintro (hb3 | hb3)
      · rw [hb3]
        have q : v.kind = 6 ∨ v.kind = 7 := by have e := hb3; simpa using e
        refine zX rfl rfl (zC rfl rfl) <| zX rfl rfl (s_geI rfl rfl rfl) <| g_u (zi rfl rfl rfl) <| g_u (zD rfl rfl) <| zF <| zA ?_
        refine zL rfl (fun hb4 => ?_) (fun hb4 => ?_)
        · have q := of_decide_eq_true hb4
          refine zE <| zB <| g_u (zD rfl rfl) <| zF <| zA <| zK <| zf <| zJ ?_
          exact ⟨⟨(rfl : toAV (Al.look _ _) = some _).trans (congrArg some (by (exact congrArg iv (by first | (exfalso; omega) | (rw [wR (by omega) he (by omega)]; done) | (rw [zs, if_pos (by omega)]; done) | (rw [zs, if_neg (by omega), if_pos he]; done) | (rw [zs, if_neg (by omega), if_neg (by rw [he]; decide), if_pos (by omega)]; done))))), rfl⟩, trivial⟩
        · have q := of_decide_eq_false hb4
          refine zN <| zP <| zA <| zE <| zB <| g_u (zH rfl rfl rfl tA91 tS91 rfl rfl) <| g_u (zC rfl rfl) <| g_u (zQ (ihc) rfl rfl) <| g_u (zD rfl rfl) <| zF <| zA <| zK ?_
          exact ⟨⟨(rfl : toAV (Al.look _ _) = some _).trans (congrArg some (by (exact congrArg iv (by first | (exfalso; omega) | (rw [wR (by omega) he (by omega)]; done) | (rw [zs, if_pos (by omega)]; done) | (rw [zs, if_neg (by omega), if_pos he]; done) | (rw [zs, if_neg (by omega), if_neg (by rw [he]; decide), if_pos (by omega)]; done))))), rfl⟩, trivial⟩
      · rw [hb3]
        have q : ¬ (v.kind = 6 ∨ v.kind = 7) := by have e := hb3; simpa using e
        refine zM rfl rfl rfl <| zM rfl rfl rfl <| g_u (zj rfl rfl rfl) <| g_u (zD rfl rfl) <| zF <| zA <| zh rfl <| zN <| zP <| zA <| zE <| zB <| g_u (zH rfl rfl rfl tA91 tS91 rfl rfl) <| g_u (zC rfl rfl) <| g_u (zQ (ihc) rfl rfl) <| g_u (zD rfl rfl) <| zF <| zA <| zK ?_
        exact ⟨⟨(rfl : toAV (Al.look _ _) = some _).trans (congrArg some (by (exact congrArg iv (by first | (exfalso; omega) | (rw [wR (by omega) he (by omega)]; done) | (rw [zs, if_pos (by omega)]; done) | (rw [zs, if_neg (by omega), if_pos he]; done) | (rw [zs, if_neg (by omega), if_neg (by rw [he]; decide), if_pos (by omega)]; done))))), rfl⟩, trivial⟩
set_option maxHeartbeats 2000000 in
theorem rempty_c (v : GV) : zn Tryz.prog Γ0 191 [v.av] [bv (wN v)] := by
  refine zZ Tryz.func191 rfl Tryz.ntmps191 (by kernel_rfl) rfl fun w0 I0 G0 => ?_
  refine zE <| zB <| g_uG (zp 1001 rfl rfl rfl rfl) rfl <| g_u (zD rfl rfl) <| zF <| zA <| zE ?_
  refine aw_cut' (fun _ : Unit => [(1, .ptr 1001 0), (1001, .box 91 (.imm v.av)), (3, .imm (bv (v.kind == 1 || v.kind == 5 || decide (v.text.size = 0))))]) (fun _ => True) ?_ ?_
  · refine zB ?_
    refine g_u (zG rfl rfl yv rfl) <| g_u (zH rfl rfl rfl tA5 tS5 rfl rfl) <| g_u (yM rfl rfl rfl) <| g_u (zC rfl rfl) <| z6 (t := 11) rfl ?_
    rintro (hb1 | hb1)
    · rw [hb1]
      refine zM rfl rfl rfl <| zM rfl rfl rfl <| zM rfl rfl rfl <| g_u (zi rfl rfl rfl) <| g_u (zC rfl rfl) <| zM rfl rfl rfl <| zM rfl rfl rfl <| zM rfl rfl rfl <| g_u (zi rfl rfl rfl) <| g_u (zD rfl rfl) <| zF <| zA ?_
      exact ⟨(), trivial, ⟨rfl, rfl, y4 rfl (by (try simp only [ya] at *); simp_all [size0, len_beq]), trivial⟩⟩
    · rw [hb1]
      refine zX rfl rfl (zG rfl rfl yv rfl) <| zX rfl rfl (zH rfl rfl rfl tA5 tS5 rfl rfl) <| zX rfl rfl (yM rfl rfl rfl) <| g_u (zj rfl rfl rfl) <| g_u (zC rfl rfl) <| z6 (t := 16) rfl ?_
      rintro (hb2 | hb2)
      · rw [hb2]
        refine zM rfl rfl rfl <| zM rfl rfl rfl <| zM rfl rfl rfl <| g_u (zi rfl rfl rfl) <| g_u (zD rfl rfl) <| zF <| zA ?_
        exact ⟨(), trivial, ⟨rfl, rfl, y4 rfl (by (try simp only [ya] at *); simp_all [size0, len_beq]), trivial⟩⟩
      · rw [hb2]
        refine zX rfl rfl (zG rfl rfl fa91_1 rfl) <| zX rfl rfl (zH rfl rfl rfl tA9 tS9 rfl rfl) <| zX rfl rfl (s_eqS rfl rfl rfl) <| g_u (zj rfl rfl rfl) <| g_u (zD rfl rfl) <| zF <| zA ?_
        exact ⟨(), trivial, ⟨rfl, rfl, y4 rfl (by (try simp only [ya] at *); simp_all [size0, len_beq]), trivial⟩⟩
  · rintro _ _
    refine zE ?_
    refine aw_cut' (fun _ : Unit => [(1, .ptr 1001 0), (1001, .box 91 (.imm v.av)), (3, .imm (bv (v.kind == 1 || v.kind == 5 || decide (v.text.size = 0)))), (4, .imm (bv (v.kind == 2 || v.kind == 3 || v.num == 0)))]) (fun _ => True) ?_ ?_
    · refine zB ?_
      refine g_u (zG rfl rfl yv rfl) <| g_u (zH rfl rfl rfl tA5 tS5 rfl rfl) <| g_u (yM rfl rfl rfl) <| g_u (zC rfl rfl) <| z6 (t := 24) rfl ?_
      rintro (hb3 | hb3)
      · rw [hb3]
        refine zM rfl rfl rfl <| zM rfl rfl rfl <| zM rfl rfl rfl <| g_u (zi rfl rfl rfl) <| g_u (zC rfl rfl) <| zM rfl rfl rfl <| zM rfl rfl rfl <| zM rfl rfl rfl <| g_u (zi rfl rfl rfl) <| g_u (zD rfl rfl) <| zF <| zA ?_
        exact ⟨(), trivial, ⟨rfl, rfl, rfl, y4 rfl (by (try simp only [ya] at *); simp_all [size0, len_beq]), trivial⟩⟩
      · rw [hb3]
        refine zX rfl rfl (zG rfl rfl yv rfl) <| zX rfl rfl (zH rfl rfl rfl tA5 tS5 rfl rfl) <| zX rfl rfl (yM rfl rfl rfl) <| g_u (zj rfl rfl rfl) <| g_u (zC rfl rfl) <| z6 (t := 29) rfl ?_
        rintro (hb4 | hb4)
        · rw [hb4]
          refine zM rfl rfl rfl <| zM rfl rfl rfl <| zM rfl rfl rfl <| g_u (zi rfl rfl rfl) <| g_u (zD rfl rfl) <| zF <| zA ?_
          exact ⟨(), trivial, ⟨rfl, rfl, rfl, y4 rfl (by (try simp only [ya] at *); simp_all [size0, len_beq]), trivial⟩⟩
        · rw [hb4]
          refine zX rfl rfl (zG rfl rfl wh rfl) <| zX rfl rfl (zH rfl rfl rfl tA3 tS3 rfl rfl) <| zX rfl rfl (yM rfl rfl rfl) <| g_u (zj rfl rfl rfl) <| g_u (zD rfl rfl) <| zF <| zA ?_
          exact ⟨(), trivial, ⟨rfl, rfl, rfl, y4 rfl (by (try simp only [ya] at *); simp_all [size0, len_beq]), trivial⟩⟩
    · rintro _ _
      refine zE ?_
      refine aw_cut' (fun _ : Unit => [(1, .ptr 1001 0), (1001, .box 91 (.imm v.av)), (3, .imm (bv (v.kind == 1 || v.kind == 5 || decide (v.text.size = 0)))), (4, .imm (bv (v.kind == 2 || v.kind == 3 || v.num == 0))), (5, .imm (bv (v.kind == 4 || v.bits == 0)))]) (fun _ => True) ?_ ?_
      · refine zB ?_
        refine g_u (zG rfl rfl yv rfl) <| g_u (zH rfl rfl rfl tA5 tS5 rfl rfl) <| g_u (yM rfl rfl rfl) <| g_u (zC rfl rfl) <| z6 (t := 37) rfl ?_
        rintro (hb5 | hb5)
        · rw [hb5]
          refine zM rfl rfl rfl <| zM rfl rfl rfl <| zM rfl rfl rfl <| g_u (zi rfl rfl rfl) <| g_u (zD rfl rfl) <| zF <| zA ?_
          exact ⟨(), trivial, ⟨rfl, rfl, rfl, rfl, y4 rfl (by (try simp only [ya] at *); simp_all [size0, len_beq]), trivial⟩⟩
        · rw [hb5]
          refine zX rfl rfl (zG rfl rfl fa91_3 rfl) <| zX rfl rfl (zH rfl rfl rfl tA45 tS45 rfl rfl) <| zX rfl rfl (yM rfl rfl rfl) <| g_u (zj rfl rfl rfl) <| g_u (zD rfl rfl) <| zF <| zA ?_
          exact ⟨(), trivial, ⟨rfl, rfl, rfl, rfl, y4 rfl (by (try simp only [ya] at *); simp_all [size0, len_beq]), trivial⟩⟩
      · rintro _ _
        refine zE ?_
        refine aw_cut' (fun _ : Unit => [(1, .ptr 1001 0), (1001, .box 91 (.imm v.av)), (3, .imm (bv (v.kind == 1 || v.kind == 5 || decide (v.text.size = 0)))), (4, .imm (bv (v.kind == 2 || v.kind == 3 || v.num == 0))), (5, .imm (bv (v.kind == 4 || v.bits == 0))), (6, .imm (bv (v.kind == 6 || v.list.isEmpty)))]) (fun _ => True) ?_ ?_
        · refine zB ?_
          refine g_u (zG rfl rfl yv rfl) <| g_u (zH rfl rfl rfl tA5 tS5 rfl rfl) <| g_u (yM rfl rfl rfl) <| g_u (zC rfl rfl) <| z6 (t := 45) rfl ?_
          rintro (hb6 | hb6)
          · rw [hb6]
            refine zM rfl rfl rfl <| zM rfl rfl rfl <| zM rfl rfl rfl <| zM rfl rfl rfl <| g_u (zi rfl rfl rfl) <| g_u (zD rfl rfl) <| zF <| zA ?_
            exact ⟨(), trivial, ⟨rfl, rfl, rfl, rfl, rfl, y4 rfl (by (try simp only [ya] at *); simp_all [size0, len_beq]), trivial⟩⟩
          · rw [hb6]
            refine zX rfl rfl (zG rfl rfl wr rfl) <| zX rfl rfl (zH rfl rfl rfl tA89 tS89 rfl rfl) <| zX rfl rfl (yB rfl rfl Tryz.underlying89) <| zX rfl rfl (yM rfl rfl rfl) <| g_u (zj rfl rfl rfl) <| g_u (zD rfl rfl) <| zF <| zA ?_
            exact ⟨(), trivial, ⟨rfl, rfl, rfl, rfl, rfl, y4 rfl (by (try simp only [ya] at *); simp_all [size0, len_beq]), trivial⟩⟩
        · rintro _ _
          refine zE ?_
          refine aw_cut' (fun _ : Unit => [(1, .ptr 1001 0), (1001, .box 91 (.imm v.av)), (3, .imm (bv (v.kind == 1 || v.kind == 5 || decide (v.text.size = 0)))), (4, .imm (bv (v.kind == 2 || v.kind == 3 || v.num == 0))), (5, .imm (bv (v.kind == 4 || v.bits == 0))), (6, .imm (bv (v.kind == 6 || v.list.isEmpty))), (7, .imm (bv (v.kind == 7 || v.map.isEmpty)))]) (fun _ => True) ?_ ?_
          · refine zB ?_
            refine g_u (zG rfl rfl yv rfl) <| g_u (zH rfl rfl rfl tA5 tS5 rfl rfl) <| g_u (yM rfl rfl rfl) <| g_u (zC rfl rfl) <| z6 (t := 54) rfl ?_
            rintro (hb7 | hb7)
            · rw [hb7]
              refine zM rfl rfl rfl <| zM rfl rfl rfl <| zM rfl rfl rfl <| zM rfl rfl rfl <| g_u (zi rfl rfl rfl) <| g_u (zD rfl rfl) <| zF <| zA ?_
              exact ⟨(), trivial, ⟨rfl, rfl, rfl, rfl, rfl, rfl, y4 rfl (by (try simp only [ya] at *); simp_all [size0, len_beq]), trivial⟩⟩
            · rw [hb7]
              refine zX rfl rfl (zG rfl rfl vF rfl) <| zX rfl rfl (zH rfl rfl rfl tA46 tS46 rfl rfl) <| zX rfl rfl (yB rfl rfl Tryz.underlying46) <| zX rfl rfl (yM rfl rfl rfl) <| g_u (zj rfl rfl rfl) <| g_u (zD rfl rfl) <| zF <| zA ?_
              exact ⟨(), trivial, ⟨rfl, rfl, rfl, rfl, rfl, rfl, y4 rfl (by (try simp only [ya] at *); simp_all [size0, len_beq]), trivial⟩⟩
          · rintro _ _
            refine zE <| zB <| g_u (zC rfl rfl) <| g_u (zC rfl rfl) <| z6 (t := 61) rfl ?_
            rintro (hb8 | hb8)
            · rw [hb8]
              refine zX rfl rfl (zC rfl rfl) <| g_u (zi rfl rfl rfl) <| g_u (zC rfl rfl) <| z6 (t := 64) rfl ?_
              rintro (hb9 | hb9)
              · rw [hb9]
                refine zX rfl rfl (zC rfl rfl) <| g_u (zi rfl rfl rfl) <| g_u (zC rfl rfl) <| z6 (t := 67) rfl ?_
                rintro (hb10 | hb10)
                · rw [hb10]
                  refine zX rfl rfl (zC rfl rfl) <| g_u (zi rfl rfl rfl) <| g_u (zC rfl rfl) <| z6 (t := 70) rfl ?_
                  rintro (hb11 | hb11)
                  · rw [hb11]
                    refine zX rfl rfl (zC rfl rfl) <| g_u (zi rfl rfl rfl) <| g_u (zD rfl rfl) <| zF <| zA <| zK ?_
                    exact ⟨⟨(rfl : toAV (Al.look _ _) = some _).trans (congrArg some (by (exact congrArg bv (by unfold wN; simp_all)))), rfl⟩, trivial⟩
                  · rw [hb11]
                    refine zM rfl rfl rfl <| g_u (zj rfl rfl rfl) <| g_u (zD rfl rfl) <| zF <| zA <| zK ?_
                    exact ⟨⟨(rfl : toAV (Al.look _ _) = some _).trans (congrArg some (by (exact congrArg bv (by unfold wN; simp_all)))), rfl⟩, trivial⟩
                · rw [hb10]
                  refine zM rfl rfl rfl <| g_u (zj rfl rfl rfl) <| g_u (zC rfl rfl) <| zM rfl rfl rfl <| g_u (zj rfl rfl rfl) <| g_u (zD rfl rfl) <| zF <| zA <| zK ?_
                  exact ⟨⟨(rfl : toAV (Al.look _ _) = some _).trans (congrArg some (by (exact congrArg bv (by unfold wN; simp_all)))), rfl⟩, trivial⟩
              · rw [hb9]
                refine zM rfl rfl rfl <| g_u (zj rfl rfl rfl) <| g_u (zC rfl rfl) <| zM rfl rfl rfl <| g_u (zj rfl rfl rfl) <| g_u (zC rfl rfl) <| zM rfl rfl rfl <| g_u (zj rfl rfl rfl) <| g_u (zD rfl rfl) <| zF <| zA <| zK ?_
                exact ⟨⟨(rfl : toAV (Al.look _ _) = some _).trans (congrArg some (by (exact congrArg bv (by unfold wN; simp_all)))), rfl⟩, trivial⟩
            · rw [hb8]
              refine zM rfl rfl rfl <| g_u (zj rfl rfl rfl) <| g_u (zC rfl rfl) <| zM rfl rfl rfl <| g_u (zj rfl rfl rfl) <| g_u (zC rfl rfl) <| zM rfl rfl rfl <| g_u (zj rfl rfl rfl) <| g_u (zC rfl rfl) <| zM rfl rfl rfl <| g_u (zj rfl rfl rfl) <| g_u (zD rfl rfl) <| zF <| zA <| zK ?_
              exact ⟨⟨(rfl : toAV (Al.look _ _) = some _).trans (congrArg some (by (exact congrArg bv (by unfold wN; simp_all)))), rfl⟩, trivial⟩
set_option maxHeartbeats 2000000 in
theorem rcheckV_st (v : GV) (d : Int) (hd : 0 ≤ d ∧ d + v.wt ≤ 1000000000) (ih : ∀ y ∈ v.list, ∀ d : Int, 0 ≤ d ∧ d + y.wt ≤ 1000000000 → zn Tryz.prog Γ0 138 [y.av, iv d] [iv (y3 d y)]) (ihm : ∀ d : Int, 0 ≤ d ∧ d + wtAs v.map ≤ 1000000000 → zn Tryz.prog Γ0 90 [.sl 7 (v.map.map avA), iv d] [iv (entC d none v.map)]) : zn Tryz.prog Γ0 138 [v.av, iv d] [iv (y3 d v)] := by
  have ek := v.wt_eq
  have e1 : IntKind.i64.wrap (d + 1) = d + 1 := zO (by omega) (by omega)
  have lv := xY v.list
  have cr := check_range v.text
  have ce := check_eq v.text
  refine zZ Tryz.func138 rfl Tryz.ntmps138 (by kernel_rfl) rfl fun w0 I0 G0 => ?_
  refine zE <| zB <| g_uG (zp 1002 rfl rfl rfl rfl) rfl <| g_u (zD rfl rfl) <| zF <| zA <| zE ?_
  refine aw_cut' (fun _ : Unit => [(2, .ptr 1002 0), (1002, .box 91 (.imm v.av)), (1, .imm (iv d))]) (fun _ => ¬ 7 < v.kind) ?_ ?_
  · refine zE ?_
    refine zB <| g_u (zG rfl rfl yv rfl) <| g_u (zH rfl rfl rfl tA5 tS5 rfl rfl) <| g_u (xA rfl rfl rfl) <| zF <| zA ?_
    refine zL rfl (fun hb1 => ?_) (fun hb1 => ?_)
    · have q := of_decide_eq_true hb1
      refine zE <| zB <| g_u (zD rfl rfl) <| zF <| zA <| zK <| zJ ?_
      exact ⟨⟨(rfl : toAV (Al.look _ _) = some _).trans (congrArg some (by (exact congrArg iv (by first | (rw [zs, if_pos (by omega)]; done) | (rw [zs, if_neg (by omega), if_pos he]; done) | (rw [zs, if_neg (by omega), if_neg (by rw [hc.2]; decide), if_pos (by omega)]; done) | (rw [zs, if_neg (by omega), if_neg (by rw [hc.2.1]; decide), if_neg (by omega), if_pos (by omega)]; done) | (rw [zs, if_neg (by omega), if_neg (by rw [hc.2.1]; decide), if_neg (by omega), if_neg (by omega), if_pos (by omega)]; done) | (rw [h2, E, zb _ _ (by rw [zb _ _ (by omega)]; omega), zb _ _ (by omega)]; done) | (rw [h2, E, zb (y3 (d + 1) _) _ (by omega), zb _ _ (by omega)]; done) | (rw [h2, hin, List.drop_length]; exact (zI _ _ rfl).symm))))), rfl⟩, trivial⟩
    · have q := of_decide_eq_false hb1
      refine zN <| zA ?_
      exact ⟨(), by (try dsimp only); omega, ⟨rfl, rfl, rfl, trivial⟩⟩
  · rintro _ hc
    refine zE ?_
    refine aw_cut' (fun _ : Unit => [(2, .ptr 1002 0), (1002, .box 91 (.imm v.av)), (1, .imm (iv d))]) (fun _ => ¬ 7 < v.kind ∧ wN v = true) ?_ ?_
    · refine zE ?_
      refine zB <| g_u (zH rfl rfl rfl tA91 tS91 rfl rfl) <| g_u (zQ (rempty_c _) rfl rfl) <| g_u (s_not rfl rfl) <| zF <| zA ?_
      refine zL rfl (fun hb2 => ?_) (fun hb2 => ?_)
      · have he : wN v = false := by have e := hb2; simpa using e
        refine zE <| zB <| g_u (zD rfl rfl) <| zF <| zA <| zK <| zJ ?_
        exact ⟨⟨(rfl : toAV (Al.look _ _) = some _).trans (congrArg some (by (exact congrArg iv (by first | (rw [zs, if_pos (by omega)]; done) | (rw [zs, if_neg (by omega), if_pos he]; done) | (rw [zs, if_neg (by omega), if_neg (by rw [hc.2]; decide), if_pos (by omega)]; done) | (rw [zs, if_neg (by omega), if_neg (by rw [hc.2.1]; decide), if_neg (by omega), if_pos (by omega)]; done) | (rw [zs, if_neg (by omega), if_neg (by rw [hc.2.1]; decide), if_neg (by omega), if_neg (by omega), if_pos (by omega)]; done) | (rw [h2, E, zb _ _ (by rw [zb _ _ (by omega)]; omega), zb _ _ (by omega)]; done) | (rw [h2, E, zb (y3 (d + 1) _) _ (by omega), zb _ _ (by omega)]; done) | (rw [h2, hin, List.drop_length]; exact (zI _ _ rfl).symm))))), rfl⟩, trivial⟩
      · have he : wN v = true := by have e := hb2; simpa using e
        refine zN <| zA ?_
        exact ⟨(), by (try dsimp only); exact ⟨hc, he⟩, ⟨rfl, rfl, rfl, trivial⟩⟩
    · rintro _ hc
      refine zE ?_
      refine aw_cut' (fun _ : Unit => [(2, .ptr 1002 0), (1002, .box 91 (.imm v.av)), (1, .imm (iv d))]) (fun _ => ¬ 7 < v.kind ∧ wN v = true ∧ ¬ (6 ≤ v.kind ∧ 16 ≤ d)) ?_ ?_
      · refine zE ?_
        refine zB <| g_u (zG rfl rfl yv rfl) <| g_u (zH rfl rfl rfl tA5 tS5 rfl rfl) <| g_u (s_geI rfl rfl rfl) <| g_u (zC rfl rfl) <| z6 (t := 16) rfl ?_
        rintro (hb3 | hb3)
        · rw [hb3]
          have q := of_decide_eq_true hb3
          refine zX rfl rfl (zC rfl rfl) <| zX rfl rfl (s_geI rfl rfl rfl) <| g_u (zi rfl rfl rfl) <| zF <| zA ?_
          refine zL rfl (fun hb4 => ?_) (fun hb4 => ?_)
          · have q := of_decide_eq_true hb4
            refine zE <| zB <| g_u (zD rfl rfl) <| zF <| zA <| zK <| zJ ?_
            exact ⟨⟨(rfl : toAV (Al.look _ _) = some _).trans (congrArg some (by (exact congrArg iv (by first | (rw [zs, if_pos (by omega)]; done) | (rw [zs, if_neg (by omega), if_pos he]; done) | (rw [zs, if_neg (by omega), if_neg (by rw [hc.2]; decide), if_pos (by omega)]; done) | (rw [zs, if_neg (by omega), if_neg (by rw [hc.2.1]; decide), if_neg (by omega), if_pos (by omega)]; done) | (rw [zs, if_neg (by omega), if_neg (by rw [hc.2.1]; decide), if_neg (by omega), if_neg (by omega), if_pos (by omega)]; done) | (rw [h2, E, zb _ _ (by rw [zb _ _ (by omega)]; omega), zb _ _ (by omega)]; done) | (rw [h2, E, zb (y3 (d + 1) _) _ (by omega), zb _ _ (by omega)]; done) | (rw [h2, hin, List.drop_length]; exact (zI _ _ rfl).symm))))), rfl⟩, trivial⟩
          · have q := of_decide_eq_false hb4
            refine zN <| zA ?_
            exact ⟨(), by (try dsimp only); exact ⟨hc.1, hc.2, by omega⟩, ⟨rfl, rfl, rfl, trivial⟩⟩
        · rw [hb3]
          have q := of_decide_eq_false hb3
          refine zM rfl rfl rfl <| zM rfl rfl rfl <| g_u (zj rfl rfl rfl) <| zF <| zA <| zh rfl <| zN <| zA ?_
          exact ⟨(), by (try dsimp only); exact ⟨hc.1, hc.2, by omega⟩, ⟨rfl, rfl, rfl, trivial⟩⟩
      · rintro _ hc
        refine zE ?_
        refine aw_cut' (fun _ : Unit => [(2, .ptr 1002 0), (1002, .box 91 (.imm v.av)), (1, .imm (iv d))]) (fun _ => ¬ 7 < v.kind ∧ wN v = true ∧ ¬ (6 ≤ v.kind ∧ 16 ≤ d) ∧ ¬ (v.kind = 1 ∧ checkM v.text ≠ -1)) ?_ ?_
        · refine zE ?_
          refine zB <| g_u (zG rfl rfl yv rfl) <| g_u (zH rfl rfl rfl tA5 tS5 rfl rfl) <| g_u (yM rfl rfl rfl) <| g_u (zC rfl rfl) <| z6 (t := 23) rfl ?_
          rintro (hb5 | hb5)
          · rw [hb5]
            have q := beq_iff_eq.1 hb5
            refine zX rfl rfl (zG rfl rfl fa91_1 rfl) <| zX rfl rfl (zH rfl rfl rfl tA9 tS9 rfl rfl) ?_
            refine zX rfl rfl (zQ (rcheck_c _ (by omega)) rfl rfl) ?_
            refine zX rfl rfl (y9 rfl rfl rfl) <| g_u (zi rfl rfl rfl) <| zF <| zA ?_
            refine zL rfl (fun hb6 => ?_) (fun hb6 => ?_)
            · have q := qc.1 hb6
              refine zE <| zB <| g_u (zD rfl rfl) <| zF <| zA <| zK <| zJ ?_
              exact ⟨⟨(rfl : toAV (Al.look _ _) = some _).trans (congrArg some (by (exact congrArg iv (by first | (rw [zs, if_pos (by omega)]; done) | (rw [zs, if_neg (by omega), if_pos he]; done) | (rw [zs, if_neg (by omega), if_neg (by rw [hc.2]; decide), if_pos (by omega)]; done) | (rw [zs, if_neg (by omega), if_neg (by rw [hc.2.1]; decide), if_neg (by omega), if_pos (by omega)]; done) | (rw [zs, if_neg (by omega), if_neg (by rw [hc.2.1]; decide), if_neg (by omega), if_neg (by omega), if_pos (by omega)]; done) | (rw [h2, E, zb _ _ (by rw [zb _ _ (by omega)]; omega), zb _ _ (by omega)]; done) | (rw [h2, E, zb (y3 (d + 1) _) _ (by omega), zb _ _ (by omega)]; done) | (rw [h2, hin, List.drop_length]; exact (zI _ _ rfl).symm))))), rfl⟩, trivial⟩
            · have q := qd.1 hb6
              refine zN <| zA ?_
              exact ⟨(), by (try dsimp only); exact ⟨hc.1, hc.2.1, hc.2.2, by omega⟩, ⟨rfl, rfl, rfl, trivial⟩⟩
          · rw [hb5]
            have q := beq_eq_false_iff_ne.1 hb5
            refine zM rfl rfl rfl <| zM rfl rfl rfl <| zM rfl rfl rfl <| zM rfl rfl rfl <| g_u (zj rfl rfl rfl) <| zF <| zA <| zh rfl <| zN <| zA ?_
            exact ⟨(), by (try dsimp only); exact ⟨hc.1, hc.2.1, hc.2.2, by omega⟩, ⟨rfl, rfl, rfl, trivial⟩⟩
        · rintro _ hc
          refine zE ?_
          refine aw_cut' (fun _ : Unit => [(2, .ptr 1002 0), (1002, .box 91 (.imm v.av)), (1, .imm (iv d))]) (fun _ => y3 d v = orC (xy (d + 1) v.list) (entC (d + 1) none v.map)) ?_ ?_
          · refine zE ?_
            refine zB <| g_u (zG rfl rfl yv rfl) <| g_u (zH rfl rfl rfl tA5 tS5 rfl rfl) <| g_u (yM rfl rfl rfl) <| g_u (zC rfl rfl) <| z6 (t := 32) rfl ?_
            rintro (hb7 | hb7)
            · rw [hb7]
              have q := beq_iff_eq.1 hb7
              refine zX rfl rfl (zG rfl rfl wh rfl) <| zX rfl rfl (zH rfl rfl rfl tA3 tS3 rfl rfl) <| zX rfl rfl (yO rfl rfl rfl) <| zX rfl rfl (zC rfl rfl) <| z6 (t := 36) rfl ?_
              rintro (hb8 | hb8)
              · rw [hb8]
                have q := of_decide_eq_true hb8
                refine zM rfl rfl rfl <| zM rfl rfl rfl <| zM rfl rfl rfl <| zX rfl rfl (zi rfl rfl rfl) <| g_u (zi rfl rfl rfl) <| zF <| zA <| zu rfl <| zE <| zB <| g_u (zD rfl rfl) <| zF <| zA <| zK <| zJ ?_
                exact ⟨⟨(rfl : toAV (Al.look _ _) = some _).trans (congrArg some (by (exact congrArg iv (by first | (rw [zs, if_pos (by omega)]; done) | (rw [zs, if_neg (by omega), if_pos he]; done) | (rw [zs, if_neg (by omega), if_neg (by rw [hc.2]; decide), if_pos (by omega)]; done) | (rw [zs, if_neg (by omega), if_neg (by rw [hc.2.1]; decide), if_neg (by omega), if_pos (by omega)]; done) | (rw [zs, if_neg (by omega), if_neg (by rw [hc.2.1]; decide), if_neg (by omega), if_neg (by omega), if_pos (by omega)]; done) | (rw [h2, E, zb _ _ (by rw [zb _ _ (by omega)]; omega), zb _ _ (by omega)]; done) | (rw [h2, E, zb (y3 (d + 1) _) _ (by omega), zb _ _ (by omega)]; done) | (rw [h2, hin, List.drop_length]; exact (zI _ _ rfl).symm))))), rfl⟩, trivial⟩
              · rw [hb8]
                have q := of_decide_eq_false hb8
                refine zX rfl rfl (zG rfl rfl wh rfl) <| zX rfl rfl (zH rfl rfl rfl tA3 tS3 rfl rfl) <| zX rfl rfl (xA rfl rfl rfl) <| zX rfl rfl (zj rfl rfl rfl) <| g_u (zi rfl rfl rfl) <| zF <| zA ?_
                refine zL rfl (fun hb9 => ?_) (fun hb9 => ?_)
                · have q := of_decide_eq_true hb9
                  refine zE <| zB <| g_u (zD rfl rfl) <| zF <| zA <| zK <| zJ ?_
                  exact ⟨⟨(rfl : toAV (Al.look _ _) = some _).trans (congrArg some (by (exact congrArg iv (by first | (rw [zs, if_pos (by omega)]; done) | (rw [zs, if_neg (by omega), if_pos he]; done) | (rw [zs, if_neg (by omega), if_neg (by rw [hc.2]; decide), if_pos (by omega)]; done) | (rw [zs, if_neg (by omega), if_neg (by rw [hc.2.1]; decide), if_neg (by omega), if_pos (by omega)]; done) | (rw [zs, if_neg (by omega), if_neg (by rw [hc.2.1]; decide), if_neg (by omega), if_neg (by omega), if_pos (by omega)]; done) | (rw [h2, E, zb _ _ (by rw [zb _ _ (by omega)]; omega), zb _ _ (by omega)]; done) | (rw [h2, E, zb (y3 (d + 1) _) _ (by omega), zb _ _ (by omega)]; done) | (rw [h2, hin, List.drop_length]; exact (zI _ _ rfl).symm))))), rfl⟩, trivial⟩
                · have q := of_decide_eq_false hb9
                  refine zN <| zA ?_
                  exact ⟨(), by (try dsimp only); (rw [zs, if_neg hc.1, if_neg (by rw [hc.2.1]; decide), if_neg hc.2.2.1, if_neg hc.2.2.2, if_neg (by omega)]), ⟨rfl, rfl, rfl, trivial⟩⟩
            · rw [hb7]
              have q := beq_eq_false_iff_ne.1 hb7
              refine zM rfl rfl rfl <| zM rfl rfl rfl <| zM rfl rfl rfl <| zM rfl rfl rfl <| g_skip' rfl rfl rfl <| g_skip' rfl rfl rfl <| g_skip' rfl rfl rfl <| zM rfl rfl rfl <| g_u (zj rfl rfl rfl) <| zF <| zA <| zh rfl <| zN <| zA ?_
              exact ⟨(), by (try dsimp only); (rw [zs, if_neg hc.1, if_neg (by rw [hc.2.1]; decide), if_neg hc.2.2.1, if_neg hc.2.2.2, if_neg (by omega)]), ⟨rfl, rfl, rfl, trivial⟩⟩
          · rintro _ hc
            refine zE <| zE <| zB <| g_u (zD rfl rfl) <| zF <| zA <| zS ?_
            refine zr (fun i : Nat => [(2, .ptr 1002 0), (1002, .box 91 (.imm v.av)), (1, .imm (iv d)), (5, .imm (iv (i : Int)))]) (fun i => i ≤ v.list.length ∧ y3 d v = orC (xy (d + 1) (v.list.drop i)) (entC (d + 1) none v.map)) (fun i => v.list.length - i) (0) ?_ ⟨rfl, rfl, rfl, rfl, trivial⟩ ?_
            · exact ⟨Nat.zero_le _, hc⟩
            · rintro i ⟨h1, h2⟩; (try dsimp only at h1 h2)
              refine zE <| zE <| zB <| g_u (zC rfl rfl) <| g_u (zG rfl rfl wr rfl) <| g_u (zH rfl rfl rfl tA89 tS89 rfl rfl) <| g_u (yB rfl rfl Tryz.underlying89) <| g_u (yO rfl rfl rfl) <| zF <| zA ?_
              refine zL rfl (fun hb10 => ?_) (fun hb10 => ?_)
              · have hi : i < v.list.length := by have := of_decide_eq_true hb10; (try simp only [List.length_map] at this); omega
                have hw1 := wtVs_mem (nthV_mem hi)
                have E := checkVs_drop (d + 1) hi
                refine zN <| zA <| zE <| zS <| zE <| zB <| g_u (zG rfl rfl wr rfl) <| g_u (zH rfl rfl rfl tA89 tS89 rfl rfl) <| g_u (zC rfl rfl) ?_
                refine g_u (za rfl rfl rfl Tryz.underlying89 tS91 (by omega) (ixV hi)) ?_
                refine g_u (zY rfl rfl tA91 tS91 rfl rfl) <| g_u (zC rfl rfl) <| g_u (zt rfl rfl rfl) ?_
                refine g_u (zQ ((show zn Tryz.prog Γ0 138 [(nthV v.list i).av, iv (IntKind.i64.wrap (d + 1))] [iv (y3 (d + 1) (nthV v.list i))] from by rw [e1]; exact ih _ (nthV_mem hi) _ ⟨by omega, by omega⟩)) rfl rfl) ?_
                refine g_u (zD rfl rfl) <| zF <| zA <| zE <| zB <| g_u (zC rfl rfl) <| g_u (y9 rfl rfl rfl) <| zF <| zA ?_
                refine zL rfl (fun hb11 => ?_) (fun hb11 => ?_)
                · have q := qc.1 hb11
                  refine zE <| zB <| g_u (zC rfl rfl) <| g_u (zD rfl rfl) <| zF <| zA <| zK <| zf <| zJ <| zJ <| zf <| zJ ?_
                  exact ⟨⟨(rfl : toAV (Al.look _ _) = some _).trans (congrArg some (by (exact congrArg iv (by first | (rw [zs, if_pos (by omega)]; done) | (rw [zs, if_neg (by omega), if_pos he]; done) | (rw [zs, if_neg (by omega), if_neg (by rw [hc.2]; decide), if_pos (by omega)]; done) | (rw [zs, if_neg (by omega), if_neg (by rw [hc.2.1]; decide), if_neg (by omega), if_pos (by omega)]; done) | (rw [zs, if_neg (by omega), if_neg (by rw [hc.2.1]; decide), if_neg (by omega), if_neg (by omega), if_pos (by omega)]; done) | (rw [h2, E, zb _ _ (by rw [zb _ _ (by omega)]; omega), zb _ _ (by omega)]; done) | (rw [h2, E, zb (y3 (d + 1) _) _ (by omega), zb _ _ (by omega)]; done) | (rw [h2, hin, List.drop_length]; exact (zI _ _ rfl).symm))))), rfl⟩, trivial⟩
                · have q := qd.1 hb11
                  refine zN <| zP <| zA <| zB <| g_u (zC rfl rfl) <| g_u (zt rfl rfl rfl) <| g_u (zD rfl rfl) <| zF <| zA ?_
                  refine ⟨i + 1, ⟨hi, by (try dsimp only); rw [h2, E, zI (y3 (d + 1) _) _ (by omega)]⟩, ⟨rfl, rfl, rfl, zW rfl (by rw [zO (by omega) (by omega)]; rfl), trivial⟩, by (try dsimp only); omega⟩
              · have hin : i = v.list.length := by have := of_decide_eq_false hb10; (try simp only [List.length_map] at this); omega
                refine zw <| zT <| zT <| zo <| zA <| zE <| zB <| g_u (zG rfl rfl vF rfl) <| g_u (zH rfl rfl rfl tA46 tS46 rfl rfl) <| g_u (zC rfl rfl) <| g_u (zt rfl rfl rfl) ?_
                refine g_u (zQ ((show zn Tryz.prog Γ0 90 [.sl 7 (v.map.map avA), iv (IntKind.i64.wrap (d + 1))] [iv (entC (d + 1) none v.map)] from by rw [e1]; exact ihm _ ⟨by omega, by omega⟩)) rfl rfl) ?_
                refine g_u (zD rfl rfl) <| zF <| zA <| zK ?_
                exact ⟨⟨(rfl : toAV (Al.look _ _) = some _).trans (congrArg some (by (exact congrArg iv (by first | (rw [zs, if_pos (by omega)]; done) | (rw [zs, if_neg (by omega), if_pos he]; done) | (rw [zs, if_neg (by omega), if_neg (by rw [hc.2]; decide), if_pos (by omega)]; done) | (rw [zs, if_neg (by omega), if_neg (by rw [hc.2.1]; decide), if_neg (by omega), if_pos (by omega)]; done) | (rw [zs, if_neg (by omega), if_neg (by rw [hc.2.1]; decide), if_neg (by omega), if_neg (by omega), if_pos (by omega)]; done) | (rw [h2, E, zb _ _ (by rw [zb _ _ (by omega)]; omega), zb _ _ (by omega)]; done) | (rw [h2, E, zb (y3 (d + 1) _) _ (by omega), zb _ _ (by omega)]; done) | (rw [h2, hin, List.drop_length]; exact (zI _ _ rfl).symm))))), rfl⟩, trivial⟩
theorem checkV_c (v : GV) : ∀ d : Int, 0 ≤ d ∧ d + v.wt ≤ 1000000000 → zn Tryz.prog Γ0 114 [v.av, iv d] [iv (y3 d v)] := by
  refine GV.ind (P := fun v => ∀ d : Int, 0 ≤ d ∧ d + v.wt ≤ 1000000000 → zn Tryz.prog Γ0 114 [v.av, iv d] [iv (y3 d v)]) ?_ v
  intro v h1 h2 d hd
  exact checkV_st v d hd (contentV_st v d hd h1 fun d hd => entC_st v.map d hd h2)
theorem entC_c (l : List GA) (d : Int) (hd : 0 ≤ d ∧ d + wtAs l ≤ 1000000000) : zn Tryz.prog Γ0 81 [.sl 7 (l.map avA), iv d] [iv (entC d none l)] := entC_st l d hd fun a _ => checkV_c a.val
theorem rcheckV_c (v : GV) : ∀ d : Int, 0 ≤ d ∧ d + v.wt ≤ 1000000000 → zn Tryz.prog Γ0 138 [v.av, iv d] [iv (y3 d v)] := by
  refine GV.ind (P := fun v => ∀ d : Int, 0 ≤ d ∧ d + v.wt ≤ 1000000000 → zn Tryz.prog Γ0 138 [v.av, iv d] [iv (y3 d v)]) ?_ v
  intro v h1 h2 d hd
  exact rcheckV_st v d hd h1 fun d hd => rentC_st v.map d hd h2
theorem rentC_c (l : List GA) (d : Int) (hd : 0 ≤ d ∧ d + wtAs l ≤ 1000000000) : zn Tryz.prog Γ0 90 [.sl 7 (l.map avA), iv d] [iv (entC d none l)] := rentC_st l d hd fun a _ => rcheckV_c a.val
end Go.Proofs
namespace Go.Al
open Go.RowKit
section
variable {C : Cx} {A : Nat → SV} {d : Nat} {ty : TypeId} {pos : String} {af : Array Edge} {gd : Option (Nat × Bool)} {x y : Operand} {T T' : TypeId}
end
end Go.Al
namespace Go.Proofs
open Go Go.Al
theorem GA.ext' {a b : GA} (h1 : a.key = b.key) (h2 : a.val = b.val) : a = b := by cases a; cases b; simp only [GA.key_mk, GA.val_mk] at h1 h2; rw [h1, h2]
theorem GV.ext' {a b : GV} (h1 : a.kind = b.kind) (h2 : a.text = b.text) (h3 : a.num = b.num) (h4 : a.bits = b.bits) (h5 : a.list = b.list) (h6 : a.map = b.map) : a = b := by
  cases a; cases b
  simp only [GV.kind_mk, GV.text_mk, GV.num_mk, GV.bits_mk, GV.list_mk, GV.map_mk] at h1 h2 h3 h4 h5 h6
  rw [h1, h2, h3, h4, h5, h6]
end Go.Proofs
namespace Go.Al
open Go.RowKit
section
variable {C : Cx} {A : Nat → SV} {d : Nat} {ty : TypeId} {pos : String} {af : Array Edge} {gd : Option (Nat × Bool)} {x y : Operand} {T T' : TypeId}
theorem s_makeImm {el : TypeId} {n by_ : Nat} {X0 : AV} {len cap : Nat} {il ic : Int} {k1 k2 : IntKind} (hN : Nat.blt d C.N = true) (hx : opV A x = some (.v (.int k1 il))) (hy : opV A y = some (.v (.int k2 ic))) (hil : il = len) (hic : ic = cap)
    (hT : C.P.underlying T = some (.slice el)) (hn : yI C.P el = some n) (hz : yh C.P el X0) (hX : Nat.beq X0.width n = true) (h0 : Nat.blt 0 n = true) (hb : (C.P.info? el).map (·.bytes) = some by_) (hlc : len = cap) (hB : by_ * cap ≤ 281474976710656) (hL : cap < 9223372036854775808) :
    zl C ⟨some d, .makeSlice T x y, ty, pos, af, gd⟩ (opR x ++ opR y) [] A [(d, .imm (.sl n (List.replicate cap X0)))] := by
  intro A' a w hR hF ⟨G, S⟩
  rw [← yJ (fun k hk => hR k (List.mem_append_left _ hk))] at hx
  rw [← yJ (fun k hk => hR k (List.mem_append_right _ hk))] at hy
  have hev1 := yN (S.opV hx)
  have hev2 := yN (S.opV hy)
  obtain ⟨z, hz1, hz2⟩ := hz
  have hn0 : 0 < n := by simpa [Nat.blt_eq] using h0
  have hzl : z.cells.size = n := by
    have := RepC.len X0 _ (xn (w := w) (I := G.I) X0 _ hz2)
    rw [← Array.length_toList, this]; exact Nat.eq_of_beq_eq_true hX
  obtain ⟨inf, hi, hib⟩ : ∃ inf, C.P.info? el = some inf ∧ inf.bytes = by_ := by
    cases hi : C.P.info? el with
    | none => rw [hi] at hb; cases hb
    | some inf => rw [hi] at hb; exact ⟨inf, rfl, by simpa using hb⟩
  let cs : Array Value := (Array.range (cap * n)).map fun i => z.cells[i % z.cells.size]!
  have k2 : RepE w G.I n (List.replicate cap X0) cs.toList := by
    have := zeroRow (w := w) (I := G.I) (xn X0 _ hz2) hzl hn0 cap
    simpa [cs] using this
  unfold Oper.wp
  have hw1 : IntKind.i64.wrap il = len := by rw [hil]; exact zO (by omega) (by omega)
  have hw2 : IntKind.i64.wrap ic = cap := by rw [hic]; exact zO (by omega) (by omega)
  have hrun : (Instr.makeSlice T (a.eval x) (a.eval y)).run C.P w = .ok (.slice (some ⟨w.heap.size, 0, none⟩) len cap) (w.alloc (.cells cs el)) := by
    have hcn : ¬ (cap * n = 0 ∧ cap ≠ 0) := by
      rintro ⟨h1, h2⟩
      have := Nat.mul_pos (Nat.pos_of_ne_zero h2) hn0
      omega
    have hbig : decide ((by_ : Int) * (cap : Int) > 2 ^ 48) = false := by
      refine decide_eq_false ?_
      have : ((by_ * cap : Nat) : Int) ≤ 281474976710656 := Int.ofNat_le.2 hB
      rw [Int.natCast_mul] at this
      have h48 : (2 : Int) ^ 48 = 281474976710656 := by decide
      rw [h48]; omega
    have hc0 : ((cap : Int) < 0) = False := by simp
    have hl0 : ((len : Int) < 0) = False := by simp
    have hlc' : ((len : Int) > (cap : Int)) = False := by simp; omega
    simp only [Instr.makeSlice, Sem.run_bind, ze hT, Result.andThen_ok, hev1, hev2, asInt, asIntOf, Sem.run_pure, xh hi, hw1, hw2, hib, hc0, hl0, hlc', hbig, decide_false, Bool.or_false, Bool.false_eq_true, if_false, run_askRoom, yQ hn, Int.toNat_natCast]
    by_cases h : cap * n = 0
    · have hcs0 : ∀ f : Nat → Value, (Array.range 0).map f = #[] := by intro f; simp
      simp only [h, if_true, Sem.run_pure, Result.andThen_ok, newRow, Sem.run_bind, run_newObj]
      simp only [cs, h, hcs0]
      rfl
    · simp only [h, if_false, Sem.run_bind, xR hz1, Result.andThen_ok, Sem.run_pure, newRow, run_newObj]
      rfl
  simp only [execOp, Sem.run_bind, hrun, Result.andThen_ok, Sem.run_pure, Oper.upon_value]
  have S' := S.allocI cs el cs.size
  have hle : Le w G.I (w.alloc (.cells cs el)) (fun b o => G.I b o ∨ (b = w.heap.size ∧ o < cs.size)) := fun b o h => ⟨.inl h, (Le.alloc S.val _ b o h).2⟩
  have hcell := cellsAt_alloc (w := w) (I := G.I) (T := el) (fr := (0, 0)) (Nat.le_refl cs.size)
  rw [List.take_of_length_le (by simp)] at hcell
  refine ⟨_, S'.put (by simpa [Nat.blt_eq] using hN) (yC.2 ⟨[_], ?_, rfl⟩)⟩
  simp only [RepC]
  refine ⟨_, rfl, .inr ⟨w.heap.size, 0, cap, by rw [List.length_replicate, hlc], by simp, ?_, (k2.mono hle).mem hcell⟩⟩
  unfold maxLen; omega
end
end Go.Al
namespace Go.Proofs
open Go Go.Al
set_option maxRecDepth 10000
end Go.Proofs
namespace Go.Proofs
open Go Go.Al
set_option maxRecDepth 10000
theorem checkAs_c (l : List GA) (ho : ∀ a ∈ l, a.ok) (hw : wtAs l ≤ 1000000) : zn Tryz.prog Γ0 49 [(.sl 7 (l.map avA))] [iv (yS l)] := by
  have hl := yr l
  refine zZ Tryz.func49 rfl Tryz.ntmps49 (by kernel_rfl) rfl fun w0 I0 G0 => ?_
  refine zE <| zB <| g_u (zD rfl rfl) <| zF <| zA <| zE <| zE <| zB <| g_u (zC rfl rfl) <| g_u (yB rfl rfl Tryz.underlying46) <| g_u (xA rfl rfl rfl) <| zF <| zA ?_
  refine zL rfl (fun hb1 => ?_) (fun hb1 => ?_)
  · have q : (l.length : Int) > 32 := by have e := of_decide_eq_true hb1; simp only [List.length_map] at e; omega
    refine zE <| zB <| g_u (zD rfl rfl) <| zF <| zA <| zK <| zJ ?_
    exact ⟨⟨(rfl : toAV (Al.look _ _) = some _).trans (congrArg some (by (exact congrArg iv (by first | (rw [h2, hin, List.drop_length]; rfl) | (rw [h2, xS hi, if_pos (by omega)]; done) | (unfold yS; rw [if_pos (by omega)]; done) | (unfold yS; rw [if_neg (by omega), zb _ _ (by omega)]; done))))), rfl⟩, trivial⟩
  · have q : ¬ (l.length : Int) > 32 := by have e := of_decide_eq_false hb1; simp only [List.length_map] at e; omega
    refine zN <| zA <| zE <| zE <| zB <| g_u (zC rfl rfl) ?_
    refine g_u (zQ (entC_c l 0 ⟨by omega, by omega⟩) rfl rfl) ?_
    refine g_u (zD rfl rfl) <| zF <| zA <| zE <| zB <| g_u (zC rfl rfl) <| g_u (y9 rfl rfl rfl) <| zF <| zA ?_
    refine zL rfl (fun hb2 => ?_) (fun hb2 => ?_)
    · have q := qc.1 hb2
      refine zE <| zB <| g_u (zC rfl rfl) <| g_u (zD rfl rfl) <| zF <| zA <| zK <| zJ ?_
      exact ⟨⟨(rfl : toAV (Al.look _ _) = some _).trans (congrArg some (by (exact congrArg iv (by first | (rw [h2, hin, List.drop_length]; rfl) | (rw [h2, xS hi, if_pos (by omega)]; done) | (unfold yS; rw [if_pos (by omega)]; done) | (unfold yS; rw [if_neg (by omega), zb _ _ (by omega)]; done))))), rfl⟩, trivial⟩
    · have q := qd.1 hb2
      refine zN <| zA <| zE <| zE <| zB <| g_u (zC rfl rfl) <| g_u (yB rfl rfl Tryz.underlying46) <| g_u (zC rfl rfl) <| zF <| zA <| zS ?_
      refine zr (fun i : Nat => [(14, .imm (.sl 7 (l.map avA))), (15, .imm (iv (l.length : Int))), (16, .imm (iv (i : Int)))]) (fun i => i ≤ l.length ∧ yS l = textsC (l.drop i)) (fun i => l.length - i) (0) ?_ ⟨rfl, zW rfl (by rw [List.length_map]), rfl, trivial⟩ ?_
      · exact ⟨Nat.zero_le _, by unfold yS; rw [if_neg (by omega), zI _ _ (by omega)]; rfl⟩
      · rintro i ⟨h1, h2⟩; (try dsimp only at h1 h2)
        refine zE <| zB <| g_u (yO rfl rfl rfl) <| zF <| zA <| zE ?_
        refine zL rfl (fun hb3 => ?_) (fun hb3 => ?_)
        · have hi : i < l.length := by have := of_decide_eq_true hb3; (try simp only [List.length_map] at this); omega
          have gov : (nthA l i).val.ok := ((GA.ok_iff _).1 (ho _ (yq hi))).2
          have gow : (nthA l i).val.wt ≤ 10000000 := by have h1 := wH (yq hi); have h2 := (nthA l i).wt_eq; omega
          refine zN <| zA <| zE <| zS <| zE <| zB ?_
          refine g_u (za rfl rfl rfl Tryz.underlying46 tS93 (by omega) (ixA hi)) ?_
          refine g_u (zY rfl rfl tA93 tS93 rfl rfl) <| g_uG (yG 1005 rfl rfl rfl tZ93) rfl <| g_u (zV rfl rfl rfl tS93 rfl rfl) <| zF <| zA <| zE <| zB <| g_u (zG rfl rfl fa93_1 rfl) <| g_u (zH rfl rfl rfl tA91 tS91 rfl rfl) <| g_u (zQ (text_c _ gov gow) rfl rfl) <| g_u (yR rfl rfl Tryz.underlying9) <| g_u (xA rfl rfl rfl) <| zF <| zA ?_
          refine zL rfl (fun hb4 => ?_) (fun hb4 => ?_)
          · have q := of_decide_eq_true hb4
            refine zE <| zB <| g_u (zD rfl rfl) <| zF <| zA <| zK <| zf <| zJ <| zJ <| zf <| zJ ?_
            exact ⟨⟨(rfl : toAV (Al.look _ _) = some _).trans (congrArg some (by (exact congrArg iv (by first | (rw [h2, hin, List.drop_length]; rfl) | (rw [h2, xS hi, if_pos (by omega)]; done) | (unfold yS; rw [if_pos (by omega)]; done) | (unfold yS; rw [if_neg (by omega), zb _ _ (by omega)]; done))))), rfl⟩, trivial⟩
          · have q := of_decide_eq_false hb4
            refine zN <| zP <| zA <| zB <| g_u (zt rfl rfl rfl) <| g_u (zC rfl rfl) <| zF <| zA ?_
            refine ⟨i + 1, ⟨hi, by (try dsimp only); rw [h2, xS hi, if_neg (by omega)]⟩, ⟨rfl, rfl, zW rfl (by rw [zO (by omega) (by omega)]; rfl), trivial⟩, by (try dsimp only); omega⟩
        · have hin : i = l.length := by have := of_decide_eq_false hb3; (try simp only [List.length_map] at this); omega
          refine zw <| zT <| zT <| zo <| zA <| zE <| zB <| g_u (zD rfl rfl) <| zF <| zA <| zK ?_
          exact ⟨⟨(rfl : toAV (Al.look _ _) = some _).trans (congrArg some (by (exact congrArg iv (by first | (rw [h2, hin, List.drop_length]; rfl) | (rw [h2, xS hi, if_pos (by omega)]; done) | (unfold yS; rw [if_pos (by omega)]; done) | (unfold yS; rw [if_neg (by omega), zb _ _ (by omega)]; done))))), rfl⟩, trivial⟩
theorem rcheckAs_c (l : List GA) (ho : ∀ a ∈ l, a.ok) (hw : wtAs l ≤ 1000000) : zn Tryz.prog Γ0 54 [(.sl 7 (l.map avA))] [iv (yS l)] := by
  have hl := yr l
  refine zZ Tryz.func54 rfl Tryz.ntmps54 (by kernel_rfl) rfl fun w0 I0 G0 => ?_
  refine zE <| zB <| g_u (zD rfl rfl) <| zF <| zA <| zE <| zE <| zB <| g_u (zC rfl rfl) <| g_u (yB rfl rfl Tryz.underlying46) <| g_u (xA rfl rfl rfl) <| zF <| zA ?_
  refine zL rfl (fun hb1 => ?_) (fun hb1 => ?_)
  · have q : (l.length : Int) > 32 := by have e := of_decide_eq_true hb1; simp only [List.length_map] at e; omega
    refine zE <| zB <| g_u (zD rfl rfl) <| zF <| zA <| zK <| zJ ?_
    exact ⟨⟨(rfl : toAV (Al.look _ _) = some _).trans (congrArg some (by (exact congrArg iv (by first | (rw [h2, hin, List.drop_length]; rfl) | (rw [h2, xS hi, if_pos (by omega)]; done) | (unfold yS; rw [if_pos (by omega)]; done) | (unfold yS; rw [if_neg (by omega), zb _ _ (by omega)]; done))))), rfl⟩, trivial⟩
  · have q : ¬ (l.length : Int) > 32 := by have e := of_decide_eq_false hb1; simp only [List.length_map] at e; omega
    refine zN <| zA <| zE <| zE <| zB <| g_u (zC rfl rfl) ?_
    refine g_u (zQ (rentC_c l 0 ⟨by omega, by omega⟩) rfl rfl) ?_
    refine g_u (zD rfl rfl) <| zF <| zA <| zE <| zB <| g_u (zC rfl rfl) <| g_u (y9 rfl rfl rfl) <| zF <| zA ?_
    refine zL rfl (fun hb2 => ?_) (fun hb2 => ?_)
    · have q := qc.1 hb2
      refine zE <| zB <| g_u (zC rfl rfl) <| g_u (zD rfl rfl) <| zF <| zA <| zK <| zJ ?_
      exact ⟨⟨(rfl : toAV (Al.look _ _) = some _).trans (congrArg some (by (exact congrArg iv (by first | (rw [h2, hin, List.drop_length]; rfl) | (rw [h2, xS hi, if_pos (by omega)]; done) | (unfold yS; rw [if_pos (by omega)]; done) | (unfold yS; rw [if_neg (by omega), zb _ _ (by omega)]; done))))), rfl⟩, trivial⟩
    · have q := qd.1 hb2
      refine zN <| zA <| zE <| zE <| zB <| g_u (zD rfl rfl) <| zF <| zA <| zS ?_
      refine zr (fun i : Nat => [(0, .imm (.sl 7 (l.map avA))), (4, .imm (iv (i : Int)))]) (fun i => i ≤ l.length ∧ yS l = textsC (l.drop i)) (fun i => l.length - i) (0) ?_ ⟨rfl, rfl, trivial⟩ ?_
      · exact ⟨Nat.zero_le _, by unfold yS; rw [if_neg (by omega), zI _ _ (by omega)]; rfl⟩
      · rintro i ⟨h1, h2⟩; (try dsimp only at h1 h2)
        refine zE <| zE <| zB <| g_u (zC rfl rfl) <| g_u (zC rfl rfl) <| g_u (yB rfl rfl Tryz.underlying46) <| g_u (yO rfl rfl rfl) <| zF <| zA ?_
        refine zL rfl (fun hb3 => ?_) (fun hb3 => ?_)
        · have hi : i < l.length := by have := of_decide_eq_true hb3; (try simp only [List.length_map] at this); omega
          have gov : (nthA l i).val.ok := ((GA.ok_iff _).1 (ho _ (yq hi))).2
          have gow : (nthA l i).val.wt ≤ 10000000 := by have h1 := wH (yq hi); have h2 := (nthA l i).wt_eq; omega
          refine zN <| zA <| zE <| zS <| zE <| zB <| g_u (zC rfl rfl) <| g_u (zC rfl rfl) ?_
          refine g_u (za rfl rfl rfl Tryz.underlying46 tS93 (by omega) (ixA hi)) ?_
          refine g_u (zR rfl rfl fa93_1 rfl rfl) <| g_u (zY rfl rfl tA91 tS91 rfl rfl) <| g_u (zQ (rtext_c _ gov gow) rfl rfl) <| g_u (yR rfl rfl Tryz.underlying9) <| g_u (xA rfl rfl rfl) <| zF <| zA ?_
          refine zL rfl (fun hb4 => ?_) (fun hb4 => ?_)
          · have q := of_decide_eq_true hb4
            refine zE <| zB <| g_u (zD rfl rfl) <| zF <| zA <| zK <| zf <| zJ <| zJ <| zf <| zJ ?_
            exact ⟨⟨(rfl : toAV (Al.look _ _) = some _).trans (congrArg some (by (exact congrArg iv (by first | (rw [h2, hin, List.drop_length]; rfl) | (rw [h2, xS hi, if_pos (by omega)]; done) | (unfold yS; rw [if_pos (by omega)]; done) | (unfold yS; rw [if_neg (by omega), zb _ _ (by omega)]; done))))), rfl⟩, trivial⟩
          · have q := of_decide_eq_false hb4
            refine zN <| zP <| zA <| zB <| g_u (zC rfl rfl) <| g_u (zt rfl rfl rfl) <| g_u (zD rfl rfl) <| zF <| zA ?_
            refine ⟨i + 1, ⟨hi, by (try dsimp only); rw [h2, xS hi, if_neg (by omega)]⟩, ⟨rfl, zW rfl (by rw [zO (by omega) (by omega)]; rfl), trivial⟩, by (try dsimp only); omega⟩
        · have hin : i = l.length := by have := of_decide_eq_false hb3; (try simp only [List.length_map] at this); omega
          refine zw <| zT <| zT <| zo <| zA <| zE <| zB <| g_u (zD rfl rfl) <| zF <| zA <| zK ?_
          exact ⟨⟨(rfl : toAV (Al.look _ _) = some _).trans (congrArg some (by (exact congrArg iv (by first | (rw [h2, hin, List.drop_length]; rfl) | (rw [h2, xS hi, if_pos (by omega)]; done) | (unfold yS; rw [if_pos (by omega)]; done) | (unfold yS; rw [if_neg (by omega), zb _ _ (by omega)]; done))))), rfl⟩, trivial⟩
end Go.Proofs
namespace Go.Proofs
open Go Go.Al
set_option maxRecDepth 10000
end Go.Proofs
namespace Go.Proofs
open Go Go.Al
structure Rg where
  lo : Int
  hi : Int
def Rg.av (r : Rg) : AV := .agg [.v (.int .u64 r.lo), .v (.int .u64 r.hi)]
def xj (r : Rg) : Int := if r.hi > 9223372036854775807 ∨ r.lo > r.hi then 11 else 0
def begunM (r : Rg) : Int := IntKind.u64.wrap (r.lo.tdiv 1000)
def lastsM (r : Rg) : Int := IntKind.u64.wrap ((IntKind.u64.wrap (r.hi - r.lo)).tdiv 1000)
def microsM (m : Int) (r : Rg) : Int := if xj r = 0 then IntKind.i64.wrap m else 0
def nanoV (us : Int) : Int := if us < 0 ∨ us > 9223372036854775 then 0 else IntKind.u64.wrap (IntKind.u64.wrap us * 1000)
def nanoC (us : Int) : Int := if us < 0 ∨ us > 9223372036854775 then 11 else 0
def ofBad (b l : Int) : Prop := nanoC b ≠ 0 ∨ nanoC l ≠ 0 ∨ nanoV l > IntKind.u64.wrap (9223372036854775807 - nanoV b)
instance (b l : Int) : Decidable (ofBad b l) := by unfold ofBad; infer_instance
def ofR (b l : Int) : Rg := if ofBad b l then ⟨0, 0⟩ else ⟨nanoV b, IntKind.u64.wrap (nanoV b + nanoV l)⟩
def BegunM (r : Rg) : Int := microsM (begunM r) r
def LastsM (r : Rg) : Int := microsM (lastsM r) r
def wholeM (r : Rg) : Rg := ofR (BegunM r) (LastsM r)
-- the reference
def rNanoV (us : Int) : Int := if us < 0 ∨ us > 9223372036854775 then 0 else IntKind.u64.wrap (1000 * IntKind.u64.wrap us)
def rFine (s e : Int) : Bool := decide (s ≤ e) && decide (e ≤ 9223372036854775807)
def rBad (b l : Int) : Prop := nanoC b ≠ 0 ∨ nanoC l ≠ 0 ∨ rNanoV b > IntKind.u64.wrap (9223372036854775807 - rNanoV l)
instance (b l : Int) : Decidable (rBad b l) := by unfold rBad; infer_instance
end Go.Proofs
namespace Go.Proofs
open Go Go.Al
theorem fine_iff (s e : Int) : rFine s e = true ↔ (s ≤ e ∧ e ≤ 9223372036854775807) := by simp [rFine]
theorem tells1 (s e : Int) : (xj ⟨s, e⟩ == 0) = rFine s e := by
  rw [Bool.eq_iff_iff, fine_iff]
  unfold xj
  by_cases h : e > 9223372036854775807 ∨ s > e
  · rw [if_pos h]; simp; omega
  · rw [if_neg h]; simp; omega
theorem rgCheck_fine {s e : Int} (h : rFine s e = true) : xj ⟨s, e⟩ = 0 := by have := tells1 s e; rw [h] at this; simpa using this
theorem rgCheck_bad {s e : Int} (h : rFine s e = false) : xj ⟨s, e⟩ = 11 := by
  have := tells1 s e; rw [h] at this
  unfold xj at this ⊢
  split
  · rfl
  · rename_i h'; rw [if_neg h'] at this; simp at this
end Go.Proofs
namespace Go.Proofs
open Go Go.Al
instance : DecidableEq GV := fun a b => decidable_of_iff (sameV a b = true) (sameV_iff a b)
instance : DecidableEq GA := fun a b => decidable_of_iff (sameA a b = true) (sameA_iff a b)
theorem GE.ext' {a b : GE} (h1 : a.time = b.time) (h2 : a.name = b.name) (h3 : a.attrs = b.attrs) : a = b := by cases a; cases b; simp_all
theorem GL.ext' {a b : GL} (h1 : a.trace = b.trace) (h2 : a.span = b.span) (h3 : a.state = b.state) (h4 : a.attrs = b.attrs) : a = b := by cases a; cases b; simp_all
theorem GSpan.ext' {a b : GSpan} (h1 : a.trace = b.trace) (h2 : a.id = b.id) (h3 : a.parent = b.parent) (h4 : a.state = b.state) (h5 : a.name = b.name) (h6 : a.kind = b.kind) (h7 : a.start = b.start) (h8 : a.fin = b.fin) (h9 : a.attrs = b.attrs) (h10 : a.events = b.events) (h11 : a.links = b.links) (h12 : a.code = b.code) (h13 : a.note = b.note) : a = b := by
  cases a; cases b; simp_all
theorem GScope.ext' {a b : GScope} (h1 : a.name = b.name) (h2 : a.version = b.version) (h3 : a.spans = b.spans) : a = b := by cases a; cases b; simp_all
theorem GRes.ext' {a b : GRes} (h1 : a.attrs = b.attrs) (h2 : a.scopes = b.scopes) : a = b := by cases a; cases b; simp_all
instance : DecidableEq GE := fun a b => decidable_of_iff (a.time = b.time ∧ a.name = b.name ∧ a.attrs = b.attrs) ⟨fun h => GE.ext' h.1 h.2.1 h.2.2, fun h => by rw [h]; exact ⟨rfl, rfl, rfl⟩⟩
instance : DecidableEq GL := fun a b => decidable_of_iff (a.trace = b.trace ∧ a.span = b.span ∧ a.state = b.state ∧ a.attrs = b.attrs) ⟨fun h => GL.ext' h.1 h.2.1 h.2.2.1 h.2.2.2, fun h => by rw [h]; exact ⟨rfl, rfl, rfl, rfl⟩⟩
instance : DecidableEq GSpan := fun a b => decidable_of_iff ((a.trace = b.trace ∧ a.id = b.id ∧ a.parent = b.parent ∧ a.state = b.state) ∧ (a.name = b.name ∧ a.kind = b.kind ∧ a.start = b.start ∧ a.fin = b.fin) ∧ (a.attrs = b.attrs ∧ a.events = b.events ∧ a.links = b.links) ∧ a.code = b.code ∧ a.note = b.note)
  ⟨fun h => GSpan.ext' h.1.1 h.1.2.1 h.1.2.2.1 h.1.2.2.2 h.2.1.1 h.2.1.2.1 h.2.1.2.2.1 h.2.1.2.2.2 h.2.2.1.1 h.2.2.1.2.1 h.2.2.1.2.2 h.2.2.2.1 h.2.2.2.2, fun h => by rw [h]; exact ⟨⟨rfl, rfl, rfl, rfl⟩, ⟨rfl, rfl, rfl, rfl⟩, ⟨rfl, rfl, rfl⟩, rfl, rfl⟩⟩
instance : DecidableEq GScope := fun a b => decidable_of_iff (a.name = b.name ∧ a.version = b.version ∧ a.spans = b.spans) ⟨fun h => GScope.ext' h.1 h.2.1 h.2.2, fun h => by rw [h]; exact ⟨rfl, rfl, rfl⟩⟩
instance : DecidableEq GRes := fun a b => decidable_of_iff (a.attrs = b.attrs ∧ a.scopes = b.scopes) ⟨fun h => GRes.ext' h.1 h.2, fun h => by rw [h]; exact ⟨rfl, rfl⟩⟩
def k_kind : ByteArray := ⟨#[115, 112, 97, 110, 46, 107, 105, 110, 100]⟩
def k_error : ByteArray := ⟨#[101, 114, 114, 111, 114]⟩
def k_code : ByteArray := ⟨#[111, 116, 101, 108, 46, 115, 116, 97, 116, 117, 115, 95, 99, 111, 100, 101]⟩
def k_note : ByteArray := ⟨#[111, 116, 101, 108, 46, 115, 116, 97, 116, 117, 115, 95, 100, 101, 115, 99, 114, 105, 112, 116, 105, 111, 110]⟩
def k4 : List ByteArray := [k_kind, k_error, k_code, k_note]
def spansOf : List GScope → List GSpan
  | [] => []
  | c :: cs => c.spans ++ spansOf cs
theorem spansOf_len : ∀ l : List GScope, (spansOf l).length ≤ zv GScope.wt l
  | [] => Nat.zero_le _
  | c :: l => by
    rw [spansOf, List.length_append, zv]
    have h1 := spansOf_len l
    have h2 := yP GSpan.wt (fun e => by unfold GSpan.wt; omega) c.spans
    have h3 : c.wt = 1 + c.name.size + c.version.size + zv GSpan.wt c.spans := rfl
    omega
def plC (i : Nat) : Nat → List GScope → List (Nat × Nat × Nat)
  | _, [] => []
  | k, c :: cs => ((List.range c.spans.length).map fun m => (i, k, m)) ++ plC i (k + 1) cs
def plR : Nat → List GRes → List (Nat × Nat × Nat)
  | _, [] => []
  | i, r :: rs => plC i 0 r.scopes ++ plR (i + 1) rs
def plav (p : Nat × Nat × Nat) : AV := .agg [iv (p.1 : Int), iv (p.2.1 : Int), iv (p.2.2 : Int)]
theorem plC_snoc (i : Nat) (c : GScope) : ∀ (k : Nat) (l : List GScope), plC i k (l ++ [c]) = plC i k l ++ (List.range c.spans.length).map fun m => (i, k + l.length, m)
  | k, [] => by simp [plC]
  | k, x :: l => by
    simp only [List.cons_append, plC, plC_snoc i c (k + 1) l, List.append_assoc, List.length_cons]
    rw [show k + 1 + l.length = k + (l.length + 1) by omega]
theorem plR_snoc (r : GRes) : ∀ (i : Nat) (l : List GRes), plR i (l ++ [r]) = plR i l ++ plC (i + l.length) 0 r.scopes
  | i, [] => by simp [plR]
  | i, x :: l => by
    simp only [List.cons_append, plR, plR_snoc r (i + 1) l, List.append_assoc, List.length_cons]
    rw [show i + 1 + l.length = i + (l.length + 1) by omega]
theorem plC_take {i : Nat} {l : List GScope} {k : Nat} (h : k < l.length) : plC i 0 (l.take (k + 1)) = plC i 0 (l.take k) ++ (List.range (nthC l k).spans.length).map fun m => (i, k, m) := by
  rw [yY (nth_get (d := gc0) h), plC_snoc, List.length_take, Nat.min_eq_left (by omega), Nat.zero_add]; rfl
theorem plR_take {l : List GRes} {i : Nat} (h : i < l.length) : plR 0 (l.take (i + 1)) = plR 0 (l.take i) ++ plC i 0 (nthR l i).scopes := by
  rw [yY (nth_get (d := gr0) h), plR_snoc, List.length_take, Nat.min_eq_left (by omega), Nat.zero_add]; rfl
theorem range_snoc (f : Nat → Nat × Nat × Nat) (m : Nat) : (List.range (m + 1)).map f = (List.range m).map f ++ [f m] := by rw [List.range_succ, List.map_append]; rfl
theorem plC_len (i : Nat) : ∀ (k : Nat) (l : List GScope), (plC i k l).length = (spansOf l).length
  | _, [] => rfl
  | k, c :: l => by rw [plC, spansOf, List.length_append, List.length_append, plC_len i (k + 1) l]; simp
end Go.Proofs
namespace Go.Proofs
open Go Go.Al
set_option maxRecDepth 10000
theorem rgCheck_c (r : Rg) : zn Tryz.prog Γ0 124 [r.av] [iv (xj r)] := by
  refine zZ Tryz.func124 rfl Tryz.ntmps124 (by kernel_rfl) rfl fun w0 I0 G0 => ?_
  refine zE <| zB <| g_uG (zp 1001 rfl rfl rfl rfl) rfl <| g_u (zD rfl rfl) <| zF <| zA <| zE <| zE <| zB <| g_u (zG rfl rfl fa181_1 rfl) <| g_u (zH rfl rfl rfl tA45 tS45 rfl rfl) <| g_u (xA rfl rfl rfl) <| g_u (zC rfl rfl) <| z6 (t := 6) rfl ?_
  rintro (hb1 | hb1)
  · rw [hb1]
    refine zM rfl rfl rfl <| zM rfl rfl rfl <| zM rfl rfl rfl <| zM rfl rfl rfl <| zM rfl rfl rfl <| g_u (zi rfl rfl rfl) <| zF <| zA <| zu rfl <| zE <| zB <| g_u (zD rfl rfl) <| zF <| zA <| zK <| zJ ?_
    exact ⟨⟨(rfl : toAV (Al.look _ _) = some _).trans (congrArg some (by (simp only [decide_eq_true_eq, decide_eq_false_iff_not, qc, ne_eq, beq_iff_eq, qd, beq_eq_false_iff_ne] at *; simp only [iv, xj]; first | rw [if_pos (by omega)] | rw [if_neg (by omega)]))), rfl⟩, trivial⟩
  · rw [hb1]
    refine zX rfl rfl (zG rfl rfl fa181_0 rfl) <| zX rfl rfl (zH rfl rfl rfl tA45 tS45 rfl rfl) <| zX rfl rfl (zG rfl rfl fa181_1 rfl) <| zX rfl rfl (zH rfl rfl rfl tA45 tS45 rfl rfl) <| zX rfl rfl (xA rfl rfl rfl) <| g_u (zj rfl rfl rfl) <| zF <| zA ?_
    refine zL rfl (fun hb2 => ?_) (fun hb2 => ?_)
    · refine zE ?_
      refine zB <| g_u (zD rfl rfl) <| zF <| zA <| zK <| zJ ?_
      exact ⟨⟨(rfl : toAV (Al.look _ _) = some _).trans (congrArg some (by (simp only [decide_eq_true_eq, decide_eq_false_iff_not, qc, ne_eq, beq_iff_eq, qd, beq_eq_false_iff_ne] at *; simp only [iv, xj]; first | rw [if_pos (by omega)] | rw [if_neg (by omega)]))), rfl⟩, trivial⟩
    · refine zN ?_
      refine zA <| zE <| zB <| g_u (zD rfl rfl) <| zF <| zA <| zK ?_
      exact ⟨⟨(rfl : toAV (Al.look _ _) = some _).trans (congrArg some (by (simp only [decide_eq_true_eq, decide_eq_false_iff_not, qc, ne_eq, beq_iff_eq, qd, beq_eq_false_iff_ne] at *; simp only [iv, xj]; first | rw [if_pos (by omega)] | rw [if_neg (by omega)]))), rfl⟩, trivial⟩
attribute [local irreducible] wholeM ofR
theorem rfine_c (s e : Int) : zn Tryz.prog Γ0 104 [uv s, uv e] [bv (rFine s e)] := by
  refine zZ Tryz.func104 rfl Tryz.ntmps104 (by kernel_rfl) rfl fun w0 I0 G0 => ?_
  refine zE <| zB <| g_u (zD rfl rfl) <| zF <| zA <| zE <| zB <| g_u (zC rfl rfl) <| g_u (zC rfl rfl) <| g_u (s_leI rfl rfl rfl) <| g_u (zC rfl rfl) <| z6 (t := 8) rfl ?_
  rintro (hb1 | hb1)
  · rw [hb1]
    refine zX rfl rfl (zC rfl rfl) <| zX rfl rfl (s_leI rfl rfl rfl) <| g_u (zi rfl rfl rfl) <| g_u (zD rfl rfl) <| zF <| zA <| zK ?_
    exact ⟨⟨(rfl : toAV (Al.look _ _) = some _).trans (congrArg some (by (simp only [bv, rFine, *]; rfl))), rfl⟩, trivial⟩
  · rw [hb1]
    refine zM rfl rfl rfl <| zM rfl rfl rfl <| g_u (zj rfl rfl rfl) <| g_u (zD rfl rfl) <| zF <| zA <| zK ?_
    exact ⟨⟨(rfl : toAV (Al.look _ _) = some _).trans (congrArg some (by (simp only [bv, rFine, *]; rfl))), rfl⟩, trivial⟩
end Go.Proofs
namespace Go.Proofs
open Go Go.Al
set_option maxRecDepth 10000
end Go.Proofs
namespace Go.Proofs
open Go Go.Al
end Go.Proofs
namespace Go.Proofs
open Go Go.Al
set_option maxRecDepth 10000
theorem plR_len : ∀ (i : Nat) (l : List GRes), (plR i l).length ≤ zv GRes.wt l
  | _, [] => Nat.le_refl _
  | i, r :: l => by
    rw [plR, List.length_append, plC_len, zv]
    have h1 := plR_len (i + 1) l
    have h2 := spansOf_len r.scopes
    have h3 : r.wt = 1 + wtAs r.attrs + zv GScope.wt r.scopes := rfl
    omega
set_option maxHeartbeats 2000000 in
theorem places_c (b : List GRes) (hw : wtB b ≤ 9000000) : zn Tryz.prog Γ0 33 [yp b] [.sl 3 ((plR 0 b).map plav)] := by
  have ql := yP GRes.wt (fun e => by unfold GRes.wt; omega) b
  have qw : wtB b = zv GRes.wt b := rfl
  refine zZ Tryz.func33 rfl Tryz.ntmps33 (by kernel_rfl) rfl fun w0 I0 G0 => ?_
  refine zE <| zB <| g_uG (zp 1001 rfl rfl rfl rfl) rfl <| g_u (zD rfl rfl) <| zF <| zA <| zE <| zB <| g_u (zD rfl rfl) <| zF <| zA <| zE <| zE <| aw_newtok 3003 3 3 rfl rfl rfl rfl <| zB <| g_u (zD rfl rfl) <| zF <| zA <| zS ?_
  refine zr (fun i : Nat => [(1, .ptr 1001 0), (1001, .box 24 (.imm (yp b))), (3, .slg 3003 3 (((plR 0 (b.take i))).map plav)), (3003, .tok 3 (((plR 0 (b.take i))).map plav)), (4, .imm (iv (i : Int)))]) (fun i => i ≤ b.length) (fun i => b.length - i) (0) ?_ ⟨rfl, rfl, rfl, rfl, rfl, trivial⟩ ?_
  · exact Nat.zero_le _
  · rintro i h1; have h1 : i ≤ b.length := h1
    refine zE <| zE <| zB <| g_u (zC rfl rfl) <| g_u (zG rfl rfl fa24_0 rfl) <| g_u (zH rfl rfl rfl tA22 tS22 rfl rfl) <| g_u (yB rfl rfl Tryz.underlying22) <| g_u (yO rfl rfl rfl) <| zF <| zA ?_
    refine zL rfl (fun hb1 => ?_) (fun hb1 => ?_)
    · have hi : i < b.length := by have := of_decide_eq_true hb1; (try simp only [List.length_map] at this); omega
      have hrx := yd GRes.wt (nthR_mem hi)
      have hrq : (nthR b i).wt = 1 + wtAs (nthR b i).attrs + zv GScope.wt (nthR b i).scopes := rfl
      have hcl := yP GScope.wt (fun e => by unfold GScope.wt; omega) (nthR b i).scopes
      have hl1 : (plR 0 (b.take i)).length ≤ 9000000 := by have h1 := plR_len 0 (b.take i); have h2 := wC GRes.wt b i; omega
      refine zN <| zA <| zE <| zS <| zE <| zB <| g_u (zD rfl rfl) <| zF <| zA <| zS ?_
      refine zr (fun k : Nat => [(1, .ptr 1001 0), (1001, .box 24 (.imm (yp b))), (3, .slg 3003 3 (((plR 0 (b.take i)) ++ (plC i 0 ((nthR b i).scopes.take k))).map plav)), (3003, .tok 3 (((plR 0 (b.take i)) ++ (plC i 0 ((nthR b i).scopes.take k))).map plav)), (4, .imm (iv (i : Int))), (5, .imm (iv (k : Int)))]) (fun k => k ≤ (nthR b i).scopes.length) (fun k => (nthR b i).scopes.length - k) (0) ?_ ⟨rfl, rfl, vA rfl (by simp [plC]), wY rfl (by simp [plC]), rfl, rfl, trivial⟩ ?_
      · exact Nat.zero_le _
      · rintro k g1; have g1 : k ≤ (nthR b i).scopes.length := g1
        refine zE <| zE <| zB <| g_u (zC rfl rfl) <| g_u (zG rfl rfl fa24_0 rfl) <| g_u (zH rfl rfl rfl tA22 tS22 rfl rfl) <| g_u (zC rfl rfl) ?_
        refine g_u (za rfl rfl rfl Tryz.underlying22 tS58 (by omega) (ixR hi)) ?_
        refine g_u (zR rfl rfl fa58_1 rfl rfl) <| g_u (zY rfl rfl tA56 tS56 rfl rfl) <| g_u (yB rfl rfl Tryz.underlying56) <| g_u (yO rfl rfl rfl) <| zF <| zA ?_
        refine zL rfl (fun hb2 => ?_) (fun hb2 => ?_)
        · have hk : k < (nthR b i).scopes.length := by have := of_decide_eq_true hb2; (try simp only [List.length_map] at this); omega
          have hcx := yd GScope.wt (nthC_mem hk)
          have hcq : (nthC (nthR b i).scopes k).wt = 1 + (nthC (nthR b i).scopes k).name.size + (nthC (nthR b i).scopes k).version.size + zv GSpan.wt (nthC (nthR b i).scopes k).spans := rfl
          have hsl := yP GSpan.wt (fun e => by unfold GSpan.wt; omega) (nthC (nthR b i).scopes k).spans
          have hl2 : (plC i 0 ((nthR b i).scopes.take k)).length ≤ 9000000 := by have h1 := plC_len i 0 ((nthR b i).scopes.take k); have h2 := spansOf_len ((nthR b i).scopes.take k); have h3 := wC GScope.wt (nthR b i).scopes k; omega
          refine zN <| zA <| zE <| zS <| zE <| zB <| g_u (zD rfl rfl) <| zF <| zA <| zS ?_
          refine zr (fun m : Nat => [(1, .ptr 1001 0), (1001, .box 24 (.imm (yp b))), (3, .slg 3003 3 (((plR 0 (b.take i)) ++ (plC i 0 ((nthR b i).scopes.take k)) ++ ((List.range m).map fun m => (i, k, m))).map plav)), (3003, .tok 3 (((plR 0 (b.take i)) ++ (plC i 0 ((nthR b i).scopes.take k)) ++ ((List.range m).map fun m => (i, k, m))).map plav)), (4, .imm (iv (i : Int))), (5, .imm (iv (k : Int))), (6, .imm (iv (m : Int)))]) (fun m => m ≤ (nthC (nthR b i).scopes k).spans.length) (fun m => (nthC (nthR b i).scopes k).spans.length - m) (0) ?_ ⟨rfl, rfl, vA rfl (by simp), wY rfl (by simp), rfl, rfl, rfl, trivial⟩ ?_
          · exact Nat.zero_le _
          · rintro m f1; have f1 : m ≤ (nthC (nthR b i).scopes k).spans.length := f1
            refine zE <| zE <| zB <| g_u (zC rfl rfl) <| g_u (zG rfl rfl fa24_0 rfl) <| g_u (zH rfl rfl rfl tA22 tS22 rfl rfl) <| g_u (zC rfl rfl) ?_
            refine g_u (za rfl rfl rfl Tryz.underlying22 tS58 (by omega) (ixR hi)) ?_
            refine g_u (zR rfl rfl fa58_1 rfl rfl) <| g_u (zY rfl rfl tA56 tS56 rfl rfl) <| g_u (zC rfl rfl) ?_
            refine g_u (za rfl rfl rfl Tryz.underlying56 tS55 (by omega) (ixC hk)) ?_
            refine g_u (zR rfl rfl fa55_2 rfl rfl) <| g_u (zY rfl rfl tA53 tS53 rfl rfl) <| g_u (yB rfl rfl Tryz.underlying53) <| g_u (yO rfl rfl rfl) <| zF <| zA ?_
            refine zL rfl (fun hb3 => ?_) (fun hb3 => ?_)
            · have hm : m < (nthC (nthR b i).scopes k).spans.length := by have := of_decide_eq_true hb3; (try simp only [List.length_map] at this); omega
              refine zN <| zA <| zE <| zS <| zB <| g_u (ym rfl rfl) <| g_u (zC rfl rfl) <| g_u (zC rfl rfl) <| g_u (zC rfl rfl) <| g_u (yw rfl tU67 us67 pl67 rfl rfl rfl rfl) <| g_u (z7 (X0 := z67) rfl Tryz.underlying77 tS67 tZ67 rfl rfl rfl rfl rfl rfl rfl rfl) ?_
              refine g_u (xX rfl rfl rfl rfl rfl Tryz.underlying77 Tryz.underlying77 tS67 zv67 rfl (by decide) by67 (by (try dsimp only); simp only [List.length_append, List.length_cons, List.length_nil, List.length_map, List.length_range]; omega) (by (try dsimp only); simp only [List.length_append, List.length_cons, List.length_nil, List.length_map, List.length_range]; omega)) ?_
              refine g_u (yb rfl rfl) <| zF <| zP <| zA <| zB <| g_u (zC rfl rfl) <| g_u (zt rfl rfl rfl) <| g_u (zD rfl rfl) <| zF <| zA ?_
              have et : (((plR 0 (b.take i)) ++ (plC i 0 ((nthR b i).scopes.take k)) ++ ((List.range (m + 1)).map fun m => (i, k, m))).map plav) = (((plR 0 (b.take i)) ++ (plC i 0 ((nthR b i).scopes.take k)) ++ ((List.range m).map fun m => (i, k, m))).map plav) ++ [plav (i, k, m)] := by rw [range_snoc, ← List.append_assoc, List.map_append]; rfl
              refine ⟨m + 1, hm, ⟨rfl, rfl, vA rfl et.symm, wY rfl et.symm, rfl, rfl, zW rfl (by rw [zO (by omega) (by omega)]; rfl), trivial⟩, by (try dsimp only); omega⟩
            · have hmn : m = (nthC (nthR b i).scopes k).spans.length := by have := of_decide_eq_false hb3; (try simp only [List.length_map] at this); omega
              refine zw <| zT <| zT <| zo <| zP <| zA <| zB <| g_u (zC rfl rfl) <| g_u (zt rfl rfl rfl) <| g_u (zD rfl rfl) <| zF <| zA ?_
              have et : (((plR 0 (b.take i)) ++ (plC i 0 ((nthR b i).scopes.take (k + 1)))).map plav) = (((plR 0 (b.take i)) ++ (plC i 0 ((nthR b i).scopes.take k)) ++ ((List.range m).map fun m => (i, k, m))).map plav) := by rw [plC_take hk, hmn, List.append_assoc]
              refine ⟨k + 1, hk, ⟨rfl, rfl, vA rfl et.symm, wY rfl et.symm, rfl, zW rfl (by rw [zO (by omega) (by omega)]; rfl), trivial⟩, by (try dsimp only); omega⟩
        · have hkn : k = (nthR b i).scopes.length := by have := of_decide_eq_false hb2; (try simp only [List.length_map] at this); omega
          refine zw <| zT <| zT <| zo <| zP <| zA <| zB <| g_u (zC rfl rfl) <| g_u (zt rfl rfl rfl) <| g_u (zD rfl rfl) <| zF <| zA ?_
          have et : ((plR 0 (b.take (i + 1))).map plav) = (((plR 0 (b.take i)) ++ (plC i 0 ((nthR b i).scopes.take k))).map plav) := by rw [plR_take hi, hkn, List.take_length]
          refine ⟨i + 1, hi, ⟨rfl, rfl, vA rfl et.symm, wY rfl et.symm, zW rfl (by rw [zO (by omega) (by omega)]; rfl), trivial⟩, by (try dsimp only); omega⟩
    · have hin : i = b.length := by have := of_decide_eq_false hb1; (try simp only [List.length_map] at this); omega
      refine zw <| zT <| zT <| zo <| zA <| zE <| zB <| g_u (ym rfl rfl) <| g_u (yb rfl rfl) <| zF <| zA <| zK ?_
      exact ⟨⟨(rfl : toAV (Al.look _ _) = some _).trans (congrArg some (by (rw [hin, List.take_length]))), rfl⟩, trivial⟩
end Go.Proofs
namespace Go.Proofs
open Go Go.Al
set_option maxRecDepth 10000
theorem eq42 (a b : List UInt8) : eqV Tryz.prog 100 42 (.arr 16 a) (.arr 16 b) = some (a == b) := by kernel_rfl
theorem eq44 (a b : List UInt8) : eqV Tryz.prog 100 44 (.arr 8 a) (.arr 8 b) = some (a == b) := by kernel_rfl
end Go.Proofs
namespace Go.Al
open Go.RowKit
theorem up_bytes {l : List UInt8} {n : Nat} (h : l.length = n) : Up (.agg (zq l)) (.arr n l) := by
  have hw : ∀ x ∈ zq l, x.width = 1 := W1.bytes l
  refine ⟨rfl, ?_, fun w I c r => ?_⟩
  · have key : ∀ l : List UInt8, AV.widths (zq l) = l.length := by
      intro l
      induction l with
      | nil => rfl
      | cons b l ih => simp only [zq, List.map_cons, AV.widths, List.length_cons] at ih ⊢; rw [ih]; simp only [AV.width, xt, Value.cells]; show 1 + _ = _; omega
    show n = AV.widths (zq l)
    rw [key, h]
  · simp only [RepC] at r ⊢
    exact ⟨repE_bytes_inv l c ((repCs_E (n := 1) hw).1 r), h⟩
end Go.Al
namespace Go.Proofs
open Go Go.Al
set_option maxRecDepth 10000
theorem tV42 : yh Tryz.prog 42 (.agg (List.replicate 16 (.v (.int .u8 0)))) := ⟨.agg #[.int .u8 0, .int .u8 0, .int .u8 0, .int .u8 0, .int .u8 0, .int .u8 0, .int .u8 0, .int .u8 0, .int .u8 0, .int .u8 0, .int .u8 0, .int .u8 0, .int .u8 0, .int .u8 0, .int .u8 0, .int .u8 0], by kernel_rfl, by kernel_rfl⟩
theorem tV44 : yh Tryz.prog 44 (.agg (List.replicate 8 (.v (.int .u8 0)))) := ⟨.agg #[.int .u8 0, .int .u8 0, .int .u8 0, .int .u8 0, .int .u8 0, .int .u8 0, .int .u8 0, .int .u8 0], by kernel_rfl, by kernel_rfl⟩
end Go.Proofs
namespace Go.Al
open Go.RowKit
section
variable {C : Cx} {A : Nat → SV} {d : Nat} {ty : TypeId} {pos : String} {af : Array Edge} {gd : Option (Nat × Bool)} {x y z : Operand} {T T' : TypeId}
end
end Go.Al
namespace Go.Al
open Go.RowKit
def units (n : Nat) : List AV := List.replicate n (.agg [])
@[simp] theorem units_length (n : Nat) : (units n).length = n := List.length_replicate
section
variable {C : Cx} {A : Nat → SV} {d : Nat} {ty : TypeId} {pos : String} {af : Array Edge} {gd : Option (Nat × Bool)} {x y z : Operand} {T T' : TypeId}
end
end Go.Al
namespace Go.Al
open Go.RowKit
structure SortC (P : Program) (Γ : List (Nat × AV)) (f : FuncId) : Prop where
  call : wx P f = true
  sorts : ∀ (blk cap : Nat) (ss : List (List UInt8)) (w : World), Sort.Holds Proofs.encStr w blk 0 ss.toArray → blk < w.heap.size → ss.length < 4611686018427387904 →
    Calls P f #[.slice (some ⟨blk, 0, none⟩) ss.length cap] w fun e w' =>
      e = .returned (.tuple #[]) ∧ ∃ n os, w' = Sort.grow (Sort.putRow Proofs.encStr (Sort.ahead w n) blk 0 (ss.mergeSort fun x y => decide (x ≤ y)).toArray) os
  empty : zn P Γ f [.v (.slice none 0 0)] []
section
variable {C : Cx} {A : Nat → SV} {d : Nat} {ty : TypeId} {pos : String} {af : Array Edge} {gd : Option (Nat × Bool)} {x y z : Operand} {T T' : TypeId}
end
end Go.Al
namespace Go.Proofs
open Go Go.Al
end Go.Proofs
namespace Go.Al
open Go.RowKit
section
variable {C : Cx} {d : Nat} {ty : TypeId} {pos : String} {af : Array Edge} {x : Operand}
end
end Go.Al
namespace Go.Al
section
variable {C : Cx} {A : Nat → SV} {d : Nat} {ty : TypeId} {pos : String} {af : Array Edge} {gd : Option (Nat × Bool)} {x : Operand}
end
end Go.Al
namespace Go.Proofs
open Go Go.Al
end Go.Proofs
namespace Go.Proofs
open Go Go.Al Go.Shelf
end Go.Proofs
namespace Go.Proofs
open Go Go.Al
set_option maxRecDepth 10000
end Go.Proofs
namespace Go.Proofs
open Go Go.Al
set_option maxRecDepth 10000
end Go.Proofs
namespace Go.Proofs
open Go Go.Al
theorem orC_eq0 {a b : Int} (h : orC a b = 0) : a = 0 ∧ b = 0 := by unfold orC at h; split at h <;> omega
end Go.Proofs
namespace Go.Proofs
open Go Go.Al
set_option maxRecDepth 10000
end Go.Proofs
namespace Go.Proofs
open Go Go.Al
def vD : List Int → Int
  | [] => 0
  | c :: cs => orC c (vD cs)
abbrev FN := FuncId × List AV × List AV × Int
def fnA (x : FN) : AV := .fn (.func x.1) x.2.1 x.2.2.1
def fnd : FN := (0, [], [], 0)
def fcodes (l : List FN) : List Int := l.map fun x => x.2.2.2
theorem firstC_drop {l : List FN} {i : Nat} (h : i < l.length) : vD (fcodes (l.drop i)) = orC (nth l i fnd).2.2.2 (vD (fcodes (l.drop (i + 1)))) := by
  rw [xM (d := fnd) h]; rfl
theorem evC_drop {l : List GE} {i : Nat} (h : i < l.length) : evC (l.drop i) = if 9223372036854775807 < (nthE l i).time then 11 else orC (orC (y_ (nthE l i).name) (yS (nthE l i).attrs)) (evC (l.drop (i + 1))) := by
  rw [xM (d := ge0) h, evC]; rfl
theorem lkC_drop {l : List GL} {i : Nat} (h : i < l.length) : lkC (l.drop i) = if yy (nthL l i).trace || yy (nthL l i).span then 10 else orC (orC (y_ (nthL l i).state) (yS (nthL l i).attrs)) (lkC (l.drop (i + 1))) := by
  rw [xM (d := gl0) h, lkC]; rfl
theorem vB : ∀ {n : Nat} {l : Bs}, l.length = n → (l == List.replicate n 0) = yy l
  | 0, [], _ => rfl
  | n + 1, x :: l, h => by
    have ih := vB (n := n) (l := l) (by simpa using h)
    rw [List.replicate_succ, List.cons_beq_cons, ih]; rfl
def wL (s : GSpan) : Int :=
  vD [if yy s.trace || yy s.id then 10 else 0, y_ s.state, y_ s.name, if s.kind < 0 ∨ 5 < s.kind then 7 else 0, xj ⟨s.start, s.fin⟩, yS s.attrs, evsC s.events, lksC s.links, if s.code < 0 ∨ 2 < s.code then 7 else 0, y_ s.note]
end Go.Proofs
namespace Go.Al
section
variable {P : Program} {b : Frame} {a : Act} {k : List Item} {cs : List Frame} {w : World}
theorem stepR_scope {c : Code} : step P (lone (b.atR a (.code (.scope c) :: k)) cs w) = .next (lone (b.atR a (.code c :: .inScope c :: k)) cs w) :=
  step_lone_go (by simp [stepG, stepG.exec, Frame.atR])
theorem stepR_inScope {c : Code} : step P (lone (b.atR a (.inScope c :: k)) cs w) = .next (lone (b.atR a k) cs w) :=
  step_lone_go (by simp [stepG, stepG.exec, Frame.atR])
end
theorem wpIn_scope {F : Fence} {n : Nat} {P : Program} {Q : Exit → Act → World → Prop} {a : Act} {w : World} {c : Code} (hn : ∀ l a w, ¬ Q (.goto l) a w) (h : c.wpIn F n P Q a w) : (Code.scope c).wpIn F n P Q a w := by
  intro b k cs hro hb hr
  have h0 : (lone (b.atR a (.code (.scope c) :: k)) cs w).fenced P F := fenced_calm hb hr rfl
  obtain ⟨e, a₁, w₁, hq, harr⟩ := h b (.inScope c :: k) cs hro hb hr
  cases e with
  | normal => exact ⟨.normal, a₁, w₁, hq, .head h0 stepR_scope (StepsIn.trans harr (.one (fenced_calm hb hr rfl) stepR_inScope))⟩
  | exit id =>
    have hx : exitTo id (.inScope c :: k) = exitTo id k := by simp [exitTo]
    exact ⟨_, a₁, w₁, hq, fun k' hk => .head h0 stepR_scope (harr.1 k' (by rw [hx]; exact hk)),
      fun hr' hk => let ⟨k₁, h1, h2⟩ := harr.2 hr' (by rw [hx]; exact hk); ⟨k₁, h1, .head h0 stepR_scope h2⟩⟩
  | goto l => exact (hn _ _ _ hq).elim
  | ret => exact ⟨_, a₁, w₁, hq, .of_steps (.one h0 stepR_scope) harr⟩
  | panic ch => exact ⟨_, a₁, w₁, hq, .of_steps (.one h0 stepR_scope) harr⟩
  | outgrown => exact ⟨_, a₁, w₁, hq, .of_steps (.one h0 stepR_scope) harr⟩
def scp (Q : Exit → St → Prop) : Exit → St → Prop
  | .goto _, _ => False
  | e, st => Q e st
theorem ret_scp {st : St} {Q : Exit → St → Prop} (h : Q .ret st) : scp Q .ret st := h
theorem aw_scope {C : Cx} {c : Code} {st : St} {Q : Exit → St → Prop} (h : AW C c st (scp Q)) : AW C (.scope c) st Q := by
  intro a w S n
  refine wpIn_mono (wpIn_scope ?_ (h a w S n)) ?_
  · rintro l a w ⟨st', q, _⟩; exact q
  · rintro e a' w' ⟨st', q, S'⟩
    cases e with
    | goto l => exact q.elim
    | normal => exact ⟨st', q, S'⟩
    | exit id => exact ⟨st', q, S'⟩
    | ret => exact ⟨st', q, S'⟩
    | panic c => exact ⟨st', q, S'⟩
    | outgrown => exact ⟨st', q, S'⟩
theorem aw_label {C : Cx} {l : Nat} {st : St} {Q : Exit → St → Prop} (h : Q .normal st) : AW C (.label l) st Q := fun _ _ S _ => wpIn_label ⟨st, h, S⟩
end Go.Al
namespace Go.Proofs
open Go Go.Al
set_option maxRecDepth 10000
end Go.Proofs
namespace Go.Proofs
open Go Go.Al
set_option maxRecDepth 10000
end Go.Proofs
namespace Go.Proofs
open Go Go.Al
set_option maxRecDepth 10000
theorem words_c (t : ByteArray) (ht : t.size < 9223372036854775808) : zn Tryz.prog Γ0 117 [sv t] [iv (y_ t)] := by
  have cr := check_range t
  refine zZ Tryz.func117 rfl Tryz.ntmps117 (by kernel_rfl) rfl fun w0 I0 G0 => ?_
  refine zE <| zB <| g_u (zD rfl rfl) <| zF <| zA <| zE <| zS <| zE <| zB <| g_u (zC rfl rfl) ?_
  refine g_u (zQ (check_c _ (by omega)) rfl rfl) ?_
  refine g_u (s_geI rfl rfl rfl) <| g_u (zD rfl rfl) <| zF <| zA ?_
  refine zL rfl (fun hb1 => ?_) (fun hb1 => ?_)
  · have q := of_decide_eq_true hb1
    refine zE <| zB <| g_u (zD rfl rfl) <| zF <| zA <| zK <| zf <| zJ ?_
    exact ⟨⟨(rfl : toAV (Al.look _ _) = some _).trans (congrArg some (by (exact congrArg iv (by unfold y_; (repeat' split) <;> first | rfl | omega)))), rfl⟩, trivial⟩
  · have q := of_decide_eq_false hb1
    refine zE <| zB <| g_u (zC rfl rfl) <| g_u (yR rfl rfl Tryz.underlying9) <| g_u (xA rfl rfl rfl) <| g_u (zD rfl rfl) <| zF <| zA ?_
    refine zL rfl (fun hb2 => ?_) (fun hb2 => ?_)
    · have q := of_decide_eq_true hb2
      refine zE <| zB <| g_u (zD rfl rfl) <| zF <| zA <| zK <| zf <| zJ ?_
      exact ⟨⟨(rfl : toAV (Al.look _ _) = some _).trans (congrArg some (by (exact congrArg iv (by unfold y_; (repeat' split) <;> first | rfl | omega)))), rfl⟩, trivial⟩
    · have q := of_decide_eq_false hb2
      refine zN <| zP <| zA <| zE <| zB <| g_u (zD rfl rfl) <| zF <| zA <| zK ?_
      exact ⟨⟨(rfl : toAV (Al.look _ _) = some _).trans (congrArg some (by (exact congrArg iv (by unfold y_; (repeat' split) <;> first | rfl | omega)))), rfl⟩, trivial⟩
theorem spanName_c (t : ByteArray) (ht : t.size < 9223372036854775808) : zn Tryz.prog Γ0 83 [sv t] [iv (y_ t)] := by
  refine zZ Tryz.func83 rfl Tryz.ntmps83 (by kernel_rfl) rfl fun w0 I0 G0 => ?_
  refine zE <| zB <| g_u (zD rfl rfl) <| zF <| zA <| zE <| zB <| g_u (zC rfl rfl) ?_
  refine g_u (zQ (words_c _ (by omega)) rfl rfl) ?_
  refine g_u (zD rfl rfl) <| zF <| zA <| zK ?_
  exact ⟨⟨(rfl : toAV (Al.look _ _) = some _).trans (congrArg some (by rfl)), rfl⟩, trivial⟩
theorem when_c (b : Bool) (c : Int) : zn Tryz.prog Γ0 120 [bv b, iv c] [iv (if b then c else 0)] := by
  refine zZ Tryz.func120 rfl Tryz.ntmps120 (by kernel_rfl) rfl fun w0 I0 G0 => ?_
  refine zE <| zB <| g_u (zD rfl rfl) <| zF <| zA <| zE <| zE <| zB <| g_u (zC rfl rfl) <| zF <| zA ?_
  refine zL rfl (fun hb1 => ?_) (fun hb1 => ?_)
  · have q : b = true := hb1
    refine zE <| zB <| g_u (zC rfl rfl) <| g_u (zD rfl rfl) <| zF <| zA <| zK <| zJ ?_
    exact ⟨⟨(rfl : toAV (Al.look _ _) = some _).trans (congrArg some (by (rw [q]; rfl))), rfl⟩, trivial⟩
  · have q : b = false := hb1
    refine zN <| zA <| zE <| zB <| g_u (zD rfl rfl) <| zF <| zA <| zK ?_
    exact ⟨⟨(rfl : toAV (Al.look _ _) = some _).trans (congrArg some (by (rw [q]; rfl))), rfl⟩, trivial⟩
theorem first_c (l : List FN) (hl : l.length ≤ 1000) (hf : ∀ x ∈ l, zn Tryz.prog Γ0 x.1 (x.2.1 ++ [] ++ x.2.2.1) [iv x.2.2.2]) : zn Tryz.prog Γ0 118 [.sl 1 (l.map fnA)] [iv (vD (fcodes l))] := by
  refine zZ Tryz.func118 rfl Tryz.ntmps118 (by kernel_rfl) rfl fun w0 I0 G0 => ?_
  refine zE <| zB <| g_u (zD rfl rfl) <| zF <| zA <| zE <| zE <| zB <| g_u (zC rfl rfl) <| g_u (yB rfl rfl Tryz.underlying242) <| g_u (zC rfl rfl) <| zF <| zA <| zS ?_
  refine zr (fun i : Nat => [(6, .imm (.sl 1 (l.map fnA))), (7, .imm (iv (l.length : Int))), (8, .imm (iv (i : Int)))]) (fun i => i ≤ l.length ∧ vD (fcodes l) = vD (fcodes (l.drop i))) (fun i => l.length - i) (0) ?_ ⟨rfl, zW rfl (by rw [List.length_map]), rfl, trivial⟩ ?_
  · exact ⟨Nat.zero_le _, rfl⟩
  · rintro i ⟨h1, h2⟩; (try dsimp only at h1 h2)
    refine zE <| zB <| g_u (yO rfl rfl rfl) <| zF <| zA <| zE ?_
    refine zL rfl (fun hb1 => ?_) (fun hb1 => ?_)
    · have hi : i < l.length := by have := of_decide_eq_true hb1; (try simp only [List.length_map] at this); omega
      refine zN <| zA <| zE <| zS <| zE <| zB ?_
      refine g_u (za rfl rfl rfl Tryz.underlying242 tS201 (by omega) (nth_map (d := fnd) hi)) ?_
      refine g_u (zY rfl rfl tA201 tS201 rfl rfl) <| g_u (zD rfl rfl) <| zF <| zA <| zE <| zB <| g_u (zC rfl rfl) <| g_u (s_callv1 (hf _ (nth_mem hi)) rfl rfl rfl) <| g_u (zD rfl rfl) <| zF <| zA <| zE <| zB <| g_u (zC rfl rfl) <| g_u (y9 rfl rfl rfl) <| zF <| zA ?_
      refine zL rfl (fun hb2 => ?_) (fun hb2 => ?_)
      · have q := qc.1 hb2
        refine zE <| zB <| g_u (zC rfl rfl) <| g_u (zD rfl rfl) <| zF <| zA <| zK <| zf <| zJ <| zJ <| zf <| zJ ?_
        exact ⟨⟨(rfl : toAV (Al.look _ _) = some _).trans (congrArg some (by (exact congrArg iv (by first | (rw [h2, firstC_drop hi, zb _ _ q]; done) | (rw [h2, hin, List.drop_length]; rfl))))), rfl⟩, trivial⟩
      · have q := qd.1 hb2
        refine zN <| zP <| zA <| zB <| g_u (zt rfl rfl rfl) <| g_u (zC rfl rfl) <| zF <| zA ?_
        refine ⟨i + 1, ⟨hi, by (try dsimp only); rw [h2, firstC_drop hi, zI _ _ q]⟩, ⟨rfl, rfl, zW rfl (by rw [zO (by omega) (by omega)]; rfl), trivial⟩, by (try dsimp only); omega⟩
    · have hin : i = l.length := by have := of_decide_eq_false hb1; (try simp only [List.length_map] at this); omega
      refine zw <| zT <| zT <| zo <| zA <| zE <| zB <| g_u (zD rfl rfl) <| zF <| zA <| zK ?_
      exact ⟨⟨(rfl : toAV (Al.look _ _) = some _).trans (congrArg some (by (exact congrArg iv (by first | (rw [h2, firstC_drop hi, zb _ _ q]; done) | (rw [h2, hin, List.drop_length]; rfl))))), rfl⟩, trivial⟩
theorem ev1_c (e : GE) (ho : e.name.size < 9223372036854775808) : zn Tryz.prog Γ0 182 [.cp e.av] [iv (y_ e.name)] := by
  refine zZ Tryz.func182 rfl Tryz.ntmps182 (by kernel_rfl) rfl fun w0 I0 G0 => ?_
  refine zE <| zB <| g_u (zD rfl rfl) <| zF <| zA <| zE <| zB <| g_u (zR rfl rfl fa95_1 rfl rfl) <| g_u (zY rfl rfl tA9 tS9 rfl rfl) ?_
  refine g_u (zQ (words_c _ (by omega)) rfl rfl) ?_
  refine g_u (zD rfl rfl) <| zF <| zA <| zK ?_
  exact ⟨⟨(rfl : toAV (Al.look _ _) = some _).trans (congrArg some (by rfl)), rfl⟩, trivial⟩
theorem ev2_c (e : GE) (ho : ∀ a ∈ e.attrs, a.ok) (hw : wtAs e.attrs ≤ 1000000) : zn Tryz.prog Γ0 183 [.cp e.av] [iv (yS e.attrs)] := by
  refine zZ Tryz.func183 rfl Tryz.ntmps183 (by kernel_rfl) rfl fun w0 I0 G0 => ?_
  refine zE <| zB <| g_u (zD rfl rfl) <| zF <| zA <| zE <| zB <| g_u (zR rfl rfl fa95_2 rfl rfl) <| g_u (zY rfl rfl tA46 tS46 rfl rfl) ?_
  refine g_u (zQ (checkAs_c _ ho (by omega)) rfl rfl) ?_
  refine g_u (zD rfl rfl) <| zF <| zA <| zK ?_
  exact ⟨⟨(rfl : toAV (Al.look _ _) = some _).trans (congrArg some (by rfl)), rfl⟩, trivial⟩
set_option maxHeartbeats 2000000 in
theorem events_c (l : List GE) (ho : ∀ e ∈ l, e.ok) (hw : zv GE.wt l ≤ 1000000) : zn Tryz.prog Γ0 127 [.sl 3 (l.map GE.av)] [iv (evsC l)] := by
  have ql := yP GE.wt (fun e => by unfold GE.wt; omega) l
  refine zZ Tryz.func127 rfl Tryz.ntmps127 (by kernel_rfl) rfl fun w0 I0 G0 => ?_
  refine zE <| zB <| g_u (zD rfl rfl) <| zF <| zA <| aw_scope <| zE <| zE <| zB <| g_u (zC rfl rfl) <| g_u (yB rfl rfl Tryz.underlying47) <| g_u (xA rfl rfl rfl) <| zF <| zA ?_
  refine zL rfl (fun hb1 => ?_) (fun hb1 => ?_)
  · have q16 : 16 < l.length := by have := of_decide_eq_true hb1; (try simp only [List.length_map] at this); omega
    refine zE <| zB <| g_u (zD rfl rfl) <| zF <| zA <| zK <| zJ <| ret_scp ?_
    exact ⟨⟨(rfl : toAV (Al.look _ _) = some _).trans (congrArg some (by (exact congrArg iv (by unfold evsC; first | (rw [if_pos q16]; done) | (rw [if_neg q16, h2, hin, List.drop_length]; rfl) | (rw [if_neg q16, h2, E, if_pos qt]; done) | (rw [if_neg q16, h2, E, if_neg qt, zb _ _ (by simpa [vD, fcodes, xP] using q)]; simp [vD, fcodes, xP]; done))))), rfl⟩, trivial⟩
  · have q16 : ¬ 16 < l.length := by have := of_decide_eq_false hb1; (try simp only [List.length_map] at this); omega
    refine zN <| zA <| zE <| zB <| g_u (zD rfl rfl) <| zF <| zA <| zE <| aw_label <| zA <| zE <| zE <| zB <| g_u (zC rfl rfl) <| g_u (yB rfl rfl Tryz.underlying47) <| g_u (zC rfl rfl) <| zF <| zA <| zS ?_
    refine zr (fun i : Nat => [(3, .imm (iv 0)), (9, .imm (.sl 3 (l.map GE.av))), (10, .imm (iv (l.length : Int))), (11, .imm (iv (i : Int)))]) (fun i => i ≤ l.length ∧ evC l = evC (l.drop i)) (fun i => l.length - i) (0) ?_ ⟨rfl, rfl, zW rfl (by rw [List.length_map]), rfl, trivial⟩ ?_
    · exact ⟨Nat.zero_le _, rfl⟩
    · rintro i ⟨h1, h2⟩; (try dsimp only at h1 h2)
      refine zE <| zB <| g_u (yO rfl rfl rfl) <| zF <| zA <| zE ?_
      refine zL rfl (fun hb2 => ?_) (fun hb2 => ?_)
      · have hi : i < l.length := by have := of_decide_eq_true hb2; (try simp only [List.length_map] at this); omega
        have hx := yd GE.wt (nthE_mem hi)
        have hx2 : (nthE l i).wt = 1 + (nthE l i).name.size + wtAs (nthE l i).attrs := rfl
        have hxo := ho _ (nthE_mem hi)
        have c1 := ev1_c (nthE l i) (by omega)
        have c2 := ev2_c (nthE l i) hxo.2.2 (by omega)
        have E := evC_drop hi
        refine zN <| zA <| zE <| zS <| zE <| zB ?_
        refine g_u (za rfl rfl rfl Tryz.underlying47 tS95 (by omega) (ixE hi)) ?_
        refine g_u (zY rfl rfl tA95 tS95 rfl rfl) <| g_uG (yG 1005 rfl rfl rfl tZ95) rfl <| g_u (zV rfl rfl rfl tS95 rfl rfl) <| zF <| zA <| zE <| zS <| zE <| zB <| g_u (zG rfl rfl fa95_0 rfl) <| g_u (zH rfl rfl rfl tA45 tS45 rfl rfl) <| g_u (xA rfl rfl rfl) <| g_u (zD rfl rfl) <| zF <| zA ?_
        refine zL rfl (fun hb3 => ?_) (fun hb3 => ?_)
        · have qt : 9223372036854775807 < (nthE l i).time := of_decide_eq_true hb3
          refine zE <| zB <| g_u (zD rfl rfl) <| zF <| zA <| zw <| exit_blk_ne rfl <| zT <| exit_blk_ne rfl <| zT <| zT <| zo <| zA <| zE <| zB <| g_u (zC rfl rfl) <| g_u (zD rfl rfl) <| zF <| zA <| zK <| ret_scp ?_
          exact ⟨⟨(rfl : toAV (Al.look _ _) = some _).trans (congrArg some (by (exact congrArg iv (by unfold evsC; first | (rw [if_pos q16]; done) | (rw [if_neg q16, h2, hin, List.drop_length]; rfl) | (rw [if_neg q16, h2, E, if_pos qt]; done) | (rw [if_neg q16, h2, E, if_neg qt, zb _ _ (by simpa [vD, fcodes, xP] using q)]; simp [vD, fcodes, xP]; done))))), rfl⟩, trivial⟩
        · have qt : ¬ 9223372036854775807 < (nthE l i).time := of_decide_eq_false hb3
          refine aw_share 1005 rfl rfl <| zB <| g_u (yl rfl rfl rfl) <| g_u (yl rfl rfl rfl) <| g_u (z7 (X0 := z201) rfl Tryz.underlying242 tS201 tZ201 rfl rfl rfl rfl rfl rfl rfl rfl) ?_
          refine g_u (zQ (first_c [(182, [], [.cp (nthE l i).av], y_ (nthE l i).name), (183, [], [.cp (nthE l i).av], yS (nthE l i).attrs)] (by simp only [List.length_cons, List.length_nil]; omega) (fun x hx => by simp only [List.mem_cons, List.not_mem_nil, or_false] at hx; rcases hx with rfl | rfl <;> assumption)) rfl rfl) ?_
          refine g_u (zD rfl rfl) <| zF <| zP <| zA <| zE <| zB <| g_u (zC rfl rfl) <| g_u (y9 rfl rfl rfl) <| zF <| zA ?_
          refine zL rfl (fun hb4 => ?_) (fun hb4 => ?_)
          · have q := qc.1 hb4
            refine zw <| exit_blk_ne rfl <| zT <| zT <| zo <| zA <| zE <| zB <| g_u (zC rfl rfl) <| g_u (zD rfl rfl) <| zF <| zA <| zK <| ret_scp ?_
            exact ⟨⟨(rfl : toAV (Al.look _ _) = some _).trans (congrArg some (by (exact congrArg iv (by unfold evsC; first | (rw [if_pos q16]; done) | (rw [if_neg q16, h2, hin, List.drop_length]; rfl) | (rw [if_neg q16, h2, E, if_pos qt]; done) | (rw [if_neg q16, h2, E, if_neg qt, zb _ _ (by simpa [vD, fcodes, xP] using q)]; simp [vD, fcodes, xP]; done))))), rfl⟩, trivial⟩
          · have q := qd.1 hb4
            refine zN <| zP <| zA <| zB <| g_u (zt rfl rfl rfl) <| g_u (zC rfl rfl) <| zF <| zA ?_
            refine ⟨i + 1, ⟨hi, by (try dsimp only); rw [h2, E, if_neg qt]; exact zI _ _ (by simpa [vD, fcodes, xP] using q)⟩, ⟨zW rfl q, rfl, rfl, zW rfl (by rw [zO (by omega) (by omega)]; rfl), trivial⟩, by (try dsimp only); omega⟩
      · have hin : i = l.length := by have := of_decide_eq_false hb2; (try simp only [List.length_map] at this); omega
        refine zw <| zT <| zT <| zo <| zA <| zE <| zB <| g_u (zC rfl rfl) <| g_u (zD rfl rfl) <| zF <| zA <| zK <| ret_scp ?_
        exact ⟨⟨(rfl : toAV (Al.look _ _) = some _).trans (congrArg some (by (exact congrArg iv (by unfold evsC; first | (rw [if_pos q16]; done) | (rw [if_neg q16, h2, hin, List.drop_length]; rfl) | (rw [if_neg q16, h2, E, if_pos qt]; done) | (rw [if_neg q16, h2, E, if_neg qt, zb _ _ (by simpa [vD, fcodes, xP] using q)]; simp [vD, fcodes, xP]; done))))), rfl⟩, trivial⟩
theorem lk1_c (e : GL) (h1 : e.trace.length = 16) (h2 : e.span.length = 8) : zn Tryz.prog Γ0 184 [.cp e.av] [iv (if yy e.trace || yy e.span then 10 else 0)] := by
  refine zZ Tryz.func184 rfl Tryz.ntmps184 (by kernel_rfl) rfl fun w0 I0 G0 => ?_
  refine zE <| zB <| g_u (zD rfl rfl) <| zF <| zA <| zE <| zB <| g_u (zR rfl rfl fa107_0 rfl rfl) <| g_u (zY rfl rfl tA42 tS42 rfl rfl) <| g_u (w_ rfl tU42 Tryz.underlying42 tS5 rfl rfl rfl rfl) <| g_u (s_eqA rfl rfl rfl eg42 rfl rfl (eq42 _ _)) <| g_u (zC rfl rfl) <| z6 (t := 6) rfl ?_
  rintro (hb1 | hb1)
  · rw [hb1]
    have q : yy e.trace = true := by have e := hb1; rw [vB h1] at e; exact e
    refine zM rfl rfl rfl <| zM rfl rfl rfl <| zM rfl rfl rfl <| zM rfl rfl rfl <| g_u (zi rfl rfl rfl) <| g_u (zQ (when_c _ _) rfl rfl) <| g_u (zD rfl rfl) <| zF <| zA <| zK ?_
    exact ⟨⟨(rfl : toAV (Al.look _ _) = some _).trans (congrArg some (by (exact congrArg iv (by first | (rw [q, vB h2, Bool.false_or]; done) | (rw [q, Bool.true_or]; done) | (rw [q, Bool.true_or]; rfl))))), rfl⟩, trivial⟩
  · rw [hb1]
    have q : yy e.trace = false := by have e := hb1; rw [vB h1] at e; exact e
    refine zX rfl rfl (zR rfl rfl fa107_1 rfl rfl) <| zX rfl rfl (zY rfl rfl tA44 tS44 rfl rfl) <| zX rfl rfl (w_ rfl tU44 Tryz.underlying44 tS5 rfl rfl rfl rfl) <| zX rfl rfl (s_eqA rfl rfl rfl eg44 rfl rfl (eq44 _ _)) <| g_u (zj rfl rfl rfl) <| g_u (zQ (when_c _ _) rfl rfl) <| g_u (zD rfl rfl) <| zF <| zA <| zK ?_
    exact ⟨⟨(rfl : toAV (Al.look _ _) = some _).trans (congrArg some (by (exact congrArg iv (by first | (rw [q, vB h2, Bool.false_or]; done) | (rw [q, Bool.true_or]; done) | (rw [q, Bool.true_or]; rfl))))), rfl⟩, trivial⟩
theorem lk2_c (e : GL) (ho : e.state.size < 9223372036854775808) : zn Tryz.prog Γ0 185 [.cp e.av] [iv (y_ e.state)] := by
  refine zZ Tryz.func185 rfl Tryz.ntmps185 (by kernel_rfl) rfl fun w0 I0 G0 => ?_
  refine zE <| zB <| g_u (zD rfl rfl) <| zF <| zA <| zE <| zB <| g_u (zR rfl rfl fa107_2 rfl rfl) <| g_u (zY rfl rfl tA9 tS9 rfl rfl) ?_
  refine g_u (zQ (words_c _ (by omega)) rfl rfl) ?_
  refine g_u (zD rfl rfl) <| zF <| zA <| zK ?_
  exact ⟨⟨(rfl : toAV (Al.look _ _) = some _).trans (congrArg some (by rfl)), rfl⟩, trivial⟩
theorem lk3_c (e : GL) (ho : ∀ a ∈ e.attrs, a.ok) (hw : wtAs e.attrs ≤ 1000000) : zn Tryz.prog Γ0 186 [.cp e.av] [iv (yS e.attrs)] := by
  refine zZ Tryz.func186 rfl Tryz.ntmps186 (by kernel_rfl) rfl fun w0 I0 G0 => ?_
  refine zE <| zB <| g_u (zD rfl rfl) <| zF <| zA <| zE <| zB <| g_u (zR rfl rfl fa107_3 rfl rfl) <| g_u (zY rfl rfl tA46 tS46 rfl rfl) ?_
  refine g_u (zQ (checkAs_c _ ho (by omega)) rfl rfl) ?_
  refine g_u (zD rfl rfl) <| zF <| zA <| zK ?_
  exact ⟨⟨(rfl : toAV (Al.look _ _) = some _).trans (congrArg some (by rfl)), rfl⟩, trivial⟩
set_option maxHeartbeats 4000000 in
theorem links_c (l : List GL) (ho : ∀ e ∈ l, e.ok) (hw : zv GL.wt l ≤ 1000000) : zn Tryz.prog Γ0 129 [.sl 26 (l.map GL.av)] [iv (lksC l)] := by
  have ql := yP GL.wt (fun e => by unfold GL.wt; omega) l
  refine zZ Tryz.func129 rfl Tryz.ntmps129 (by kernel_rfl) rfl fun w0 I0 G0 => ?_
  refine zE <| zB <| g_u (zD rfl rfl) <| zF <| zA <| aw_scope <| zE <| zE <| zB <| g_u (zC rfl rfl) <| g_u (yB rfl rfl Tryz.underlying48) <| g_u (xA rfl rfl rfl) <| zF <| zA ?_
  refine zL rfl (fun hb1 => ?_) (fun hb1 => ?_)
  · have q16 : 16 < l.length := by have := of_decide_eq_true hb1; (try simp only [List.length_map] at this); omega
    refine zE <| zB <| g_u (zD rfl rfl) <| zF <| zA <| zK <| zJ <| ret_scp ?_
    exact ⟨⟨(rfl : toAV (Al.look _ _) = some _).trans (congrArg some (by (exact congrArg iv (by unfold lksC; first | (rw [if_pos q16]; done) | (rw [if_neg q16, h2, hin, List.drop_length]; rfl) | (rw [if_neg q16, h2, E]; rw [EF] at q ⊢; split at q; (rename_i hz; rw [if_pos hz, if_pos hz]); (rename_i hz; rw [if_neg hz, if_neg hz, zb _ _ q])))))), rfl⟩, trivial⟩
  · have q16 : ¬ 16 < l.length := by have := of_decide_eq_false hb1; (try simp only [List.length_map] at this); omega
    refine zN <| zA <| zE <| zB <| g_u (zD rfl rfl) <| zF <| zA <| zE <| aw_label <| zA <| zE <| zE <| zB <| g_u (zC rfl rfl) <| g_u (yB rfl rfl Tryz.underlying48) <| g_u (zC rfl rfl) <| zF <| zA <| zS ?_
    refine zr (fun i : Nat => [(3, .imm (iv 0)), (9, .imm (.sl 26 (l.map GL.av))), (10, .imm (iv (l.length : Int))), (11, .imm (iv (i : Int)))]) (fun i => i ≤ l.length ∧ lkC l = lkC (l.drop i)) (fun i => l.length - i) (0) ?_ ⟨rfl, rfl, zW rfl (by rw [List.length_map]), rfl, trivial⟩ ?_
    · exact ⟨Nat.zero_le _, rfl⟩
    · rintro i ⟨h1, h2⟩; (try dsimp only at h1 h2)
      refine zE <| zB <| g_u (yO rfl rfl rfl) <| zF <| zA <| zE ?_
      refine zL rfl (fun hb2 => ?_) (fun hb2 => ?_)
      · have hi : i < l.length := by have := of_decide_eq_true hb2; (try simp only [List.length_map] at this); omega
        have hx := yd GL.wt (nthL_mem hi)
        have hx2 : (nthL l i).wt = 1 + (nthL l i).state.size + wtAs (nthL l i).attrs := rfl
        have hxo := ho _ (nthL_mem hi)
        have c1 := lk1_c (nthL l i) hxo.1 hxo.2.1
        have c2 := lk2_c (nthL l i) (by omega)
        have c3 := lk3_c (nthL l i) hxo.2.2.2 (by omega)
        have E := lkC_drop hi
        have EF : vD (fcodes [(184, [], [.cp (nthL l i).av], (if yy (nthL l i).trace || yy (nthL l i).span then 10 else 0)), (185, [], [.cp (nthL l i).av], y_ (nthL l i).state), (186, [], [.cp (nthL l i).av], yS (nthL l i).attrs)]) = if yy (nthL l i).trace || yy (nthL l i).span then 10 else orC (y_ (nthL l i).state) (yS (nthL l i).attrs) := by show orC (if yy (nthL l i).trace || yy (nthL l i).span then 10 else 0) (orC (y_ (nthL l i).state) (orC (yS (nthL l i).attrs) 0)) = _; rw [xP]; split; exact zb _ _ (by decide); exact zI _ _ rfl
        refine zN <| zA <| zE <| zS <| zE <| zB ?_
        refine g_u (za rfl rfl rfl Tryz.underlying48 tS107 (by omega) (ixL hi)) ?_
        refine g_u (zY rfl rfl tA107 tS107 rfl (by first | exact getS_w (GL.width _) rfl | rfl)) ?_
        refine g_uG (yG 1005 rfl rfl rfl tZ107) rfl ?_
        refine g_u (zV rfl rfl rfl tS107 (by first | exact beqW (GL.width _) | rfl) (by first | exact setS_w (z107_w.trans (GL.width _).symm) rfl | rfl)) ?_
        refine zF <| zA <| zE <| aw_share 1005 rfl rfl <| zB <| g_u (yl rfl rfl rfl) <| g_u (yl rfl rfl rfl) <| g_u (yl rfl rfl rfl) <| g_u (z7 (X0 := z201) rfl Tryz.underlying242 tS201 tZ201 rfl rfl rfl rfl rfl rfl rfl rfl) ?_
        refine g_u (zQ (first_c [(184, [], [.cp (nthL l i).av], (if yy (nthL l i).trace || yy (nthL l i).span then 10 else 0)), (185, [], [.cp (nthL l i).av], y_ (nthL l i).state), (186, [], [.cp (nthL l i).av], yS (nthL l i).attrs)] (by simp only [List.length_cons, List.length_nil]; omega) (fun x hx => by simp only [List.mem_cons, List.not_mem_nil, or_false] at hx; rcases hx with rfl | rfl | rfl <;> assumption)) rfl rfl) ?_
        refine g_u (zD rfl rfl) <| zF <| zA <| zE <| zB <| g_u (zC rfl rfl) <| g_u (y9 rfl rfl rfl) <| zF <| zA ?_
        refine zL rfl (fun hb3 => ?_) (fun hb3 => ?_)
        · have q := qc.1 hb3
          refine zw <| exit_blk_ne rfl <| zT <| zT <| zo <| zA <| zE <| zB <| g_u (zC rfl rfl) <| g_u (zD rfl rfl) <| zF <| zA <| zK <| ret_scp ?_
          exact ⟨⟨(rfl : toAV (Al.look _ _) = some _).trans (congrArg some (by (exact congrArg iv (by unfold lksC; first | (rw [if_pos q16]; done) | (rw [if_neg q16, h2, hin, List.drop_length]; rfl) | (rw [if_neg q16, h2, E]; rw [EF] at q ⊢; split at q; (rename_i hz; rw [if_pos hz, if_pos hz]); (rename_i hz; rw [if_neg hz, if_neg hz, zb _ _ q])))))), rfl⟩, trivial⟩
        · have q := qd.1 hb3
          refine zN <| zP <| zA <| zB <| g_u (zt rfl rfl rfl) <| g_u (zC rfl rfl) <| zF <| zA ?_
          have qz := q
          rw [EF] at qz
          refine ⟨i + 1, ⟨hi, by (try dsimp only); rw [h2, E]; split at qz; (exact absurd qz (by decide)); (rename_i hz; rw [if_neg hz, zI _ _ qz])⟩, ⟨zW rfl q, rfl, rfl, zW rfl (by rw [zO (by omega) (by omega)]; rfl), trivial⟩, by (try dsimp only); omega⟩
      · have hin : i = l.length := by have := of_decide_eq_false hb2; (try simp only [List.length_map] at this); omega
        refine zw <| zT <| zT <| zo <| zA <| zE <| zB <| g_u (zC rfl rfl) <| g_u (zD rfl rfl) <| zF <| zA <| zK <| ret_scp ?_
        exact ⟨⟨(rfl : toAV (Al.look _ _) = some _).trans (congrArg some (by (exact congrArg iv (by unfold lksC; first | (rw [if_pos q16]; done) | (rw [if_neg q16, h2, hin, List.drop_length]; rfl) | (rw [if_neg q16, h2, E]; rw [EF] at q ⊢; split at q; (rename_i hz; rw [if_pos hz, if_pos hz]); (rename_i hz; rw [if_neg hz, if_neg hz, zb _ _ q])))))), rfl⟩, trivial⟩
end Go.Proofs
