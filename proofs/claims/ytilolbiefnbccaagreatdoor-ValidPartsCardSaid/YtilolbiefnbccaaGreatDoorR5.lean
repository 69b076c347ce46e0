/- Texts that the proofs of this claim share, part 5: the abstract logic, plain Lean on values and batches, and walks. No condition but those typed in each lemma. -/
import Derived.Maps.RangeRun
import Derived.Sort.OwnSorted
import Derived.Shelf.Sort.Plain
import Derived.Shelf.Slices.In.SortNone
import Derived.Test.YtilolbiefnbccaaGreatDoorR4
set_option linter.unusedSimpArgs false
set_option linter.unusedVariables false
set_option maxHeartbeats 400000
namespace Go.Proofs
open Go Go.Al
set_option maxRecDepth 10000
theorem keyP_c (k : ByteArray) (hk : k.size < 9223372036854775808) : zj Tryz.prog Γ0 113 [sv k] [iv (keyC k)] := by
  have cr := check_range k
  refine zb Tryz.func113 rfl Tryz.ntmps113 (by kernel_rfl) rfl fun w0 I0 G0 => ?_
  refine zD <| zB <| g_u (zE rfl rfl) <| zF <| zA <| zD <| zQ <| zD <| zB <| g_u (zC rfl rfl) <| g_u (s_eqS rfl rfl rfl) <| g_u (zE rfl rfl) <| zF <| zA ?_
  refine zN rfl (fun hb1 => ?_) (fun hb1 => ?_)
  · have q : k.size = 0 := by have e := hb1; rw [xJ] at e; exact (size0 k).1 (of_decide_eq_true e)
    refine zD <| zB <| g_u (zE rfl rfl) <| zF <| zA <| zJ <| ze <| zK ?_
    exact ⟨⟨(rfl : toAV (Al.look _ _) = some _).trans (congrArg some (by (exact congrArg iv (by unfold keyC; (repeat' split) <;> first | rfl | omega)))), rfl⟩, trivial⟩
  · have q : ¬ k.size = 0 := by have e := hb1; rw [xJ] at e; exact fun h => of_decide_eq_false e ((size0 k).2 h)
    refine zD <| zB <| g_u (zC rfl rfl) ?_
    refine g_u (zT (check_c _ (by omega)) rfl rfl) ?_
    refine g_u (s_geI rfl rfl rfl) <| g_u (zE rfl rfl) <| zF <| zA ?_
    refine zN rfl (fun hb2 => ?_) (fun hb2 => ?_)
    · have q := of_decide_eq_true hb2
      refine zD <| zB <| g_u (zE rfl rfl) <| zF <| zA <| zJ <| ze <| zK ?_
      exact ⟨⟨(rfl : toAV (Al.look _ _) = some _).trans (congrArg some (by (exact congrArg iv (by unfold keyC; (repeat' split) <;> first | rfl | omega)))), rfl⟩, trivial⟩
    · have q := of_decide_eq_false hb2
      refine zD <| zB <| g_u (zC rfl rfl) <| g_u (yd rfl rfl Tryz.underlying9) <| g_u (wl rfl rfl rfl) <| g_u (zE rfl rfl) <| zF <| zA ?_
      refine zN rfl (fun hb3 => ?_) (fun hb3 => ?_)
      · have q := of_decide_eq_true hb3
        refine zD <| zB <| g_u (zE rfl rfl) <| zF <| zA <| zJ <| ze <| zK ?_
        exact ⟨⟨(rfl : toAV (Al.look _ _) = some _).trans (congrArg some (by (exact congrArg iv (by unfold keyC; (repeat' split) <;> first | rfl | omega)))), rfl⟩, trivial⟩
      · have q := of_decide_eq_false hb3
        refine zO <| zM <| zA <| zD <| zB <| g_u (zE rfl rfl) <| zF <| zA <| zJ ?_
        exact ⟨⟨(rfl : toAV (Al.look _ _) = some _).trans (congrArg some (by (exact congrArg iv (by unfold keyC; (repeat' split) <;> first | rfl | omega)))), rfl⟩, trivial⟩
set_option maxHeartbeats 2000000 in
theorem bare_c (v : GV) : zj Tryz.prog Γ0 211 [v.av] [(z_ v).av] := by
  refine zb Tryz.func211 rfl Tryz.ntmps211 (by kernel_rfl) rfl fun w0 I0 G0 => ?_
  refine zD <| zB <| g_uG (zi 1001 rfl rfl rfl rfl) rfl <| g_uG (zo 1002 rfl rfl rfl tZ91) rfl <| zF <| zA <| zD <| zB <| g_u (zG rfl rfl fa91_0 rfl) <| g_u (zH rfl rfl rfl tA5 tS5 rfl rfl) <| g_u (y9 rfl tU91 us91 pl91 rfl rfl rfl rfl) <| g_uG (zo 1003 rfl rfl rfl tZ91) rfl <| g_u (zL rfl rfl rfl tS91 rfl rfl) <| zF <| zA <| zD <| zD <| zB <| g_u (zG rfl rfl fa91_0 rfl) <| g_u (zH rfl rfl rfl tA5 tS5 rfl rfl) <| zF <| zA <| zQ <| zD <| zD <| zB <| g_u (yn rfl rfl rfl) <| g_u (zE rfl rfl) <| zF <| zA ?_
  refine zN rfl (fun hb1 => ?_) (fun hb1 => ?_)
  · have q := beq_iff_eq.1 hb1
    refine zO <| zA ?_
    refine zN rfl (fun hb2 => ?_) (fun hb2 => ?_)
    · have q := beq_iff_eq.1 hb2
      refine zB <| g_u (zG rfl rfl fa91_1 rfl) <| g_u (zH rfl rfl rfl tA9 tS9 rfl rfl) <| g_u (zG rfl rfl fa91_1 rfl) <| g_u (zL rfl rfl rfl tS9 rfl rfl) <| zF <| zM <| zA <| zD <| zB <| g_u (zl rfl rfl rfl tA91 tS91 rfl rfl) <| g_u (zL rfl rfl rfl tS91 rfl rfl) <| zF <| zA <| zJ ?_
      exact ⟨⟨_, _, _, _, _, _, _, rfl, rfl, tA91, tS91, rfl, rfl, (rfl : toAV _ = some _).trans (congrArg some (by (first | (exfalso; omega) | (rw [show z_ v = .mk v.kind v.text 0 0 [] [] from by unfold z_; rw [if_pos (by omega), if_neg (by omega), if_neg (by omega), if_neg (by omega), if_neg (by omega)]]; rfl) | (rw [show z_ v = .mk v.kind ⟨#[]⟩ v.num 0 [] [] from by unfold z_; rw [if_neg (by omega), if_pos (by omega), if_neg (by omega), if_neg (by omega), if_neg (by omega)]]; rfl) | (rw [show z_ v = .mk v.kind ⟨#[]⟩ 0 v.bits [] [] from by unfold z_; rw [if_neg (by omega), if_neg (by omega), if_pos (by omega), if_neg (by omega), if_neg (by omega)]]; rfl) | (rw [show z_ v = .mk v.kind ⟨#[]⟩ 0 0 v.list [] from by unfold z_; rw [if_neg (by omega), if_neg (by omega), if_neg (by omega), if_pos (by omega), if_neg (by omega)]]; rfl) | (rw [show z_ v = .mk v.kind ⟨#[]⟩ 0 0 [] v.map from by unfold z_; rw [if_neg (by omega), if_neg (by omega), if_neg (by omega), if_neg (by omega), if_pos (by omega)]]; rfl) | (rw [show z_ v = .mk v.kind ⟨#[]⟩ 0 0 [] [] from by unfold z_; rw [if_neg (by omega), if_neg (by omega), if_neg (by omega), if_neg (by omega), if_neg (by omega)]]; rfl))))⟩, trivial⟩
    · have q := beq_eq_false_iff_ne.1 hb2
      refine zD <| zD <| zB <| g_u (yn rfl rfl rfl) <| g_u (zE rfl rfl) <| zF <| zA ?_
      refine zN rfl (fun hb3 => ?_) (fun hb3 => ?_)
      · have q := beq_iff_eq.1 hb3
        refine zO <| zA ?_
        refine zN rfl (fun hb4 => ?_) (fun hb4 => ?_)
        · have q := beq_iff_eq.1 hb4
          refine zB <| g_u (zG rfl rfl fa91_2 rfl) <| g_u (zH rfl rfl rfl tA3 tS3 rfl rfl) <| g_u (zG rfl rfl fa91_2 rfl) <| g_u (zL rfl rfl rfl tS3 rfl rfl) <| zF <| zM <| zA <| zD <| zB <| g_u (zl rfl rfl rfl tA91 tS91 rfl rfl) <| g_u (zL rfl rfl rfl tS91 rfl rfl) <| zF <| zA <| zJ ?_
          exact ⟨⟨_, _, _, _, _, _, _, rfl, rfl, tA91, tS91, rfl, rfl, (rfl : toAV _ = some _).trans (congrArg some (by (first | (exfalso; omega) | (rw [show z_ v = .mk v.kind v.text 0 0 [] [] from by unfold z_; rw [if_pos (by omega), if_neg (by omega), if_neg (by omega), if_neg (by omega), if_neg (by omega)]]; rfl) | (rw [show z_ v = .mk v.kind ⟨#[]⟩ v.num 0 [] [] from by unfold z_; rw [if_neg (by omega), if_pos (by omega), if_neg (by omega), if_neg (by omega), if_neg (by omega)]]; rfl) | (rw [show z_ v = .mk v.kind ⟨#[]⟩ 0 v.bits [] [] from by unfold z_; rw [if_neg (by omega), if_neg (by omega), if_pos (by omega), if_neg (by omega), if_neg (by omega)]]; rfl) | (rw [show z_ v = .mk v.kind ⟨#[]⟩ 0 0 v.list [] from by unfold z_; rw [if_neg (by omega), if_neg (by omega), if_neg (by omega), if_pos (by omega), if_neg (by omega)]]; rfl) | (rw [show z_ v = .mk v.kind ⟨#[]⟩ 0 0 [] v.map from by unfold z_; rw [if_neg (by omega), if_neg (by omega), if_neg (by omega), if_neg (by omega), if_pos (by omega)]]; rfl) | (rw [show z_ v = .mk v.kind ⟨#[]⟩ 0 0 [] [] from by unfold z_; rw [if_neg (by omega), if_neg (by omega), if_neg (by omega), if_neg (by omega), if_neg (by omega)]]; rfl))))⟩, trivial⟩
        · have q := beq_eq_false_iff_ne.1 hb4
          refine zD <| zB <| g_u (yn rfl rfl rfl) <| g_u (zE rfl rfl) <| zF <| zA ?_
          refine zN rfl (fun hb5 => ?_) (fun hb5 => ?_)
          · have q := beq_iff_eq.1 hb5
            refine zB <| g_u (zG rfl rfl fa91_3 rfl) <| g_u (zH rfl rfl rfl tA45 tS45 rfl rfl) <| g_u (zG rfl rfl fa91_3 rfl) <| g_u (zL rfl rfl rfl tS45 rfl rfl) <| zF <| zM <| zA <| zD <| zB <| g_u (zl rfl rfl rfl tA91 tS91 rfl rfl) <| g_u (zL rfl rfl rfl tS91 rfl rfl) <| zF <| zA <| zJ ?_
            exact ⟨⟨_, _, _, _, _, _, _, rfl, rfl, tA91, tS91, rfl, rfl, (rfl : toAV _ = some _).trans (congrArg some (by (first | (exfalso; omega) | (rw [show z_ v = .mk v.kind v.text 0 0 [] [] from by unfold z_; rw [if_pos (by omega), if_neg (by omega), if_neg (by omega), if_neg (by omega), if_neg (by omega)]]; rfl) | (rw [show z_ v = .mk v.kind ⟨#[]⟩ v.num 0 [] [] from by unfold z_; rw [if_neg (by omega), if_pos (by omega), if_neg (by omega), if_neg (by omega), if_neg (by omega)]]; rfl) | (rw [show z_ v = .mk v.kind ⟨#[]⟩ 0 v.bits [] [] from by unfold z_; rw [if_neg (by omega), if_neg (by omega), if_pos (by omega), if_neg (by omega), if_neg (by omega)]]; rfl) | (rw [show z_ v = .mk v.kind ⟨#[]⟩ 0 0 v.list [] from by unfold z_; rw [if_neg (by omega), if_neg (by omega), if_neg (by omega), if_pos (by omega), if_neg (by omega)]]; rfl) | (rw [show z_ v = .mk v.kind ⟨#[]⟩ 0 0 [] v.map from by unfold z_; rw [if_neg (by omega), if_neg (by omega), if_neg (by omega), if_neg (by omega), if_pos (by omega)]]; rfl) | (rw [show z_ v = .mk v.kind ⟨#[]⟩ 0 0 [] [] from by unfold z_; rw [if_neg (by omega), if_neg (by omega), if_neg (by omega), if_neg (by omega), if_neg (by omega)]]; rfl))))⟩, trivial⟩
          · have q := beq_eq_false_iff_ne.1 hb5
            refine zD <| zB <| g_u (yn rfl rfl rfl) <| g_u (zE rfl rfl) <| zF <| zA ?_
            refine zN rfl (fun hb6 => ?_) (fun hb6 => ?_)
            · have q := beq_iff_eq.1 hb6
              refine zB <| g_u (zG rfl rfl vI rfl) <| g_u (zH rfl rfl rfl tA89 tS89 rfl rfl) <| g_u (zG rfl rfl vI rfl) <| g_u (zL rfl rfl rfl tS89 rfl rfl) <| zF <| zM <| zA <| zD <| zB <| g_u (zl rfl rfl rfl tA91 tS91 rfl rfl) <| g_u (zL rfl rfl rfl tS91 rfl rfl) <| zF <| zA <| zJ ?_
              exact ⟨⟨_, _, _, _, _, _, _, rfl, rfl, tA91, tS91, rfl, rfl, (rfl : toAV _ = some _).trans (congrArg some (by (first | (exfalso; omega) | (rw [show z_ v = .mk v.kind v.text 0 0 [] [] from by unfold z_; rw [if_pos (by omega), if_neg (by omega), if_neg (by omega), if_neg (by omega), if_neg (by omega)]]; rfl) | (rw [show z_ v = .mk v.kind ⟨#[]⟩ v.num 0 [] [] from by unfold z_; rw [if_neg (by omega), if_pos (by omega), if_neg (by omega), if_neg (by omega), if_neg (by omega)]]; rfl) | (rw [show z_ v = .mk v.kind ⟨#[]⟩ 0 v.bits [] [] from by unfold z_; rw [if_neg (by omega), if_neg (by omega), if_pos (by omega), if_neg (by omega), if_neg (by omega)]]; rfl) | (rw [show z_ v = .mk v.kind ⟨#[]⟩ 0 0 v.list [] from by unfold z_; rw [if_neg (by omega), if_neg (by omega), if_neg (by omega), if_pos (by omega), if_neg (by omega)]]; rfl) | (rw [show z_ v = .mk v.kind ⟨#[]⟩ 0 0 [] v.map from by unfold z_; rw [if_neg (by omega), if_neg (by omega), if_neg (by omega), if_neg (by omega), if_pos (by omega)]]; rfl) | (rw [show z_ v = .mk v.kind ⟨#[]⟩ 0 0 [] [] from by unfold z_; rw [if_neg (by omega), if_neg (by omega), if_neg (by omega), if_neg (by omega), if_neg (by omega)]]; rfl))))⟩, trivial⟩
            · have q := beq_eq_false_iff_ne.1 hb6
              refine zD <| zB <| g_u (yn rfl rfl rfl) <| g_u (zE rfl rfl) <| zF <| zA ?_
              refine zN rfl (fun hb7 => ?_) (fun hb7 => ?_)
              · have q := beq_iff_eq.1 hb7
                refine zB <| g_u (zG rfl rfl vH rfl) <| g_u (zH rfl rfl rfl tA46 tS46 rfl rfl) <| g_u (zG rfl rfl vH rfl) <| g_u (zL rfl rfl rfl tS46 rfl rfl) <| zF <| zM <| zA <| zD <| zB <| g_u (zl rfl rfl rfl tA91 tS91 rfl rfl) <| g_u (zL rfl rfl rfl tS91 rfl rfl) <| zF <| zA <| zJ ?_
                exact ⟨⟨_, _, _, _, _, _, _, rfl, rfl, tA91, tS91, rfl, rfl, (rfl : toAV _ = some _).trans (congrArg some (by (first | (exfalso; omega) | (rw [show z_ v = .mk v.kind v.text 0 0 [] [] from by unfold z_; rw [if_pos (by omega), if_neg (by omega), if_neg (by omega), if_neg (by omega), if_neg (by omega)]]; rfl) | (rw [show z_ v = .mk v.kind ⟨#[]⟩ v.num 0 [] [] from by unfold z_; rw [if_neg (by omega), if_pos (by omega), if_neg (by omega), if_neg (by omega), if_neg (by omega)]]; rfl) | (rw [show z_ v = .mk v.kind ⟨#[]⟩ 0 v.bits [] [] from by unfold z_; rw [if_neg (by omega), if_neg (by omega), if_pos (by omega), if_neg (by omega), if_neg (by omega)]]; rfl) | (rw [show z_ v = .mk v.kind ⟨#[]⟩ 0 0 v.list [] from by unfold z_; rw [if_neg (by omega), if_neg (by omega), if_neg (by omega), if_pos (by omega), if_neg (by omega)]]; rfl) | (rw [show z_ v = .mk v.kind ⟨#[]⟩ 0 0 [] v.map from by unfold z_; rw [if_neg (by omega), if_neg (by omega), if_neg (by omega), if_neg (by omega), if_pos (by omega)]]; rfl) | (rw [show z_ v = .mk v.kind ⟨#[]⟩ 0 0 [] [] from by unfold z_; rw [if_neg (by omega), if_neg (by omega), if_neg (by omega), if_neg (by omega), if_neg (by omega)]]; rfl))))⟩, trivial⟩
              · have q := beq_eq_false_iff_ne.1 hb7
                refine zO <| zM <| zA <| zD <| zB <| g_u (zl rfl rfl rfl tA91 tS91 rfl rfl) <| g_u (zL rfl rfl rfl tS91 rfl rfl) <| zF <| zA <| zJ ?_
                exact ⟨⟨_, _, _, _, _, _, _, rfl, rfl, tA91, tS91, rfl, rfl, (rfl : toAV _ = some _).trans (congrArg some (by (first | (exfalso; omega) | (rw [show z_ v = .mk v.kind v.text 0 0 [] [] from by unfold z_; rw [if_pos (by omega), if_neg (by omega), if_neg (by omega), if_neg (by omega), if_neg (by omega)]]; rfl) | (rw [show z_ v = .mk v.kind ⟨#[]⟩ v.num 0 [] [] from by unfold z_; rw [if_neg (by omega), if_pos (by omega), if_neg (by omega), if_neg (by omega), if_neg (by omega)]]; rfl) | (rw [show z_ v = .mk v.kind ⟨#[]⟩ 0 v.bits [] [] from by unfold z_; rw [if_neg (by omega), if_neg (by omega), if_pos (by omega), if_neg (by omega), if_neg (by omega)]]; rfl) | (rw [show z_ v = .mk v.kind ⟨#[]⟩ 0 0 v.list [] from by unfold z_; rw [if_neg (by omega), if_neg (by omega), if_neg (by omega), if_pos (by omega), if_neg (by omega)]]; rfl) | (rw [show z_ v = .mk v.kind ⟨#[]⟩ 0 0 [] v.map from by unfold z_; rw [if_neg (by omega), if_neg (by omega), if_neg (by omega), if_neg (by omega), if_pos (by omega)]]; rfl) | (rw [show z_ v = .mk v.kind ⟨#[]⟩ 0 0 [] [] from by unfold z_; rw [if_neg (by omega), if_neg (by omega), if_neg (by omega), if_neg (by omega), if_neg (by omega)]]; rfl))))⟩, trivial⟩
      · have q := beq_eq_false_iff_ne.1 hb3
        refine zB <| g_u (yn rfl rfl rfl) <| g_u (zE rfl rfl) <| zF <| zA ?_
        refine zN rfl (fun hb8 => ?_) (fun hb8 => ?_)
        · have q := beq_iff_eq.1 hb8
          refine zB <| g_u (zG rfl rfl fa91_2 rfl) <| g_u (zH rfl rfl rfl tA3 tS3 rfl rfl) <| g_u (zG rfl rfl fa91_2 rfl) <| g_u (zL rfl rfl rfl tS3 rfl rfl) <| zF <| zM <| zA <| zD <| zB <| g_u (zl rfl rfl rfl tA91 tS91 rfl rfl) <| g_u (zL rfl rfl rfl tS91 rfl rfl) <| zF <| zA <| zJ ?_
          exact ⟨⟨_, _, _, _, _, _, _, rfl, rfl, tA91, tS91, rfl, rfl, (rfl : toAV _ = some _).trans (congrArg some (by (first | (exfalso; omega) | (rw [show z_ v = .mk v.kind v.text 0 0 [] [] from by unfold z_; rw [if_pos (by omega), if_neg (by omega), if_neg (by omega), if_neg (by omega), if_neg (by omega)]]; rfl) | (rw [show z_ v = .mk v.kind ⟨#[]⟩ v.num 0 [] [] from by unfold z_; rw [if_neg (by omega), if_pos (by omega), if_neg (by omega), if_neg (by omega), if_neg (by omega)]]; rfl) | (rw [show z_ v = .mk v.kind ⟨#[]⟩ 0 v.bits [] [] from by unfold z_; rw [if_neg (by omega), if_neg (by omega), if_pos (by omega), if_neg (by omega), if_neg (by omega)]]; rfl) | (rw [show z_ v = .mk v.kind ⟨#[]⟩ 0 0 v.list [] from by unfold z_; rw [if_neg (by omega), if_neg (by omega), if_neg (by omega), if_pos (by omega), if_neg (by omega)]]; rfl) | (rw [show z_ v = .mk v.kind ⟨#[]⟩ 0 0 [] v.map from by unfold z_; rw [if_neg (by omega), if_neg (by omega), if_neg (by omega), if_neg (by omega), if_pos (by omega)]]; rfl) | (rw [show z_ v = .mk v.kind ⟨#[]⟩ 0 0 [] [] from by unfold z_; rw [if_neg (by omega), if_neg (by omega), if_neg (by omega), if_neg (by omega), if_neg (by omega)]]; rfl))))⟩, trivial⟩
        · have q := beq_eq_false_iff_ne.1 hb8
          refine zD <| zB <| g_u (yn rfl rfl rfl) <| g_u (zE rfl rfl) <| zF <| zA ?_
          refine zN rfl (fun hb9 => ?_) (fun hb9 => ?_)
          · have q := beq_iff_eq.1 hb9
            refine zB <| g_u (zG rfl rfl fa91_3 rfl) <| g_u (zH rfl rfl rfl tA45 tS45 rfl rfl) <| g_u (zG rfl rfl fa91_3 rfl) <| g_u (zL rfl rfl rfl tS45 rfl rfl) <| zF <| zM <| zA <| zD <| zB <| g_u (zl rfl rfl rfl tA91 tS91 rfl rfl) <| g_u (zL rfl rfl rfl tS91 rfl rfl) <| zF <| zA <| zJ ?_
            exact ⟨⟨_, _, _, _, _, _, _, rfl, rfl, tA91, tS91, rfl, rfl, (rfl : toAV _ = some _).trans (congrArg some (by (first | (exfalso; omega) | (rw [show z_ v = .mk v.kind v.text 0 0 [] [] from by unfold z_; rw [if_pos (by omega), if_neg (by omega), if_neg (by omega), if_neg (by omega), if_neg (by omega)]]; rfl) | (rw [show z_ v = .mk v.kind ⟨#[]⟩ v.num 0 [] [] from by unfold z_; rw [if_neg (by omega), if_pos (by omega), if_neg (by omega), if_neg (by omega), if_neg (by omega)]]; rfl) | (rw [show z_ v = .mk v.kind ⟨#[]⟩ 0 v.bits [] [] from by unfold z_; rw [if_neg (by omega), if_neg (by omega), if_pos (by omega), if_neg (by omega), if_neg (by omega)]]; rfl) | (rw [show z_ v = .mk v.kind ⟨#[]⟩ 0 0 v.list [] from by unfold z_; rw [if_neg (by omega), if_neg (by omega), if_neg (by omega), if_pos (by omega), if_neg (by omega)]]; rfl) | (rw [show z_ v = .mk v.kind ⟨#[]⟩ 0 0 [] v.map from by unfold z_; rw [if_neg (by omega), if_neg (by omega), if_neg (by omega), if_neg (by omega), if_pos (by omega)]]; rfl) | (rw [show z_ v = .mk v.kind ⟨#[]⟩ 0 0 [] [] from by unfold z_; rw [if_neg (by omega), if_neg (by omega), if_neg (by omega), if_neg (by omega), if_neg (by omega)]]; rfl))))⟩, trivial⟩
          · have q := beq_eq_false_iff_ne.1 hb9
            refine zD <| zB <| g_u (yn rfl rfl rfl) <| g_u (zE rfl rfl) <| zF <| zA ?_
            refine zN rfl (fun hb10 => ?_) (fun hb10 => ?_)
            · have q := beq_iff_eq.1 hb10
              refine zB <| g_u (zG rfl rfl vI rfl) <| g_u (zH rfl rfl rfl tA89 tS89 rfl rfl) <| g_u (zG rfl rfl vI rfl) <| g_u (zL rfl rfl rfl tS89 rfl rfl) <| zF <| zM <| zA <| zD <| zB <| g_u (zl rfl rfl rfl tA91 tS91 rfl rfl) <| g_u (zL rfl rfl rfl tS91 rfl rfl) <| zF <| zA <| zJ ?_
              exact ⟨⟨_, _, _, _, _, _, _, rfl, rfl, tA91, tS91, rfl, rfl, (rfl : toAV _ = some _).trans (congrArg some (by (first | (exfalso; omega) | (rw [show z_ v = .mk v.kind v.text 0 0 [] [] from by unfold z_; rw [if_pos (by omega), if_neg (by omega), if_neg (by omega), if_neg (by omega), if_neg (by omega)]]; rfl) | (rw [show z_ v = .mk v.kind ⟨#[]⟩ v.num 0 [] [] from by unfold z_; rw [if_neg (by omega), if_pos (by omega), if_neg (by omega), if_neg (by omega), if_neg (by omega)]]; rfl) | (rw [show z_ v = .mk v.kind ⟨#[]⟩ 0 v.bits [] [] from by unfold z_; rw [if_neg (by omega), if_neg (by omega), if_pos (by omega), if_neg (by omega), if_neg (by omega)]]; rfl) | (rw [show z_ v = .mk v.kind ⟨#[]⟩ 0 0 v.list [] from by unfold z_; rw [if_neg (by omega), if_neg (by omega), if_neg (by omega), if_pos (by omega), if_neg (by omega)]]; rfl) | (rw [show z_ v = .mk v.kind ⟨#[]⟩ 0 0 [] v.map from by unfold z_; rw [if_neg (by omega), if_neg (by omega), if_neg (by omega), if_neg (by omega), if_pos (by omega)]]; rfl) | (rw [show z_ v = .mk v.kind ⟨#[]⟩ 0 0 [] [] from by unfold z_; rw [if_neg (by omega), if_neg (by omega), if_neg (by omega), if_neg (by omega), if_neg (by omega)]]; rfl))))⟩, trivial⟩
            · have q := beq_eq_false_iff_ne.1 hb10
              refine zD <| zB <| g_u (yn rfl rfl rfl) <| g_u (zE rfl rfl) <| zF <| zA ?_
              refine zN rfl (fun hb11 => ?_) (fun hb11 => ?_)
              · have q := beq_iff_eq.1 hb11
                refine zB <| g_u (zG rfl rfl vH rfl) <| g_u (zH rfl rfl rfl tA46 tS46 rfl rfl) <| g_u (zG rfl rfl vH rfl) <| g_u (zL rfl rfl rfl tS46 rfl rfl) <| zF <| zM <| zA <| zD <| zB <| g_u (zl rfl rfl rfl tA91 tS91 rfl rfl) <| g_u (zL rfl rfl rfl tS91 rfl rfl) <| zF <| zA <| zJ ?_
                exact ⟨⟨_, _, _, _, _, _, _, rfl, rfl, tA91, tS91, rfl, rfl, (rfl : toAV _ = some _).trans (congrArg some (by (first | (exfalso; omega) | (rw [show z_ v = .mk v.kind v.text 0 0 [] [] from by unfold z_; rw [if_pos (by omega), if_neg (by omega), if_neg (by omega), if_neg (by omega), if_neg (by omega)]]; rfl) | (rw [show z_ v = .mk v.kind ⟨#[]⟩ v.num 0 [] [] from by unfold z_; rw [if_neg (by omega), if_pos (by omega), if_neg (by omega), if_neg (by omega), if_neg (by omega)]]; rfl) | (rw [show z_ v = .mk v.kind ⟨#[]⟩ 0 v.bits [] [] from by unfold z_; rw [if_neg (by omega), if_neg (by omega), if_pos (by omega), if_neg (by omega), if_neg (by omega)]]; rfl) | (rw [show z_ v = .mk v.kind ⟨#[]⟩ 0 0 v.list [] from by unfold z_; rw [if_neg (by omega), if_neg (by omega), if_neg (by omega), if_pos (by omega), if_neg (by omega)]]; rfl) | (rw [show z_ v = .mk v.kind ⟨#[]⟩ 0 0 [] v.map from by unfold z_; rw [if_neg (by omega), if_neg (by omega), if_neg (by omega), if_neg (by omega), if_pos (by omega)]]; rfl) | (rw [show z_ v = .mk v.kind ⟨#[]⟩ 0 0 [] [] from by unfold z_; rw [if_neg (by omega), if_neg (by omega), if_neg (by omega), if_neg (by omega), if_neg (by omega)]]; rfl))))⟩, trivial⟩
              · have q := beq_eq_false_iff_ne.1 hb11
                refine zO <| zM <| zA <| zD <| zB <| g_u (zl rfl rfl rfl tA91 tS91 rfl rfl) <| g_u (zL rfl rfl rfl tS91 rfl rfl) <| zF <| zA <| zJ ?_
                exact ⟨⟨_, _, _, _, _, _, _, rfl, rfl, tA91, tS91, rfl, rfl, (rfl : toAV _ = some _).trans (congrArg some (by (first | (exfalso; omega) | (rw [show z_ v = .mk v.kind v.text 0 0 [] [] from by unfold z_; rw [if_pos (by omega), if_neg (by omega), if_neg (by omega), if_neg (by omega), if_neg (by omega)]]; rfl) | (rw [show z_ v = .mk v.kind ⟨#[]⟩ v.num 0 [] [] from by unfold z_; rw [if_neg (by omega), if_pos (by omega), if_neg (by omega), if_neg (by omega), if_neg (by omega)]]; rfl) | (rw [show z_ v = .mk v.kind ⟨#[]⟩ 0 v.bits [] [] from by unfold z_; rw [if_neg (by omega), if_neg (by omega), if_pos (by omega), if_neg (by omega), if_neg (by omega)]]; rfl) | (rw [show z_ v = .mk v.kind ⟨#[]⟩ 0 0 v.list [] from by unfold z_; rw [if_neg (by omega), if_neg (by omega), if_neg (by omega), if_pos (by omega), if_neg (by omega)]]; rfl) | (rw [show z_ v = .mk v.kind ⟨#[]⟩ 0 0 [] v.map from by unfold z_; rw [if_neg (by omega), if_neg (by omega), if_neg (by omega), if_neg (by omega), if_pos (by omega)]]; rfl) | (rw [show z_ v = .mk v.kind ⟨#[]⟩ 0 0 [] [] from by unfold z_; rw [if_neg (by omega), if_neg (by omega), if_neg (by omega), if_neg (by omega), if_neg (by omega)]]; rfl))))⟩, trivial⟩
  · have q := beq_eq_false_iff_ne.1 hb1
    refine zB <| g_u (yn rfl rfl rfl) <| g_u (zE rfl rfl) <| zF <| zA ?_
    refine zN rfl (fun hb12 => ?_) (fun hb12 => ?_)
    · have q := beq_iff_eq.1 hb12
      refine zB <| g_u (zG rfl rfl fa91_1 rfl) <| g_u (zH rfl rfl rfl tA9 tS9 rfl rfl) <| g_u (zG rfl rfl fa91_1 rfl) <| g_u (zL rfl rfl rfl tS9 rfl rfl) <| zF <| zM <| zA <| zD <| zB <| g_u (zl rfl rfl rfl tA91 tS91 rfl rfl) <| g_u (zL rfl rfl rfl tS91 rfl rfl) <| zF <| zA <| zJ ?_
      exact ⟨⟨_, _, _, _, _, _, _, rfl, rfl, tA91, tS91, rfl, rfl, (rfl : toAV _ = some _).trans (congrArg some (by (first | (exfalso; omega) | (rw [show z_ v = .mk v.kind v.text 0 0 [] [] from by unfold z_; rw [if_pos (by omega), if_neg (by omega), if_neg (by omega), if_neg (by omega), if_neg (by omega)]]; rfl) | (rw [show z_ v = .mk v.kind ⟨#[]⟩ v.num 0 [] [] from by unfold z_; rw [if_neg (by omega), if_pos (by omega), if_neg (by omega), if_neg (by omega), if_neg (by omega)]]; rfl) | (rw [show z_ v = .mk v.kind ⟨#[]⟩ 0 v.bits [] [] from by unfold z_; rw [if_neg (by omega), if_neg (by omega), if_pos (by omega), if_neg (by omega), if_neg (by omega)]]; rfl) | (rw [show z_ v = .mk v.kind ⟨#[]⟩ 0 0 v.list [] from by unfold z_; rw [if_neg (by omega), if_neg (by omega), if_neg (by omega), if_pos (by omega), if_neg (by omega)]]; rfl) | (rw [show z_ v = .mk v.kind ⟨#[]⟩ 0 0 [] v.map from by unfold z_; rw [if_neg (by omega), if_neg (by omega), if_neg (by omega), if_neg (by omega), if_pos (by omega)]]; rfl) | (rw [show z_ v = .mk v.kind ⟨#[]⟩ 0 0 [] [] from by unfold z_; rw [if_neg (by omega), if_neg (by omega), if_neg (by omega), if_neg (by omega), if_neg (by omega)]]; rfl))))⟩, trivial⟩
    · have q := beq_eq_false_iff_ne.1 hb12
      refine zD <| zD <| zB <| g_u (yn rfl rfl rfl) <| g_u (zE rfl rfl) <| zF <| zA ?_
      refine zN rfl (fun hb13 => ?_) (fun hb13 => ?_)
      · have q := beq_iff_eq.1 hb13
        refine zO <| zA ?_
        refine zN rfl (fun hb14 => ?_) (fun hb14 => ?_)
        · have q := beq_iff_eq.1 hb14
          refine zB <| g_u (zG rfl rfl fa91_2 rfl) <| g_u (zH rfl rfl rfl tA3 tS3 rfl rfl) <| g_u (zG rfl rfl fa91_2 rfl) <| g_u (zL rfl rfl rfl tS3 rfl rfl) <| zF <| zM <| zA <| zD <| zB <| g_u (zl rfl rfl rfl tA91 tS91 rfl rfl) <| g_u (zL rfl rfl rfl tS91 rfl rfl) <| zF <| zA <| zJ ?_
          exact ⟨⟨_, _, _, _, _, _, _, rfl, rfl, tA91, tS91, rfl, rfl, (rfl : toAV _ = some _).trans (congrArg some (by (first | (exfalso; omega) | (rw [show z_ v = .mk v.kind v.text 0 0 [] [] from by unfold z_; rw [if_pos (by omega), if_neg (by omega), if_neg (by omega), if_neg (by omega), if_neg (by omega)]]; rfl) | (rw [show z_ v = .mk v.kind ⟨#[]⟩ v.num 0 [] [] from by unfold z_; rw [if_neg (by omega), if_pos (by omega), if_neg (by omega), if_neg (by omega), if_neg (by omega)]]; rfl) | (rw [show z_ v = .mk v.kind ⟨#[]⟩ 0 v.bits [] [] from by unfold z_; rw [if_neg (by omega), if_neg (by omega), if_pos (by omega), if_neg (by omega), if_neg (by omega)]]; rfl) | (rw [show z_ v = .mk v.kind ⟨#[]⟩ 0 0 v.list [] from by unfold z_; rw [if_neg (by omega), if_neg (by omega), if_neg (by omega), if_pos (by omega), if_neg (by omega)]]; rfl) | (rw [show z_ v = .mk v.kind ⟨#[]⟩ 0 0 [] v.map from by unfold z_; rw [if_neg (by omega), if_neg (by omega), if_neg (by omega), if_neg (by omega), if_pos (by omega)]]; rfl) | (rw [show z_ v = .mk v.kind ⟨#[]⟩ 0 0 [] [] from by unfold z_; rw [if_neg (by omega), if_neg (by omega), if_neg (by omega), if_neg (by omega), if_neg (by omega)]]; rfl))))⟩, trivial⟩
        · have q := beq_eq_false_iff_ne.1 hb14
          refine zD <| zB <| g_u (yn rfl rfl rfl) <| g_u (zE rfl rfl) <| zF <| zA ?_
          refine zN rfl (fun hb15 => ?_) (fun hb15 => ?_)
          · have q := beq_iff_eq.1 hb15
            refine zB <| g_u (zG rfl rfl fa91_3 rfl) <| g_u (zH rfl rfl rfl tA45 tS45 rfl rfl) <| g_u (zG rfl rfl fa91_3 rfl) <| g_u (zL rfl rfl rfl tS45 rfl rfl) <| zF <| zM <| zA <| zD <| zB <| g_u (zl rfl rfl rfl tA91 tS91 rfl rfl) <| g_u (zL rfl rfl rfl tS91 rfl rfl) <| zF <| zA <| zJ ?_
            exact ⟨⟨_, _, _, _, _, _, _, rfl, rfl, tA91, tS91, rfl, rfl, (rfl : toAV _ = some _).trans (congrArg some (by (first | (exfalso; omega) | (rw [show z_ v = .mk v.kind v.text 0 0 [] [] from by unfold z_; rw [if_pos (by omega), if_neg (by omega), if_neg (by omega), if_neg (by omega), if_neg (by omega)]]; rfl) | (rw [show z_ v = .mk v.kind ⟨#[]⟩ v.num 0 [] [] from by unfold z_; rw [if_neg (by omega), if_pos (by omega), if_neg (by omega), if_neg (by omega), if_neg (by omega)]]; rfl) | (rw [show z_ v = .mk v.kind ⟨#[]⟩ 0 v.bits [] [] from by unfold z_; rw [if_neg (by omega), if_neg (by omega), if_pos (by omega), if_neg (by omega), if_neg (by omega)]]; rfl) | (rw [show z_ v = .mk v.kind ⟨#[]⟩ 0 0 v.list [] from by unfold z_; rw [if_neg (by omega), if_neg (by omega), if_neg (by omega), if_pos (by omega), if_neg (by omega)]]; rfl) | (rw [show z_ v = .mk v.kind ⟨#[]⟩ 0 0 [] v.map from by unfold z_; rw [if_neg (by omega), if_neg (by omega), if_neg (by omega), if_neg (by omega), if_pos (by omega)]]; rfl) | (rw [show z_ v = .mk v.kind ⟨#[]⟩ 0 0 [] [] from by unfold z_; rw [if_neg (by omega), if_neg (by omega), if_neg (by omega), if_neg (by omega), if_neg (by omega)]]; rfl))))⟩, trivial⟩
          · have q := beq_eq_false_iff_ne.1 hb15
            refine zD <| zB <| g_u (yn rfl rfl rfl) <| g_u (zE rfl rfl) <| zF <| zA ?_
            refine zN rfl (fun hb16 => ?_) (fun hb16 => ?_)
            · have q := beq_iff_eq.1 hb16
              refine zB <| g_u (zG rfl rfl vI rfl) <| g_u (zH rfl rfl rfl tA89 tS89 rfl rfl) <| g_u (zG rfl rfl vI rfl) <| g_u (zL rfl rfl rfl tS89 rfl rfl) <| zF <| zM <| zA <| zD <| zB <| g_u (zl rfl rfl rfl tA91 tS91 rfl rfl) <| g_u (zL rfl rfl rfl tS91 rfl rfl) <| zF <| zA <| zJ ?_
              exact ⟨⟨_, _, _, _, _, _, _, rfl, rfl, tA91, tS91, rfl, rfl, (rfl : toAV _ = some _).trans (congrArg some (by (first | (exfalso; omega) | (rw [show z_ v = .mk v.kind v.text 0 0 [] [] from by unfold z_; rw [if_pos (by omega), if_neg (by omega), if_neg (by omega), if_neg (by omega), if_neg (by omega)]]; rfl) | (rw [show z_ v = .mk v.kind ⟨#[]⟩ v.num 0 [] [] from by unfold z_; rw [if_neg (by omega), if_pos (by omega), if_neg (by omega), if_neg (by omega), if_neg (by omega)]]; rfl) | (rw [show z_ v = .mk v.kind ⟨#[]⟩ 0 v.bits [] [] from by unfold z_; rw [if_neg (by omega), if_neg (by omega), if_pos (by omega), if_neg (by omega), if_neg (by omega)]]; rfl) | (rw [show z_ v = .mk v.kind ⟨#[]⟩ 0 0 v.list [] from by unfold z_; rw [if_neg (by omega), if_neg (by omega), if_neg (by omega), if_pos (by omega), if_neg (by omega)]]; rfl) | (rw [show z_ v = .mk v.kind ⟨#[]⟩ 0 0 [] v.map from by unfold z_; rw [if_neg (by omega), if_neg (by omega), if_neg (by omega), if_neg (by omega), if_pos (by omega)]]; rfl) | (rw [show z_ v = .mk v.kind ⟨#[]⟩ 0 0 [] [] from by unfold z_; rw [if_neg (by omega), if_neg (by omega), if_neg (by omega), if_neg (by omega), if_neg (by omega)]]; rfl))))⟩, trivial⟩
            · have q := beq_eq_false_iff_ne.1 hb16
              refine zD <| zB <| g_u (yn rfl rfl rfl) <| g_u (zE rfl rfl) <| zF <| zA ?_
              refine zN rfl (fun hb17 => ?_) (fun hb17 => ?_)
              · have q := beq_iff_eq.1 hb17
                refine zB <| g_u (zG rfl rfl vH rfl) <| g_u (zH rfl rfl rfl tA46 tS46 rfl rfl) <| g_u (zG rfl rfl vH rfl) <| g_u (zL rfl rfl rfl tS46 rfl rfl) <| zF <| zM <| zA <| zD <| zB <| g_u (zl rfl rfl rfl tA91 tS91 rfl rfl) <| g_u (zL rfl rfl rfl tS91 rfl rfl) <| zF <| zA <| zJ ?_
                exact ⟨⟨_, _, _, _, _, _, _, rfl, rfl, tA91, tS91, rfl, rfl, (rfl : toAV _ = some _).trans (congrArg some (by (first | (exfalso; omega) | (rw [show z_ v = .mk v.kind v.text 0 0 [] [] from by unfold z_; rw [if_pos (by omega), if_neg (by omega), if_neg (by omega), if_neg (by omega), if_neg (by omega)]]; rfl) | (rw [show z_ v = .mk v.kind ⟨#[]⟩ v.num 0 [] [] from by unfold z_; rw [if_neg (by omega), if_pos (by omega), if_neg (by omega), if_neg (by omega), if_neg (by omega)]]; rfl) | (rw [show z_ v = .mk v.kind ⟨#[]⟩ 0 v.bits [] [] from by unfold z_; rw [if_neg (by omega), if_neg (by omega), if_pos (by omega), if_neg (by omega), if_neg (by omega)]]; rfl) | (rw [show z_ v = .mk v.kind ⟨#[]⟩ 0 0 v.list [] from by unfold z_; rw [if_neg (by omega), if_neg (by omega), if_neg (by omega), if_pos (by omega), if_neg (by omega)]]; rfl) | (rw [show z_ v = .mk v.kind ⟨#[]⟩ 0 0 [] v.map from by unfold z_; rw [if_neg (by omega), if_neg (by omega), if_neg (by omega), if_neg (by omega), if_pos (by omega)]]; rfl) | (rw [show z_ v = .mk v.kind ⟨#[]⟩ 0 0 [] [] from by unfold z_; rw [if_neg (by omega), if_neg (by omega), if_neg (by omega), if_neg (by omega), if_neg (by omega)]]; rfl))))⟩, trivial⟩
              · have q := beq_eq_false_iff_ne.1 hb17
                refine zO <| zM <| zA <| zD <| zB <| g_u (zl rfl rfl rfl tA91 tS91 rfl rfl) <| g_u (zL rfl rfl rfl tS91 rfl rfl) <| zF <| zA <| zJ ?_
                exact ⟨⟨_, _, _, _, _, _, _, rfl, rfl, tA91, tS91, rfl, rfl, (rfl : toAV _ = some _).trans (congrArg some (by (first | (exfalso; omega) | (rw [show z_ v = .mk v.kind v.text 0 0 [] [] from by unfold z_; rw [if_pos (by omega), if_neg (by omega), if_neg (by omega), if_neg (by omega), if_neg (by omega)]]; rfl) | (rw [show z_ v = .mk v.kind ⟨#[]⟩ v.num 0 [] [] from by unfold z_; rw [if_neg (by omega), if_pos (by omega), if_neg (by omega), if_neg (by omega), if_neg (by omega)]]; rfl) | (rw [show z_ v = .mk v.kind ⟨#[]⟩ 0 v.bits [] [] from by unfold z_; rw [if_neg (by omega), if_neg (by omega), if_pos (by omega), if_neg (by omega), if_neg (by omega)]]; rfl) | (rw [show z_ v = .mk v.kind ⟨#[]⟩ 0 0 v.list [] from by unfold z_; rw [if_neg (by omega), if_neg (by omega), if_neg (by omega), if_pos (by omega), if_neg (by omega)]]; rfl) | (rw [show z_ v = .mk v.kind ⟨#[]⟩ 0 0 [] v.map from by unfold z_; rw [if_neg (by omega), if_neg (by omega), if_neg (by omega), if_neg (by omega), if_pos (by omega)]]; rfl) | (rw [show z_ v = .mk v.kind ⟨#[]⟩ 0 0 [] [] from by unfold z_; rw [if_neg (by omega), if_neg (by omega), if_neg (by omega), if_neg (by omega), if_neg (by omega)]]; rfl))))⟩, trivial⟩
      · have q := beq_eq_false_iff_ne.1 hb13
        refine zB <| g_u (yn rfl rfl rfl) <| g_u (zE rfl rfl) <| zF <| zA ?_
        refine zN rfl (fun hb18 => ?_) (fun hb18 => ?_)
        · have q := beq_iff_eq.1 hb18
          refine zB <| g_u (zG rfl rfl fa91_2 rfl) <| g_u (zH rfl rfl rfl tA3 tS3 rfl rfl) <| g_u (zG rfl rfl fa91_2 rfl) <| g_u (zL rfl rfl rfl tS3 rfl rfl) <| zF <| zM <| zA <| zD <| zB <| g_u (zl rfl rfl rfl tA91 tS91 rfl rfl) <| g_u (zL rfl rfl rfl tS91 rfl rfl) <| zF <| zA <| zJ ?_
          exact ⟨⟨_, _, _, _, _, _, _, rfl, rfl, tA91, tS91, rfl, rfl, (rfl : toAV _ = some _).trans (congrArg some (by (first | (exfalso; omega) | (rw [show z_ v = .mk v.kind v.text 0 0 [] [] from by unfold z_; rw [if_pos (by omega), if_neg (by omega), if_neg (by omega), if_neg (by omega), if_neg (by omega)]]; rfl) | (rw [show z_ v = .mk v.kind ⟨#[]⟩ v.num 0 [] [] from by unfold z_; rw [if_neg (by omega), if_pos (by omega), if_neg (by omega), if_neg (by omega), if_neg (by omega)]]; rfl) | (rw [show z_ v = .mk v.kind ⟨#[]⟩ 0 v.bits [] [] from by unfold z_; rw [if_neg (by omega), if_neg (by omega), if_pos (by omega), if_neg (by omega), if_neg (by omega)]]; rfl) | (rw [show z_ v = .mk v.kind ⟨#[]⟩ 0 0 v.list [] from by unfold z_; rw [if_neg (by omega), if_neg (by omega), if_neg (by omega), if_pos (by omega), if_neg (by omega)]]; rfl) | (rw [show z_ v = .mk v.kind ⟨#[]⟩ 0 0 [] v.map from by unfold z_; rw [if_neg (by omega), if_neg (by omega), if_neg (by omega), if_neg (by omega), if_pos (by omega)]]; rfl) | (rw [show z_ v = .mk v.kind ⟨#[]⟩ 0 0 [] [] from by unfold z_; rw [if_neg (by omega), if_neg (by omega), if_neg (by omega), if_neg (by omega), if_neg (by omega)]]; rfl))))⟩, trivial⟩
        · have q := beq_eq_false_iff_ne.1 hb18
          refine zD <| zB <| g_u (yn rfl rfl rfl) <| g_u (zE rfl rfl) <| zF <| zA ?_
          refine zN rfl (fun hb19 => ?_) (fun hb19 => ?_)
          · have q := beq_iff_eq.1 hb19
            refine zB <| g_u (zG rfl rfl fa91_3 rfl) <| g_u (zH rfl rfl rfl tA45 tS45 rfl rfl) <| g_u (zG rfl rfl fa91_3 rfl) <| g_u (zL rfl rfl rfl tS45 rfl rfl) <| zF <| zM <| zA <| zD <| zB <| g_u (zl rfl rfl rfl tA91 tS91 rfl rfl) <| g_u (zL rfl rfl rfl tS91 rfl rfl) <| zF <| zA <| zJ ?_
            exact ⟨⟨_, _, _, _, _, _, _, rfl, rfl, tA91, tS91, rfl, rfl, (rfl : toAV _ = some _).trans (congrArg some (by (first | (exfalso; omega) | (rw [show z_ v = .mk v.kind v.text 0 0 [] [] from by unfold z_; rw [if_pos (by omega), if_neg (by omega), if_neg (by omega), if_neg (by omega), if_neg (by omega)]]; rfl) | (rw [show z_ v = .mk v.kind ⟨#[]⟩ v.num 0 [] [] from by unfold z_; rw [if_neg (by omega), if_pos (by omega), if_neg (by omega), if_neg (by omega), if_neg (by omega)]]; rfl) | (rw [show z_ v = .mk v.kind ⟨#[]⟩ 0 v.bits [] [] from by unfold z_; rw [if_neg (by omega), if_neg (by omega), if_pos (by omega), if_neg (by omega), if_neg (by omega)]]; rfl) | (rw [show z_ v = .mk v.kind ⟨#[]⟩ 0 0 v.list [] from by unfold z_; rw [if_neg (by omega), if_neg (by omega), if_neg (by omega), if_pos (by omega), if_neg (by omega)]]; rfl) | (rw [show z_ v = .mk v.kind ⟨#[]⟩ 0 0 [] v.map from by unfold z_; rw [if_neg (by omega), if_neg (by omega), if_neg (by omega), if_neg (by omega), if_pos (by omega)]]; rfl) | (rw [show z_ v = .mk v.kind ⟨#[]⟩ 0 0 [] [] from by unfold z_; rw [if_neg (by omega), if_neg (by omega), if_neg (by omega), if_neg (by omega), if_neg (by omega)]]; rfl))))⟩, trivial⟩
          · have q := beq_eq_false_iff_ne.1 hb19
            refine zD <| zB <| g_u (yn rfl rfl rfl) <| g_u (zE rfl rfl) <| zF <| zA ?_
            refine zN rfl (fun hb20 => ?_) (fun hb20 => ?_)
            · have q := beq_iff_eq.1 hb20
              refine zB <| g_u (zG rfl rfl vI rfl) <| g_u (zH rfl rfl rfl tA89 tS89 rfl rfl) <| g_u (zG rfl rfl vI rfl) <| g_u (zL rfl rfl rfl tS89 rfl rfl) <| zF <| zM <| zA <| zD <| zB <| g_u (zl rfl rfl rfl tA91 tS91 rfl rfl) <| g_u (zL rfl rfl rfl tS91 rfl rfl) <| zF <| zA <| zJ ?_
              exact ⟨⟨_, _, _, _, _, _, _, rfl, rfl, tA91, tS91, rfl, rfl, (rfl : toAV _ = some _).trans (congrArg some (by (first | (exfalso; omega) | (rw [show z_ v = .mk v.kind v.text 0 0 [] [] from by unfold z_; rw [if_pos (by omega), if_neg (by omega), if_neg (by omega), if_neg (by omega), if_neg (by omega)]]; rfl) | (rw [show z_ v = .mk v.kind ⟨#[]⟩ v.num 0 [] [] from by unfold z_; rw [if_neg (by omega), if_pos (by omega), if_neg (by omega), if_neg (by omega), if_neg (by omega)]]; rfl) | (rw [show z_ v = .mk v.kind ⟨#[]⟩ 0 v.bits [] [] from by unfold z_; rw [if_neg (by omega), if_neg (by omega), if_pos (by omega), if_neg (by omega), if_neg (by omega)]]; rfl) | (rw [show z_ v = .mk v.kind ⟨#[]⟩ 0 0 v.list [] from by unfold z_; rw [if_neg (by omega), if_neg (by omega), if_neg (by omega), if_pos (by omega), if_neg (by omega)]]; rfl) | (rw [show z_ v = .mk v.kind ⟨#[]⟩ 0 0 [] v.map from by unfold z_; rw [if_neg (by omega), if_neg (by omega), if_neg (by omega), if_neg (by omega), if_pos (by omega)]]; rfl) | (rw [show z_ v = .mk v.kind ⟨#[]⟩ 0 0 [] [] from by unfold z_; rw [if_neg (by omega), if_neg (by omega), if_neg (by omega), if_neg (by omega), if_neg (by omega)]]; rfl))))⟩, trivial⟩
            · have q := beq_eq_false_iff_ne.1 hb20
              refine zD <| zB <| g_u (yn rfl rfl rfl) <| g_u (zE rfl rfl) <| zF <| zA ?_
              refine zN rfl (fun hb21 => ?_) (fun hb21 => ?_)
              · have q := beq_iff_eq.1 hb21
                refine zB <| g_u (zG rfl rfl vH rfl) <| g_u (zH rfl rfl rfl tA46 tS46 rfl rfl) <| g_u (zG rfl rfl vH rfl) <| g_u (zL rfl rfl rfl tS46 rfl rfl) <| zF <| zM <| zA <| zD <| zB <| g_u (zl rfl rfl rfl tA91 tS91 rfl rfl) <| g_u (zL rfl rfl rfl tS91 rfl rfl) <| zF <| zA <| zJ ?_
                exact ⟨⟨_, _, _, _, _, _, _, rfl, rfl, tA91, tS91, rfl, rfl, (rfl : toAV _ = some _).trans (congrArg some (by (first | (exfalso; omega) | (rw [show z_ v = .mk v.kind v.text 0 0 [] [] from by unfold z_; rw [if_pos (by omega), if_neg (by omega), if_neg (by omega), if_neg (by omega), if_neg (by omega)]]; rfl) | (rw [show z_ v = .mk v.kind ⟨#[]⟩ v.num 0 [] [] from by unfold z_; rw [if_neg (by omega), if_pos (by omega), if_neg (by omega), if_neg (by omega), if_neg (by omega)]]; rfl) | (rw [show z_ v = .mk v.kind ⟨#[]⟩ 0 v.bits [] [] from by unfold z_; rw [if_neg (by omega), if_neg (by omega), if_pos (by omega), if_neg (by omega), if_neg (by omega)]]; rfl) | (rw [show z_ v = .mk v.kind ⟨#[]⟩ 0 0 v.list [] from by unfold z_; rw [if_neg (by omega), if_neg (by omega), if_neg (by omega), if_pos (by omega), if_neg (by omega)]]; rfl) | (rw [show z_ v = .mk v.kind ⟨#[]⟩ 0 0 [] v.map from by unfold z_; rw [if_neg (by omega), if_neg (by omega), if_neg (by omega), if_neg (by omega), if_pos (by omega)]]; rfl) | (rw [show z_ v = .mk v.kind ⟨#[]⟩ 0 0 [] [] from by unfold z_; rw [if_neg (by omega), if_neg (by omega), if_neg (by omega), if_neg (by omega), if_neg (by omega)]]; rfl))))⟩, trivial⟩
              · have q := beq_eq_false_iff_ne.1 hb21
                refine zO <| zM <| zA <| zD <| zB <| g_u (zl rfl rfl rfl tA91 tS91 rfl rfl) <| g_u (zL rfl rfl rfl tS91 rfl rfl) <| zF <| zA <| zJ ?_
                exact ⟨⟨_, _, _, _, _, _, _, rfl, rfl, tA91, tS91, rfl, rfl, (rfl : toAV _ = some _).trans (congrArg some (by (first | (exfalso; omega) | (rw [show z_ v = .mk v.kind v.text 0 0 [] [] from by unfold z_; rw [if_pos (by omega), if_neg (by omega), if_neg (by omega), if_neg (by omega), if_neg (by omega)]]; rfl) | (rw [show z_ v = .mk v.kind ⟨#[]⟩ v.num 0 [] [] from by unfold z_; rw [if_neg (by omega), if_pos (by omega), if_neg (by omega), if_neg (by omega), if_neg (by omega)]]; rfl) | (rw [show z_ v = .mk v.kind ⟨#[]⟩ 0 v.bits [] [] from by unfold z_; rw [if_neg (by omega), if_neg (by omega), if_pos (by omega), if_neg (by omega), if_neg (by omega)]]; rfl) | (rw [show z_ v = .mk v.kind ⟨#[]⟩ 0 0 v.list [] from by unfold z_; rw [if_neg (by omega), if_neg (by omega), if_neg (by omega), if_pos (by omega), if_neg (by omega)]]; rfl) | (rw [show z_ v = .mk v.kind ⟨#[]⟩ 0 0 [] v.map from by unfold z_; rw [if_neg (by omega), if_neg (by omega), if_neg (by omega), if_neg (by omega), if_pos (by omega)]]; rfl) | (rw [show z_ v = .mk v.kind ⟨#[]⟩ 0 0 [] [] from by unfold z_; rw [if_neg (by omega), if_neg (by omega), if_neg (by omega), if_neg (by omega), if_neg (by omega)]]; rfl))))⟩, trivial⟩
theorem more_c (v : GV) : zj Tryz.prog Γ0 175 [v.av] [bv (!emptyV v)] := by
  refine zb Tryz.func175 rfl Tryz.ntmps175 (by kernel_rfl) rfl fun w0 I0 G0 => ?_
  refine zD <| zB <| g_uG (zi 1001 rfl rfl rfl rfl) rfl <| g_u (zE rfl rfl) <| zF <| zA <| zD <| zB <| g_u (zH rfl rfl rfl tA91 tS91 rfl rfl) <| g_u (zT (bare_c _) rfl rfl) <| g_uG (zo 1003 rfl rfl rfl tZ91) rfl <| g_u (zL rfl rfl rfl tS91 rfl rfl) <| zF <| zA <| zD <| zB <| g_u (zG rfl rfl fa91_1 rfl) <| g_u (zH rfl rfl rfl tA9 tS9 rfl rfl) <| g_u (zG rfl rfl fa91_1 rfl) <| g_u (zH rfl rfl rfl tA9 tS9 rfl rfl) <| g_u (s_neS rfl rfl rfl) <| g_u (zC rfl rfl) <| zz (t := 11) rfl ?_
  rintro (hb1 | hb1)
  · rw [hb1]
    refine zI rfl rfl rfl <| zI rfl rfl rfl <| zI rfl rfl rfl <| zI rfl rfl rfl <| zI rfl rfl rfl <| g_u (zX rfl rfl rfl) <| g_u (zC rfl rfl) <| zI rfl rfl rfl <| zI rfl rfl rfl <| zI rfl rfl rfl <| zI rfl rfl rfl <| zI rfl rfl rfl <| g_u (zX rfl rfl rfl) <| g_u (zC rfl rfl) <| zI rfl rfl rfl <| zI rfl rfl rfl <| zI rfl rfl rfl <| zI rfl rfl rfl <| zI rfl rfl rfl <| zI rfl rfl rfl <| zI rfl rfl rfl <| g_u (zX rfl rfl rfl) <| g_u (zC rfl rfl) <| zI rfl rfl rfl <| zI rfl rfl rfl <| zI rfl rfl rfl <| zI rfl rfl rfl <| zI rfl rfl rfl <| zI rfl rfl rfl <| zI rfl rfl rfl <| g_u (zX rfl rfl rfl) <| g_u (zE rfl rfl) <| zF <| zA <| zJ ?_
    exact ⟨⟨(rfl : toAV (Al.look _ _) = some _).trans (congrArg some (by (exact congrArg bv (by (try simp only [List.length_map] at *); rw [← more_eq]; unfold moreM; simp [*])))), rfl⟩, trivial⟩
  · rw [hb1]
    refine zP rfl rfl (zG rfl rfl fa91_2 rfl) <| zP rfl rfl (zH rfl rfl rfl tA3 tS3 rfl rfl) <| zP rfl rfl (zG rfl rfl fa91_2 rfl) <| zP rfl rfl (zH rfl rfl rfl tA3 tS3 rfl rfl) <| zP rfl rfl (xG rfl rfl rfl) <| g_u (zg rfl rfl rfl) <| g_u (zC rfl rfl) <| zz (t := 18) rfl ?_
    rintro (hb2 | hb2)
    · rw [hb2]
      refine zI rfl rfl rfl <| zI rfl rfl rfl <| zI rfl rfl rfl <| zI rfl rfl rfl <| zI rfl rfl rfl <| g_u (zX rfl rfl rfl) <| g_u (zC rfl rfl) <| zI rfl rfl rfl <| zI rfl rfl rfl <| zI rfl rfl rfl <| zI rfl rfl rfl <| zI rfl rfl rfl <| zI rfl rfl rfl <| zI rfl rfl rfl <| g_u (zX rfl rfl rfl) <| g_u (zC rfl rfl) <| zI rfl rfl rfl <| zI rfl rfl rfl <| zI rfl rfl rfl <| zI rfl rfl rfl <| zI rfl rfl rfl <| zI rfl rfl rfl <| zI rfl rfl rfl <| g_u (zX rfl rfl rfl) <| g_u (zE rfl rfl) <| zF <| zA <| zJ ?_
      exact ⟨⟨(rfl : toAV (Al.look _ _) = some _).trans (congrArg some (by (exact congrArg bv (by (try simp only [List.length_map] at *); rw [← more_eq]; unfold moreM; simp [*])))), rfl⟩, trivial⟩
    · rw [hb2]
      refine zP rfl rfl (zG rfl rfl fa91_3 rfl) <| zP rfl rfl (zH rfl rfl rfl tA45 tS45 rfl rfl) <| zP rfl rfl (zG rfl rfl fa91_3 rfl) <| zP rfl rfl (zH rfl rfl rfl tA45 tS45 rfl rfl) <| zP rfl rfl (xG rfl rfl rfl) <| g_u (zg rfl rfl rfl) <| g_u (zC rfl rfl) <| zz (t := 25) rfl ?_
      rintro (hb3 | hb3)
      · rw [hb3]
        refine zI rfl rfl rfl <| zI rfl rfl rfl <| zI rfl rfl rfl <| zI rfl rfl rfl <| zI rfl rfl rfl <| zI rfl rfl rfl <| zI rfl rfl rfl <| g_u (zX rfl rfl rfl) <| g_u (zC rfl rfl) <| zI rfl rfl rfl <| zI rfl rfl rfl <| zI rfl rfl rfl <| zI rfl rfl rfl <| zI rfl rfl rfl <| zI rfl rfl rfl <| zI rfl rfl rfl <| g_u (zX rfl rfl rfl) <| g_u (zE rfl rfl) <| zF <| zA <| zJ ?_
        exact ⟨⟨(rfl : toAV (Al.look _ _) = some _).trans (congrArg some (by (exact congrArg bv (by (try simp only [List.length_map] at *); rw [← more_eq]; unfold moreM; simp [*])))), rfl⟩, trivial⟩
      · rw [hb3]
        refine zP rfl rfl (zG rfl rfl vI rfl) <| zP rfl rfl (zH rfl rfl rfl tA89 tS89 rfl rfl) <| zP rfl rfl (zx rfl rfl Tryz.underlying89) <| zP rfl rfl (zG rfl rfl vI rfl) <| zP rfl rfl (zH rfl rfl rfl tA89 tS89 rfl rfl) <| zP rfl rfl (zx rfl rfl Tryz.underlying89) <| zP rfl rfl (xG rfl rfl rfl) <| g_u (zg rfl rfl rfl) <| g_u (zC rfl rfl) <| zz (t := 34) rfl ?_
        rintro (hb4 | hb4)
        · rw [hb4]
          refine zI rfl rfl rfl <| zI rfl rfl rfl <| zI rfl rfl rfl <| zI rfl rfl rfl <| zI rfl rfl rfl <| zI rfl rfl rfl <| zI rfl rfl rfl <| g_u (zX rfl rfl rfl) <| g_u (zE rfl rfl) <| zF <| zA <| zJ ?_
          exact ⟨⟨(rfl : toAV (Al.look _ _) = some _).trans (congrArg some (by (exact congrArg bv (by (try simp only [List.length_map] at *); rw [← more_eq]; unfold moreM; simp [*])))), rfl⟩, trivial⟩
        · rw [hb4]
          refine zP rfl rfl (zG rfl rfl vH rfl) <| zP rfl rfl (zH rfl rfl rfl tA46 tS46 rfl rfl) <| zP rfl rfl (zx rfl rfl Tryz.underlying46) <| zP rfl rfl (zG rfl rfl vH rfl) <| zP rfl rfl (zH rfl rfl rfl tA46 tS46 rfl rfl) <| zP rfl rfl (zx rfl rfl Tryz.underlying46) <| zP rfl rfl (xG rfl rfl rfl) <| g_u (zg rfl rfl rfl) <| g_u (zE rfl rfl) <| zF <| zA <| zJ ?_
          exact ⟨⟨(rfl : toAV (Al.look _ _) = some _).trans (congrArg some (by (exact congrArg bv (by (try simp only [List.length_map] at *); rw [← more_eq]; unfold moreM; simp [*])))), rfl⟩, trivial⟩
theorem holds_c (v : GV) : zj Tryz.prog Γ0 176 [v.av] [bv (v.kind == 6 || v.kind == 7)] := by
  refine zb Tryz.func176 rfl Tryz.ntmps176 (by kernel_rfl) rfl fun w0 I0 G0 => ?_
  refine zD <| zB <| g_uG (zi 1001 rfl rfl rfl rfl) rfl <| g_u (zE rfl rfl) <| zF <| zA <| zD <| zB <| g_u (zG rfl rfl fa91_0 rfl) <| g_u (zH rfl rfl rfl tA5 tS5 rfl rfl) <| g_u (yn rfl rfl rfl) <| g_u (zC rfl rfl) <| zz (t := 6) rfl ?_
  rintro (hb1 | hb1)
  · rw [hb1]
    refine zI rfl rfl rfl <| zI rfl rfl rfl <| zI rfl rfl rfl <| g_u (zX rfl rfl rfl) <| g_u (zE rfl rfl) <| zF <| zA <| zJ ?_
    exact ⟨⟨(rfl : toAV (Al.look _ _) = some _).trans (congrArg some (by (exact congrArg bv (by simp [*])))), rfl⟩, trivial⟩
  · rw [hb1]
    refine zP rfl rfl (zG rfl rfl fa91_0 rfl) <| zP rfl rfl (zH rfl rfl rfl tA5 tS5 rfl rfl) <| zP rfl rfl (yn rfl rfl rfl) <| g_u (zg rfl rfl rfl) <| g_u (zE rfl rfl) <| zF <| zA <| zJ ?_
    exact ⟨⟨(rfl : toAV (Al.look _ _) = some _).trans (congrArg some (by (exact congrArg bv (by simp [*])))), rfl⟩, trivial⟩
set_option maxHeartbeats 2000000 in
theorem entC_st (l : List GA) (d : Int) (hd : 0 ≤ d ∧ d + wtAs l ≤ 1000000000) (ih : ∀ a ∈ l, ∀ d : Int, 0 ≤ d ∧ d + a.val.wt ≤ 1000000000 → zj Tryz.prog Γ0 114 [a.val.av, iv d] [iv (xr d a.val)]) : zj Tryz.prog Γ0 81 [.sl 7 (l.map avA), iv d] [iv (entC d none l)] := by
  refine zb Tryz.func81 rfl Tryz.ntmps81 (by kernel_rfl) rfl fun w0 I0 G0 => ?_
  refine zD <| zB <| g_u (zE rfl rfl) <| zF <| zA <| zD <| zD <| zB <| g_u (zC rfl rfl) <| g_u (zx rfl rfl Tryz.underlying46) <| g_u (zC rfl rfl) <| zF <| zA <| zQ ?_
  refine zs (fun i : Nat => [(0, .imm (.sl 7 (l.map avA))), (1, .imm (iv d)), (8, .imm (.sl 7 (l.map avA))), (9, .imm (iv (l.length : Int))), (10, .imm (iv (i : Int)))]) (fun i => i ≤ l.length ∧ entC d none l = entC d (prevOf l i) (l.drop i)) (fun i => l.length - i) (0) ?_ ⟨rfl, rfl, rfl, zV rfl (by rw [List.length_map]), rfl, trivial⟩ ?_
  · exact ⟨Nat.zero_le _, rfl⟩
  · rintro i ⟨h1, h2⟩; (try dsimp only at h1 h2)
    refine zD <| zB <| g_u (yU rfl rfl rfl) <| zF <| zA <| zD ?_
    refine zN rfl (fun hb1 => ?_) (fun hb1 => ?_)
    · have hi : i < l.length := by have := of_decide_eq_true hb1; (try simp only [List.length_map] at this); omega
      have hw1 := wM (xm hi)
      have hw2 := (nthA l i).wt_eq
      have E := entC_drop d hi
      have ll := yr l
      refine zO <| zA <| zD <| zQ <| zD <| zB <| g_u (zC rfl rfl) ?_
      refine g_u (za rfl rfl rfl Tryz.underlying46 tS93 (by omega) (ixA hi)) ?_
      refine g_u (zW rfl rfl tA93 tS93 rfl rfl) <| g_uG (zo 1006 rfl rfl rfl tZ93) rfl <| g_u (zE rfl rfl) <| g_u (zL rfl rfl rfl tS93 rfl rfl) <| zF <| zA <| zD <| zB <| g_u (zG rfl rfl fa93_0 rfl) <| g_u (zH rfl rfl rfl tA9 tS9 rfl rfl) ?_
      refine g_u (zT (keyP_c _ (by omega)) rfl rfl) ?_
      refine g_u (zE rfl rfl) <| zF <| zA <| zD <| zD <| yw mixed <| g_u (zC rfl rfl) <| g_u (yn rfl rfl rfl) <| g_u (zC rfl rfl) <| zz (t := 20) rfl ?_
      rintro (hb2 | hb2)
      · rw [hb2]
        have q := beq_iff_eq.1 hb2
        refine zP rfl rfl (zC rfl rfl) <| zP rfl rfl (wl rfl rfl rfl) <| g_u (zX rfl rfl rfl) <| g_u (zC rfl rfl) <| zz (t := 24) rfl ?_
        rintro (hb3 | hb3)
        · rw [hb3]
          have hi0 : i ≠ 0 := by have := of_decide_eq_true hb3; omega
          have hm : i - 1 < l.length := by omega
          have em : IntKind.i64.wrap ((i : Int) - 1) = ((i - 1 : Nat) : Int) := by rw [zZ (by omega) (by omega)]; omega
          refine zP rfl rfl (zC rfl rfl) <| zP rfl rfl (zC rfl rfl) <| zP rfl rfl (s_sub rfl rfl rfl) ?_
          refine zP rfl rfl (za rfl rfl rfl Tryz.underlying46 tS93 (by rw [em]; omega) ((congrArg (fun z : Int => (l.map avA)[z.toNat]?) em).trans (ixA hm))) ?_
          refine zP rfl rfl (zY rfl rfl fa93_0 rfl rfl) <| zP rfl rfl (zW rfl rfl tA9 tS9 rfl rfl) <| zP rfl rfl (zG rfl rfl fa93_0 rfl) <| zP rfl rfl (zH rfl rfl rfl tA9 tS9 rfl rfl) <| zP rfl rfl (s_geS rfl rfl rfl) <| g_u (zX rfl rfl rfl) ?_
          refine zF ⟨by kernel_rfl, ?_⟩
          refine zA ?_
          refine zN rfl (fun hb4 => ?_) (fun hb4 => ?_)
          · have pb : prevBad (prevOf l i) (nthA l i).key = true := by rw [prevBad_pos hi0, ← less_eq]; exact hb4
            refine zB <| g_u (zE rfl rfl) <| zF <| zA <| zD <| zD <| zB <| g_u (zC rfl rfl) <| g_u (yn rfl rfl rfl) <| zF <| zA ?_
            refine zN rfl (fun hb5 => ?_) (fun hb5 => ?_)
            · have q := beq_iff_eq.1 hb5
              refine zB <| g_u (zG rfl rfl fa93_1 rfl) <| g_u (zH rfl rfl rfl tA91 tS91 rfl rfl) <| g_u (zC rfl rfl) ?_
              refine g_u (zT (ih _ (xm hi) d ⟨by omega, by omega⟩) rfl rfl) ?_
              refine g_u (zE rfl rfl) <| zF <| zA <| zD <| zB <| g_u (zC rfl rfl) <| g_u (xG rfl rfl rfl) <| zF <| zA ?_
              refine zN rfl (fun hb6 => ?_) (fun hb6 => ?_)
              · have q := qc.1 hb6
                refine zD <| zB <| g_u (zC rfl rfl) <| g_u (zE rfl rfl) <| zF <| zA <| zJ <| ze <| zK <| zK <| ze <| zK ?_
                exact ⟨⟨(rfl : toAV (Al.look _ _) = some _).trans (congrArg some (by (exact congrArg iv (by first | (exfalso; omega) | (rw [h2, hin, List.drop_length]; rfl) | (rw [h2, E, yP _ _ (by omega)]; done) | (rw [h2, E, z6 _ _ (by omega), if_pos pb]; done) | (rw [h2, E, z6 _ _ (by omega), if_neg (by rw [pb]; decide), yP _ _ (by omega)]; done))))), rfl⟩, trivial⟩
              · have q := qd.1 hb6
                refine zO <| zM <| zA <| zB <| g_u (yB rfl rfl rfl) <| g_u (zC rfl rfl) <| zF <| zA ?_
                first | (exfalso; omega) | refine ⟨i + 1, ⟨hi, by (try dsimp only); rw [h2, E, z6 _ _ (by omega), if_neg (by rw [pb]; decide), z6 _ _ (by omega)]⟩, ⟨rfl, rfl, rfl, rfl, zV rfl (by rw [zZ (by omega) (by omega)]; rfl), trivial⟩, by (try dsimp only); omega⟩
            · have q := beq_eq_false_iff_ne.1 hb5
              refine zO <| zA <| zD <| zB <| g_u (zC rfl rfl) <| g_u (xG rfl rfl rfl) <| zF <| zA ?_
              refine zN rfl (fun hb7 => ?_) (fun hb7 => ?_)
              · have q := qc.1 hb7
                refine zD <| zB <| g_u (zC rfl rfl) <| g_u (zE rfl rfl) <| zF <| zA <| zJ <| ze <| zK <| zK <| ze <| zK ?_
                exact ⟨⟨(rfl : toAV (Al.look _ _) = some _).trans (congrArg some (by (exact congrArg iv (by first | (exfalso; omega) | (rw [h2, hin, List.drop_length]; rfl) | (rw [h2, E, yP _ _ (by omega)]; done) | (rw [h2, E, z6 _ _ (by omega), if_pos pb]; done) | (rw [h2, E, z6 _ _ (by omega), if_neg (by rw [pb]; decide), yP _ _ (by omega)]; done))))), rfl⟩, trivial⟩
              · have q := qd.1 hb7
                refine zO <| zM <| zA <| zB <| g_u (yB rfl rfl rfl) <| g_u (zC rfl rfl) <| zF <| zA ?_
                first | (exfalso; omega) | refine ⟨i + 1, ⟨hi, by (try dsimp only); rw [h2, E, z6 _ _ (by omega), if_neg (by rw [pb]; decide), z6 _ _ (by omega)]⟩, ⟨rfl, rfl, rfl, rfl, zV rfl (by rw [zZ (by omega) (by omega)]; rfl), trivial⟩, by (try dsimp only); omega⟩
          · have pb : prevBad (prevOf l i) (nthA l i).key = false := by rw [prevBad_pos hi0, ← less_eq]; exact hb4
            refine zO <| zA <| zD <| zD <| zB <| g_u (zC rfl rfl) <| g_u (yn rfl rfl rfl) <| zF <| zA ?_
            refine zN rfl (fun hb8 => ?_) (fun hb8 => ?_)
            · have q := beq_iff_eq.1 hb8
              refine zB <| g_u (zG rfl rfl fa93_1 rfl) <| g_u (zH rfl rfl rfl tA91 tS91 rfl rfl) <| g_u (zC rfl rfl) ?_
              refine g_u (zT (ih _ (xm hi) d ⟨by omega, by omega⟩) rfl rfl) ?_
              refine g_u (zE rfl rfl) <| zF <| zA <| zD <| zB <| g_u (zC rfl rfl) <| g_u (xG rfl rfl rfl) <| zF <| zA ?_
              refine zN rfl (fun hb9 => ?_) (fun hb9 => ?_)
              · have q := qc.1 hb9
                refine zD <| zB <| g_u (zC rfl rfl) <| g_u (zE rfl rfl) <| zF <| zA <| zJ <| ze <| zK <| zK <| ze <| zK ?_
                exact ⟨⟨(rfl : toAV (Al.look _ _) = some _).trans (congrArg some (by (exact congrArg iv (by first | (exfalso; omega) | (rw [h2, hin, List.drop_length]; rfl) | (rw [h2, E, yP _ _ (by omega)]; done) | (rw [h2, E, z6 _ _ (by omega), if_pos pb]; done) | (rw [h2, E, z6 _ _ (by omega), if_neg (by rw [pb]; decide), yP _ _ (by omega)]; done))))), rfl⟩, trivial⟩
              · have q := qd.1 hb9
                refine zO <| zM <| zA <| zB <| g_u (yB rfl rfl rfl) <| g_u (zC rfl rfl) <| zF <| zA ?_
                first | (exfalso; omega) | refine ⟨i + 1, ⟨hi, by (try dsimp only); rw [h2, E, z6 _ _ (by omega), if_neg (by rw [pb]; decide), z6 _ _ (by omega)]⟩, ⟨rfl, rfl, rfl, rfl, zV rfl (by rw [zZ (by omega) (by omega)]; rfl), trivial⟩, by (try dsimp only); omega⟩
            · have q := beq_eq_false_iff_ne.1 hb8
              refine zO <| zA <| zD <| zB <| g_u (zC rfl rfl) <| g_u (xG rfl rfl rfl) <| zF <| zA ?_
              refine zN rfl (fun hb10 => ?_) (fun hb10 => ?_)
              · have q := qc.1 hb10
                refine zD <| zB <| g_u (zC rfl rfl) <| g_u (zE rfl rfl) <| zF <| zA <| zJ <| ze <| zK <| zK <| ze <| zK ?_
                exact ⟨⟨(rfl : toAV (Al.look _ _) = some _).trans (congrArg some (by (exact congrArg iv (by first | (exfalso; omega) | (rw [h2, hin, List.drop_length]; rfl) | (rw [h2, E, yP _ _ (by omega)]; done) | (rw [h2, E, z6 _ _ (by omega), if_pos pb]; done) | (rw [h2, E, z6 _ _ (by omega), if_neg (by rw [pb]; decide), yP _ _ (by omega)]; done))))), rfl⟩, trivial⟩
              · have q := qd.1 hb10
                refine zO <| zM <| zA <| zB <| g_u (yB rfl rfl rfl) <| g_u (zC rfl rfl) <| zF <| zA ?_
                first | (exfalso; omega) | refine ⟨i + 1, ⟨hi, by (try dsimp only); rw [h2, E, z6 _ _ (by omega), if_neg (by rw [pb]; decide), z6 _ _ (by omega)]⟩, ⟨rfl, rfl, rfl, rfl, zV rfl (by rw [zZ (by omega) (by omega)]; rfl), trivial⟩, by (try dsimp only); omega⟩
        · rw [hb3]
          have hi0 : i = 0 := by have := of_decide_eq_false hb3; omega
          have pb : prevBad (prevOf l i) (nthA l i).key = false := by unfold prevOf; rw [if_pos hi0]; rfl
          refine zI rfl rfl rfl <| zI rfl rfl rfl <| zI rfl rfl rfl <| zI rfl rfl rfl <| zI rfl rfl rfl <| zI rfl rfl rfl <| zI rfl rfl rfl <| zI rfl rfl rfl <| zI rfl rfl rfl <| g_u (zg rfl rfl rfl) ?_
          refine zF ⟨by kernel_rfl, ?_⟩
          refine zA <| zd rfl <| zO <| zA <| zD <| zD <| zB <| g_u (zC rfl rfl) <| g_u (yn rfl rfl rfl) <| zF <| zA ?_
          refine zN rfl (fun hb11 => ?_) (fun hb11 => ?_)
          · have q := beq_iff_eq.1 hb11
            refine zB <| g_u (zG rfl rfl fa93_1 rfl) <| g_u (zH rfl rfl rfl tA91 tS91 rfl rfl) <| g_u (zC rfl rfl) ?_
            refine g_u (zT (ih _ (xm hi) d ⟨by omega, by omega⟩) rfl rfl) ?_
            refine g_u (zE rfl rfl) <| zF <| zA <| zD <| zB <| g_u (zC rfl rfl) <| g_u (xG rfl rfl rfl) <| zF <| zA ?_
            refine zN rfl (fun hb12 => ?_) (fun hb12 => ?_)
            · have q := qc.1 hb12
              refine zD <| zB <| g_u (zC rfl rfl) <| g_u (zE rfl rfl) <| zF <| zA <| zJ <| ze <| zK <| zK <| ze <| zK ?_
              exact ⟨⟨(rfl : toAV (Al.look _ _) = some _).trans (congrArg some (by (exact congrArg iv (by first | (exfalso; omega) | (rw [h2, hin, List.drop_length]; rfl) | (rw [h2, E, yP _ _ (by omega)]; done) | (rw [h2, E, z6 _ _ (by omega), if_pos pb]; done) | (rw [h2, E, z6 _ _ (by omega), if_neg (by rw [pb]; decide), yP _ _ (by omega)]; done))))), rfl⟩, trivial⟩
            · have q := qd.1 hb12
              refine zO <| zM <| zA <| zB <| g_u (yB rfl rfl rfl) <| g_u (zC rfl rfl) <| zF <| zA ?_
              first | (exfalso; omega) | refine ⟨i + 1, ⟨hi, by (try dsimp only); rw [h2, E, z6 _ _ (by omega), if_neg (by rw [pb]; decide), z6 _ _ (by omega)]⟩, ⟨rfl, rfl, rfl, rfl, zV rfl (by rw [zZ (by omega) (by omega)]; rfl), trivial⟩, by (try dsimp only); omega⟩
          · have q := beq_eq_false_iff_ne.1 hb11
            refine zO <| zA <| zD <| zB <| g_u (zC rfl rfl) <| g_u (xG rfl rfl rfl) <| zF <| zA ?_
            refine zN rfl (fun hb13 => ?_) (fun hb13 => ?_)
            · have q := qc.1 hb13
              refine zD <| zB <| g_u (zC rfl rfl) <| g_u (zE rfl rfl) <| zF <| zA <| zJ <| ze <| zK <| zK <| ze <| zK ?_
              exact ⟨⟨(rfl : toAV (Al.look _ _) = some _).trans (congrArg some (by (exact congrArg iv (by first | (exfalso; omega) | (rw [h2, hin, List.drop_length]; rfl) | (rw [h2, E, yP _ _ (by omega)]; done) | (rw [h2, E, z6 _ _ (by omega), if_pos pb]; done) | (rw [h2, E, z6 _ _ (by omega), if_neg (by rw [pb]; decide), yP _ _ (by omega)]; done))))), rfl⟩, trivial⟩
            · have q := qd.1 hb13
              refine zO <| zM <| zA <| zB <| g_u (yB rfl rfl rfl) <| g_u (zC rfl rfl) <| zF <| zA ?_
              first | (exfalso; omega) | refine ⟨i + 1, ⟨hi, by (try dsimp only); rw [h2, E, z6 _ _ (by omega), if_neg (by rw [pb]; decide), z6 _ _ (by omega)]⟩, ⟨rfl, rfl, rfl, rfl, zV rfl (by rw [zZ (by omega) (by omega)]; rfl), trivial⟩, by (try dsimp only); omega⟩
      · rw [hb2]
        have q := beq_eq_false_iff_ne.1 hb2
        refine zI rfl rfl rfl <| zI rfl rfl rfl <| g_u (zg rfl rfl rfl) <| g_u (zC rfl rfl) <| zI rfl rfl rfl <| zI rfl rfl rfl <| zI rfl rfl rfl <| zI rfl rfl rfl <| zI rfl rfl rfl <| zI rfl rfl rfl <| zI rfl rfl rfl <| zI rfl rfl rfl <| zI rfl rfl rfl <| g_u (zg rfl rfl rfl) ?_
        refine zF ⟨by kernel_rfl, ?_⟩
        refine zA <| zd rfl <| zO <| zA <| zD <| zD <| zB <| g_u (zC rfl rfl) <| g_u (yn rfl rfl rfl) <| zF <| zA ?_
        refine zN rfl (fun hb14 => ?_) (fun hb14 => ?_)
        · have q := beq_iff_eq.1 hb14
          refine zB <| g_u (zG rfl rfl fa93_1 rfl) <| g_u (zH rfl rfl rfl tA91 tS91 rfl rfl) <| g_u (zC rfl rfl) ?_
          refine g_u (zT (ih _ (xm hi) d ⟨by omega, by omega⟩) rfl rfl) ?_
          refine g_u (zE rfl rfl) <| zF <| zA <| zD <| zB <| g_u (zC rfl rfl) <| g_u (xG rfl rfl rfl) <| zF <| zA ?_
          refine zN rfl (fun hb15 => ?_) (fun hb15 => ?_)
          · have q := qc.1 hb15
            refine zD <| zB <| g_u (zC rfl rfl) <| g_u (zE rfl rfl) <| zF <| zA <| zJ <| ze <| zK <| zK <| ze <| zK ?_
            exact ⟨⟨(rfl : toAV (Al.look _ _) = some _).trans (congrArg some (by (exact congrArg iv (by first | (exfalso; omega) | (rw [h2, hin, List.drop_length]; rfl) | (rw [h2, E, yP _ _ (by omega)]; done) | (rw [h2, E, z6 _ _ (by omega), if_pos pb]; done) | (rw [h2, E, z6 _ _ (by omega), if_neg (by rw [pb]; decide), yP _ _ (by omega)]; done))))), rfl⟩, trivial⟩
          · have q := qd.1 hb15
            refine zO <| zM <| zA <| zB <| g_u (yB rfl rfl rfl) <| g_u (zC rfl rfl) <| zF <| zA ?_
            first | (exfalso; omega) | refine ⟨i + 1, ⟨hi, by (try dsimp only); rw [h2, E, z6 _ _ (by omega), if_neg (by rw [pb]; decide), z6 _ _ (by omega)]⟩, ⟨rfl, rfl, rfl, rfl, zV rfl (by rw [zZ (by omega) (by omega)]; rfl), trivial⟩, by (try dsimp only); omega⟩
        · have q := beq_eq_false_iff_ne.1 hb14
          refine zO <| zA <| zD <| zB <| g_u (zC rfl rfl) <| g_u (xG rfl rfl rfl) <| zF <| zA ?_
          refine zN rfl (fun hb16 => ?_) (fun hb16 => ?_)
          · have q := qc.1 hb16
            refine zD <| zB <| g_u (zC rfl rfl) <| g_u (zE rfl rfl) <| zF <| zA <| zJ <| ze <| zK <| zK <| ze <| zK ?_
            exact ⟨⟨(rfl : toAV (Al.look _ _) = some _).trans (congrArg some (by (exact congrArg iv (by first | (exfalso; omega) | (rw [h2, hin, List.drop_length]; rfl) | (rw [h2, E, yP _ _ (by omega)]; done) | (rw [h2, E, z6 _ _ (by omega), if_pos pb]; done) | (rw [h2, E, z6 _ _ (by omega), if_neg (by rw [pb]; decide), yP _ _ (by omega)]; done))))), rfl⟩, trivial⟩
          · have q := qd.1 hb16
            refine zO <| zM <| zA <| zB <| g_u (yB rfl rfl rfl) <| g_u (zC rfl rfl) <| zF <| zA ?_
            first | (exfalso; omega) | refine ⟨i + 1, ⟨hi, by (try dsimp only); rw [h2, E, z6 _ _ (by omega), if_neg (by rw [pb]; decide), z6 _ _ (by omega)]⟩, ⟨rfl, rfl, rfl, rfl, zV rfl (by rw [zZ (by omega) (by omega)]; rfl), trivial⟩, by (try dsimp only); omega⟩
    · have hin : i = l.length := by have := of_decide_eq_false hb1; (try simp only [List.length_map] at this); omega
      refine zv <| zU <| zU <| zp <| zA <| zD <| zB <| g_u (zE rfl rfl) <| zF <| zA <| zJ ?_
      exact ⟨⟨(rfl : toAV (Al.look _ _) = some _).trans (congrArg some (by (exact congrArg iv (by first | (exfalso; omega) | (rw [h2, hin, List.drop_length]; rfl) | (rw [h2, E, yP _ _ (by omega)]; done) | (rw [h2, E, z6 _ _ (by omega), if_pos pb]; done) | (rw [h2, E, z6 _ _ (by omega), if_neg (by rw [pb]; decide), yP _ _ (by omega)]; done))))), rfl⟩, trivial⟩
set_option maxHeartbeats 2000000 in
theorem contentV_st (v : GV) (d : Int) (hd : 0 ≤ d ∧ d + v.wt ≤ 1000000000) (ih : ∀ y ∈ v.list, ∀ d : Int, 0 ≤ d ∧ d + y.wt ≤ 1000000000 → zj Tryz.prog Γ0 114 [y.av, iv d] [iv (xr d y)]) (ihm : ∀ d : Int, 0 ≤ d ∧ d + wtAs v.map ≤ 1000000000 → zj Tryz.prog Γ0 81 [.sl 7 (v.map.map avA), iv d] [iv (entC d none v.map)]) : zj Tryz.prog Γ0 177 [v.av, iv d] [iv (xx d v)] := by
  have ek := v.wt_eq
  have e1 : IntKind.i64.wrap (d + 1) = d + 1 := zZ (by omega) (by omega)
  have lv := x_ v.list
  have cr := check_range v.text
  have ce := check_eq v.text
  refine zb Tryz.func177 rfl Tryz.ntmps177 (by kernel_rfl) rfl fun w0 I0 G0 => ?_
  refine zD <| zB <| g_uG (zi 1002 rfl rfl rfl rfl) rfl <| g_u (zE rfl rfl) <| zF <| zA <| zD <| zD <| zB <| g_u (zG rfl rfl fa91_0 rfl) <| g_u (zH rfl rfl rfl tA5 tS5 rfl rfl) <| zF <| zA <| zQ <| zD <| zB <| g_u (yn rfl rfl rfl) <| g_u (zE rfl rfl) <| zF <| zA ?_
  refine zN rfl (fun hb1 => ?_) (fun hb1 => ?_)
  · have q := beq_iff_eq.1 hb1
    refine zD <| zB <| g_u (zG rfl rfl fa91_1 rfl) <| g_u (zH rfl rfl rfl tA9 tS9 rfl rfl) ?_
    refine g_u (zT (check_c _ (by omega)) rfl rfl) ?_
    refine g_u (s_geI rfl rfl rfl) <| zF <| zA ?_
    refine zN rfl (fun hb2 => ?_) (fun hb2 => ?_)
    · have q := of_decide_eq_true hb2
      refine zD <| zB <| g_u (zE rfl rfl) <| zF <| zA <| zJ <| ze <| zK ?_
      exact ⟨⟨(rfl : toAV (Al.look _ _) = some _).trans (congrArg some (by (exact congrArg iv (by unfold xx; first | (exfalso; omega) | (rw [if_pos (by omega), if_pos (by omega)]; done) | (rw [if_pos (by omega), if_neg (by omega)]; done) | (rw [if_neg (by omega), if_pos (by omega), if_pos (by omega)]; done) | (rw [if_neg (by omega), if_pos (by omega), if_neg (by omega)]; done) | (rw [if_neg (by omega), if_neg (by omega), if_pos (by omega), h2, E, yP _ _ (by omega)]; done) | (rw [if_neg (by omega), if_neg (by omega), if_pos (by omega), h2, hin, List.drop_length]; rfl) | (rw [if_neg (by omega), if_neg (by omega), if_neg (by omega), if_pos (by omega)]; done) | (rw [if_neg (by omega), if_neg (by omega), if_neg (by omega), if_neg (by omega)]; done))))), rfl⟩, trivial⟩
    · have q := of_decide_eq_false hb2
      refine zO <| zM <| zA <| zD <| zB <| g_u (zE rfl rfl) <| zF <| zA <| zJ ?_
      exact ⟨⟨(rfl : toAV (Al.look _ _) = some _).trans (congrArg some (by (exact congrArg iv (by unfold xx; first | (exfalso; omega) | (rw [if_pos (by omega), if_pos (by omega)]; done) | (rw [if_pos (by omega), if_neg (by omega)]; done) | (rw [if_neg (by omega), if_pos (by omega), if_pos (by omega)]; done) | (rw [if_neg (by omega), if_pos (by omega), if_neg (by omega)]; done) | (rw [if_neg (by omega), if_neg (by omega), if_pos (by omega), h2, E, yP _ _ (by omega)]; done) | (rw [if_neg (by omega), if_neg (by omega), if_pos (by omega), h2, hin, List.drop_length]; rfl) | (rw [if_neg (by omega), if_neg (by omega), if_neg (by omega), if_pos (by omega)]; done) | (rw [if_neg (by omega), if_neg (by omega), if_neg (by omega), if_neg (by omega)]; done))))), rfl⟩, trivial⟩
  · have q := beq_eq_false_iff_ne.1 hb1
    refine zD <| zB <| g_u (yn rfl rfl rfl) <| g_u (zE rfl rfl) <| zF <| zA ?_
    refine zN rfl (fun hb3 => ?_) (fun hb3 => ?_)
    · have q := beq_iff_eq.1 hb3
      refine zD <| zB <| g_u (zG rfl rfl fa91_2 rfl) <| g_u (zH rfl rfl rfl tA3 tS3 rfl rfl) <| g_u (xG rfl rfl rfl) <| g_u (zC rfl rfl) <| zz (t := 21) rfl ?_
      rintro (hb4 | hb4)
      · rw [hb4]
        have q := qc.1 hb4
        refine zP rfl rfl (zG rfl rfl fa91_2 rfl) <| zP rfl rfl (zH rfl rfl rfl tA3 tS3 rfl rfl) <| zP rfl rfl (xG rfl rfl rfl) <| g_u (zX rfl rfl rfl) <| zF <| zA ?_
        refine zN rfl (fun hb5 => ?_) (fun hb5 => ?_)
        · have q := qc.1 hb5
          refine zD <| zB <| g_u (zE rfl rfl) <| zF <| zA <| zJ <| ze <| zK ?_
          exact ⟨⟨(rfl : toAV (Al.look _ _) = some _).trans (congrArg some (by (exact congrArg iv (by unfold xx; first | (exfalso; omega) | (rw [if_pos (by omega), if_pos (by omega)]; done) | (rw [if_pos (by omega), if_neg (by omega)]; done) | (rw [if_neg (by omega), if_pos (by omega), if_pos (by omega)]; done) | (rw [if_neg (by omega), if_pos (by omega), if_neg (by omega)]; done) | (rw [if_neg (by omega), if_neg (by omega), if_pos (by omega), h2, E, yP _ _ (by omega)]; done) | (rw [if_neg (by omega), if_neg (by omega), if_pos (by omega), h2, hin, List.drop_length]; rfl) | (rw [if_neg (by omega), if_neg (by omega), if_neg (by omega), if_pos (by omega)]; done) | (rw [if_neg (by omega), if_neg (by omega), if_neg (by omega), if_neg (by omega)]; done))))), rfl⟩, trivial⟩
        · have q := qd.1 hb5
          refine zO <| zM <| zA <| zD <| zB <| g_u (zE rfl rfl) <| zF <| zA <| zJ ?_
          exact ⟨⟨(rfl : toAV (Al.look _ _) = some _).trans (congrArg some (by (exact congrArg iv (by unfold xx; first | (exfalso; omega) | (rw [if_pos (by omega), if_pos (by omega)]; done) | (rw [if_pos (by omega), if_neg (by omega)]; done) | (rw [if_neg (by omega), if_pos (by omega), if_pos (by omega)]; done) | (rw [if_neg (by omega), if_pos (by omega), if_neg (by omega)]; done) | (rw [if_neg (by omega), if_neg (by omega), if_pos (by omega), h2, E, yP _ _ (by omega)]; done) | (rw [if_neg (by omega), if_neg (by omega), if_pos (by omega), h2, hin, List.drop_length]; rfl) | (rw [if_neg (by omega), if_neg (by omega), if_neg (by omega), if_pos (by omega)]; done) | (rw [if_neg (by omega), if_neg (by omega), if_neg (by omega), if_neg (by omega)]; done))))), rfl⟩, trivial⟩
      · rw [hb4]
        have q := qd.1 hb4
        refine zI rfl rfl rfl <| zI rfl rfl rfl <| zI rfl rfl rfl <| g_u (zg rfl rfl rfl) <| zF <| zA <| zd rfl <| zO <| zM <| zA <| zD <| zB <| g_u (zE rfl rfl) <| zF <| zA <| zJ ?_
        exact ⟨⟨(rfl : toAV (Al.look _ _) = some _).trans (congrArg some (by (exact congrArg iv (by unfold xx; first | (exfalso; omega) | (rw [if_pos (by omega), if_pos (by omega)]; done) | (rw [if_pos (by omega), if_neg (by omega)]; done) | (rw [if_neg (by omega), if_pos (by omega), if_pos (by omega)]; done) | (rw [if_neg (by omega), if_pos (by omega), if_neg (by omega)]; done) | (rw [if_neg (by omega), if_neg (by omega), if_pos (by omega), h2, E, yP _ _ (by omega)]; done) | (rw [if_neg (by omega), if_neg (by omega), if_pos (by omega), h2, hin, List.drop_length]; rfl) | (rw [if_neg (by omega), if_neg (by omega), if_neg (by omega), if_pos (by omega)]; done) | (rw [if_neg (by omega), if_neg (by omega), if_neg (by omega), if_neg (by omega)]; done))))), rfl⟩, trivial⟩
    · have q := beq_eq_false_iff_ne.1 hb3
      refine zD <| zB <| g_u (yn rfl rfl rfl) <| g_u (zE rfl rfl) <| zF <| zA ?_
      refine zN rfl (fun hb6 => ?_) (fun hb6 => ?_)
      · have q := beq_iff_eq.1 hb6
        refine zD <| zB <| g_u (zG rfl rfl vI rfl) <| g_u (zH rfl rfl rfl tA89 tS89 rfl rfl) <| g_u (zx rfl rfl Tryz.underlying89) <| g_u (zC rfl rfl) <| zF <| zA <| zQ ?_
        refine zs (fun i : Nat => [(1, .imm (iv d)), (29, .imm (.sl 6 (v.list.map avV))), (30, .imm (iv (v.list.length : Int))), (31, .imm (iv (i : Int)))]) (fun i => i ≤ v.list.length ∧ xj (d + 1) v.list = xj (d + 1) (v.list.drop i)) (fun i => v.list.length - i) (0) ?_ ⟨rfl, rfl, zV rfl (by rw [List.length_map]), rfl, trivial⟩ ?_
        · exact ⟨Nat.zero_le _, rfl⟩
        · rintro i ⟨h1, h2⟩; (try dsimp only at h1 h2)
          refine zD <| zB <| g_u (yU rfl rfl rfl) <| zF <| zA <| zD ?_
          refine zN rfl (fun hb7 => ?_) (fun hb7 => ?_)
          · have hi : i < v.list.length := by have := of_decide_eq_true hb7; (try simp only [List.length_map] at this); omega
            have hw1 := wtVs_mem (nthV_mem hi)
            have E := checkVs_drop (d + 1) hi
            refine zO <| zA <| zD <| zQ <| zD <| zB ?_
            refine g_u (za rfl rfl rfl Tryz.underlying89 tS91 (by omega) (ixV hi)) ?_
            refine g_u (zW rfl rfl tA91 tS91 rfl rfl) <| g_uG (zo 1006 rfl rfl rfl tZ91) rfl <| g_u (zL rfl rfl rfl tS91 rfl rfl) <| zF <| zA <| zD <| zB <| g_u (zl rfl rfl rfl tA91 tS91 rfl rfl) <| g_u (zC rfl rfl) <| g_u (yB rfl rfl rfl) ?_
            refine g_u (zT ((show zj Tryz.prog Γ0 114 [(nthV v.list i).av, iv (IntKind.i64.wrap (d + 1))] [iv (xr (d + 1) (nthV v.list i))] from by rw [e1]; exact ih _ (nthV_mem hi) _ ⟨by omega, by omega⟩)) rfl rfl) ?_
            refine g_u (zE rfl rfl) <| zF <| zA <| zD <| zB <| g_u (zC rfl rfl) <| g_u (xG rfl rfl rfl) <| zF <| zA ?_
            refine zN rfl (fun hb8 => ?_) (fun hb8 => ?_)
            · have q := qc.1 hb8
              refine zD <| zB <| g_u (zC rfl rfl) <| g_u (zE rfl rfl) <| zF <| zA <| zJ <| ze <| zK <| zK <| ze <| ze <| zK ?_
              exact ⟨⟨(rfl : toAV (Al.look _ _) = some _).trans (congrArg some (by (exact congrArg iv (by unfold xx; first | (exfalso; omega) | (rw [if_pos (by omega), if_pos (by omega)]; done) | (rw [if_pos (by omega), if_neg (by omega)]; done) | (rw [if_neg (by omega), if_pos (by omega), if_pos (by omega)]; done) | (rw [if_neg (by omega), if_pos (by omega), if_neg (by omega)]; done) | (rw [if_neg (by omega), if_neg (by omega), if_pos (by omega), h2, E, yP _ _ (by omega)]; done) | (rw [if_neg (by omega), if_neg (by omega), if_pos (by omega), h2, hin, List.drop_length]; rfl) | (rw [if_neg (by omega), if_neg (by omega), if_neg (by omega), if_pos (by omega)]; done) | (rw [if_neg (by omega), if_neg (by omega), if_neg (by omega), if_neg (by omega)]; done))))), rfl⟩, trivial⟩
            · have q := qd.1 hb8
              refine zO <| zM <| zA <| zB <| g_u (yB rfl rfl rfl) <| g_u (zC rfl rfl) <| zF <| zA ?_
              refine ⟨i + 1, ⟨hi, by (try dsimp only); rw [h2, E, z6 _ _ (by omega)]⟩, ⟨rfl, rfl, rfl, zV rfl (by rw [zZ (by omega) (by omega)]; rfl), trivial⟩, by (try dsimp only); omega⟩
          · have hin : i = v.list.length := by have := of_decide_eq_false hb7; (try simp only [List.length_map] at this); omega
            refine zv <| zU <| zU <| zp <| zM <| zA <| zD <| zB <| g_u (zE rfl rfl) <| zF <| zA <| zJ ?_
            exact ⟨⟨(rfl : toAV (Al.look _ _) = some _).trans (congrArg some (by (exact congrArg iv (by unfold xx; first | (exfalso; omega) | (rw [if_pos (by omega), if_pos (by omega)]; done) | (rw [if_pos (by omega), if_neg (by omega)]; done) | (rw [if_neg (by omega), if_pos (by omega), if_pos (by omega)]; done) | (rw [if_neg (by omega), if_pos (by omega), if_neg (by omega)]; done) | (rw [if_neg (by omega), if_neg (by omega), if_pos (by omega), h2, E, yP _ _ (by omega)]; done) | (rw [if_neg (by omega), if_neg (by omega), if_pos (by omega), h2, hin, List.drop_length]; rfl) | (rw [if_neg (by omega), if_neg (by omega), if_neg (by omega), if_pos (by omega)]; done) | (rw [if_neg (by omega), if_neg (by omega), if_neg (by omega), if_neg (by omega)]; done))))), rfl⟩, trivial⟩
      · have q := beq_eq_false_iff_ne.1 hb6
        refine zD <| zB <| g_u (yn rfl rfl rfl) <| g_u (zE rfl rfl) <| zF <| zA ?_
        refine zN rfl (fun hb9 => ?_) (fun hb9 => ?_)
        · have q := beq_iff_eq.1 hb9
          refine zD <| zB <| g_u (zG rfl rfl vH rfl) <| g_u (zH rfl rfl rfl tA46 tS46 rfl rfl) <| g_u (zC rfl rfl) <| g_u (yB rfl rfl rfl) ?_
          refine g_u (zT ((show zj Tryz.prog Γ0 81 [.sl 7 (v.map.map avA), iv (IntKind.i64.wrap (d + 1))] [iv (entC (d + 1) none v.map)] from by rw [e1]; exact ihm _ ⟨by omega, by omega⟩)) rfl rfl) ?_
          refine g_u (zE rfl rfl) <| zF <| zA <| zJ <| ze <| zK ?_
          exact ⟨⟨(rfl : toAV (Al.look _ _) = some _).trans (congrArg some (by (exact congrArg iv (by unfold xx; first | (exfalso; omega) | (rw [if_pos (by omega), if_pos (by omega)]; done) | (rw [if_pos (by omega), if_neg (by omega)]; done) | (rw [if_neg (by omega), if_pos (by omega), if_pos (by omega)]; done) | (rw [if_neg (by omega), if_pos (by omega), if_neg (by omega)]; done) | (rw [if_neg (by omega), if_neg (by omega), if_pos (by omega), h2, E, yP _ _ (by omega)]; done) | (rw [if_neg (by omega), if_neg (by omega), if_pos (by omega), h2, hin, List.drop_length]; rfl) | (rw [if_neg (by omega), if_neg (by omega), if_neg (by omega), if_pos (by omega)]; done) | (rw [if_neg (by omega), if_neg (by omega), if_neg (by omega), if_neg (by omega)]; done))))), rfl⟩, trivial⟩
        · have q := beq_eq_false_iff_ne.1 hb9
          refine zO <| zM <| zA <| zD <| zB <| g_u (zE rfl rfl) <| zF <| zA <| zJ ?_
          exact ⟨⟨(rfl : toAV (Al.look _ _) = some _).trans (congrArg some (by (exact congrArg iv (by unfold xx; first | (exfalso; omega) | (rw [if_pos (by omega), if_pos (by omega)]; done) | (rw [if_pos (by omega), if_neg (by omega)]; done) | (rw [if_neg (by omega), if_pos (by omega), if_pos (by omega)]; done) | (rw [if_neg (by omega), if_pos (by omega), if_neg (by omega)]; done) | (rw [if_neg (by omega), if_neg (by omega), if_pos (by omega), h2, E, yP _ _ (by omega)]; done) | (rw [if_neg (by omega), if_neg (by omega), if_pos (by omega), h2, hin, List.drop_length]; rfl) | (rw [if_neg (by omega), if_neg (by omega), if_neg (by omega), if_pos (by omega)]; done) | (rw [if_neg (by omega), if_neg (by omega), if_neg (by omega), if_neg (by omega)]; done))))), rfl⟩, trivial⟩
theorem checkV_st (v : GV) (d : Int) (hd : 0 ≤ d ∧ d + v.wt ≤ 1000000000) (ihc : zj Tryz.prog Γ0 177 [v.av, iv d] [iv (xx d v)]) : zj Tryz.prog Γ0 114 [v.av, iv d] [iv (xr d v)] := by
  have ek := v.wt_eq
  refine zb Tryz.func114 rfl Tryz.ntmps114 (by kernel_rfl) rfl fun w0 I0 G0 => ?_
  refine zD <| zB <| g_uG (zi 1002 rfl rfl rfl rfl) rfl <| g_u (zE rfl rfl) <| zF <| zA <| zD <| zQ <| zD <| zB <| g_u (zG rfl rfl fa91_0 rfl) <| g_u (zH rfl rfl rfl tA5 tS5 rfl rfl) <| g_u (wl rfl rfl rfl) <| g_u (zE rfl rfl) <| zF <| zA ?_
  refine zN rfl (fun hb1 => ?_) (fun hb1 => ?_)
  · have h7 := of_decide_eq_true hb1
    refine zD <| zB <| g_u (zE rfl rfl) <| zF <| zA <| zJ <| ze <| zK ?_
    exact ⟨⟨(rfl : toAV (Al.look _ _) = some _).trans (congrArg some (by (exact congrArg iv (by first | (exfalso; omega) | (rw [wF (by omega) he (by omega)]; done) | (rw [yj, if_pos (by omega)]; done) | (rw [yj, if_neg (by omega), if_pos he]; done) | (rw [yj, if_neg (by omega), if_neg (by rw [he]; decide), if_pos (by omega)]; done))))), rfl⟩, trivial⟩
  · have h7 := of_decide_eq_false hb1
    refine zD <| zB <| g_u (zH rfl rfl rfl tA91 tS91 rfl rfl) <| g_u (zT (more_c _) rfl rfl) <| g_u (zE rfl rfl) <| zF <| zA ?_
    refine zN rfl (fun hb2 => ?_) (fun hb2 => ?_)
    · have he : emptyV v = false := by have e := hb2; simpa using e
      refine zD <| zB <| g_u (zE rfl rfl) <| zF <| zA <| zJ <| ze <| zK ?_
      exact ⟨⟨(rfl : toAV (Al.look _ _) = some _).trans (congrArg some (by (exact congrArg iv (by first | (exfalso; omega) | (rw [wF (by omega) he (by omega)]; done) | (rw [yj, if_pos (by omega)]; done) | (rw [yj, if_neg (by omega), if_pos he]; done) | (rw [yj, if_neg (by omega), if_neg (by rw [he]; decide), if_pos (by omega)]; done))))), rfl⟩, trivial⟩
    · have he : emptyV v = true := by have e := hb2; simpa using e
      refine zD <| zB <| g_u (zH rfl rfl rfl tA91 tS91 rfl rfl) <| g_u (zT (holds_c _) rfl rfl) <| g_u (zC rfl rfl) <| zz (t := 15) rfl ?_
      rintro (hb3 | hb3)
      · rw [hb3]
        have q : v.kind = 6 ∨ v.kind = 7 := by have e := hb3; simpa using e
        refine zP rfl rfl (zC rfl rfl) <| zP rfl rfl (s_geI rfl rfl rfl) <| g_u (zX rfl rfl rfl) <| g_u (zE rfl rfl) <| zF <| zA ?_
        refine zN rfl (fun hb4 => ?_) (fun hb4 => ?_)
        · have q := of_decide_eq_true hb4
          refine zD <| zB <| g_u (zE rfl rfl) <| zF <| zA <| zJ <| ze <| zK ?_
          exact ⟨⟨(rfl : toAV (Al.look _ _) = some _).trans (congrArg some (by (exact congrArg iv (by first | (exfalso; omega) | (rw [wF (by omega) he (by omega)]; done) | (rw [yj, if_pos (by omega)]; done) | (rw [yj, if_neg (by omega), if_pos he]; done) | (rw [yj, if_neg (by omega), if_neg (by rw [he]; decide), if_pos (by omega)]; done))))), rfl⟩, trivial⟩
        · have q := of_decide_eq_false hb4
          refine zO <| zM <| zA <| zD <| zB <| g_u (zH rfl rfl rfl tA91 tS91 rfl rfl) <| g_u (zC rfl rfl) <| g_u (zT (ihc) rfl rfl) <| g_u (zE rfl rfl) <| zF <| zA <| zJ ?_
          exact ⟨⟨(rfl : toAV (Al.look _ _) = some _).trans (congrArg some (by (exact congrArg iv (by first | (exfalso; omega) | (rw [wF (by omega) he (by omega)]; done) | (rw [yj, if_pos (by omega)]; done) | (rw [yj, if_neg (by omega), if_pos he]; done) | (rw [yj, if_neg (by omega), if_neg (by rw [he]; decide), if_pos (by omega)]; done))))), rfl⟩, trivial⟩
      · rw [hb3]
        have q : ¬ (v.kind = 6 ∨ v.kind = 7) := by have e := hb3; simpa using e
        refine zI rfl rfl rfl <| zI rfl rfl rfl <| g_u (zg rfl rfl rfl) <| g_u (zE rfl rfl) <| zF <| zA <| zd rfl <| zO <| zM <| zA <| zD <| zB <| g_u (zH rfl rfl rfl tA91 tS91 rfl rfl) <| g_u (zC rfl rfl) <| g_u (zT (ihc) rfl rfl) <| g_u (zE rfl rfl) <| zF <| zA <| zJ ?_
        exact ⟨⟨(rfl : toAV (Al.look _ _) = some _).trans (congrArg some (by (exact congrArg iv (by first | (exfalso; omega) | (rw [wF (by omega) he (by omega)]; done) | (rw [yj, if_pos (by omega)]; done) | (rw [yj, if_neg (by omega), if_pos he]; done) | (rw [yj, if_neg (by omega), if_neg (by rw [he]; decide), if_pos (by omega)]; done))))), rfl⟩, trivial⟩
theorem checkV_c (v : GV) : ∀ d : Int, 0 ≤ d ∧ d + v.wt ≤ 1000000000 → zj Tryz.prog Γ0 114 [v.av, iv d] [iv (xr d v)] := by
  refine GV.ind (P := fun v => ∀ d : Int, 0 ≤ d ∧ d + v.wt ≤ 1000000000 → zj Tryz.prog Γ0 114 [v.av, iv d] [iv (xr d v)]) ?_ v
  intro v h1 h2 d hd
  exact checkV_st v d hd (contentV_st v d hd h1 fun d hd => entC_st v.map d hd h2)
theorem entC_c (l : List GA) (d : Int) (hd : 0 ≤ d ∧ d + wtAs l ≤ 1000000000) : zj Tryz.prog Γ0 81 [.sl 7 (l.map avA), iv d] [iv (entC d none l)] := entC_st l d hd fun a _ => checkV_c a.val
end Go.Proofs
namespace Go.Al
open Go.RowKit
section
variable {C : Cx} {A : Nat → SV} {d : Nat} {ty : TypeId} {pos : String} {af : Array Edge} {gd : Option (Nat × Bool)} {x y : Operand} {T T' : TypeId}
end
end Go.Al
namespace Go.Proofs
open Go Go.Al
theorem str_nth {l : List ByteArray} {i : Nat} (h : i < l.length) : (l.map fun x => sv x)[((i : Nat) : Int).toNat]? = some (sv (nth l i ⟨#[]⟩)) := nth_map (d := ⟨#[]⟩) h
theorem sameV_ne {a b : GV} (h : a ≠ b) : sameV a b = false := by cases hs : sameV a b; rfl; exact absurd ((ww _ _).1 hs) h
theorem sameAs_ne {a b : List GA} (h : a ≠ b) : sameAs a b = false := by cases hs : sameAs a b; rfl; exact absurd ((yb _ _).1 hs) h
theorem xL {α : Type} {l m : List α} (d : α) (hl : l.length = m.length) (h : ∀ i, i < l.length → nth l i d = nth m i d) : l = m := by
  refine List.ext_getElem hl fun i h1 h2 => ?_
  have := h i h1
  unfold nth at this
  rwa [List.getD_eq_getElem?_getD, List.getD_eq_getElem?_getD, List.getElem?_eq_getElem h1, List.getElem?_eq_getElem h2] at this
theorem GA.ext' {a b : GA} (h1 : a.key = b.key) (h2 : a.val = b.val) : a = b := by cases a; cases b; simp only [GA.key_mk, GA.val_mk] at h1 h2; rw [h1, h2]
theorem GV.ext' {a b : GV} (h1 : a.kind = b.kind) (h2 : a.text = b.text) (h3 : a.num = b.num) (h4 : a.bits = b.bits) (h5 : a.list = b.list) (h6 : a.map = b.map) : a = b := by
  cases a; cases b
  simp only [GV.kind_mk, GV.text_mk, GV.num_mk, GV.bits_mk, GV.list_mk, GV.map_mk] at h1 h2 h3 h4 h5 h6
  rw [h1, h2, h3, h4, h5, h6]
theorem sameV_map {a b : GV} (h1 : a.kind = b.kind) (h2 : a.text = b.text) (h3 : a.num = b.num) (h4 : a.bits = b.bits) (h5 : a.list = b.list) : sameAs a.map b.map = sameV a b := by
  rw [Bool.eq_iff_iff, yb, ww]
  exact ⟨fun h => GV.ext' h1 h2 h3 h4 h5 h, fun h => by rw [h]⟩
end Go.Proofs
namespace Go.Al
open Go.RowKit
section
variable {C : Cx} {A : Nat → SV} {d : Nat} {ty : TypeId} {pos : String} {af : Array Edge} {gd : Option (Nat × Bool)} {x y : Operand} {T T' : TypeId}
theorem s_makeImm {el : TypeId} {n by_ : Nat} {X0 : AV} {len cap : Nat} {il ic : Int} {k1 k2 : IntKind} (hN : Nat.blt d C.N = true) (hx : opV A x = some (.v (.int k1 il))) (hy : opV A y = some (.v (.int k2 ic))) (hil : il = len) (hic : ic = cap)
    (hT : C.P.underlying T = some (.slice el)) (hn : yA C.P el = some n) (hz : ya C.P el X0) (hX : Nat.beq X0.width n = true) (h0 : Nat.blt 0 n = true) (hb : (C.P.info? el).map (·.bytes) = some by_) (hlc : len = cap) (hB : by_ * cap ≤ 281474976710656) (hL : cap < 9223372036854775808) :
    zf C ⟨some d, .makeSlice T x y, ty, pos, af, gd⟩ (opR x ++ opR y) [] A [(d, .imm (.sl n (List.replicate cap X0)))] := by
  intro A' a w hR hF ⟨G, S⟩
  rw [← zy (fun k hk => hR k (List.mem_append_left _ hk))] at hx
  rw [← zy (fun k hk => hR k (List.mem_append_right _ hk))] at hy
  have hev1 := yG (S.opV hx)
  have hev2 := yG (S.opV hy)
  obtain ⟨z, hz1, hz2⟩ := hz
  have hn0 : 0 < n := by simpa [Nat.blt_eq] using h0
  have hzl : z.cells.size = n := by
    have := RepC.len X0 _ (xi (w := w) (I := G.I) X0 _ hz2)
    rw [← Array.length_toList, this]; exact Nat.eq_of_beq_eq_true hX
  obtain ⟨inf, hi, hib⟩ : ∃ inf, C.P.info? el = some inf ∧ inf.bytes = by_ := by
    cases hi : C.P.info? el with
    | none => rw [hi] at hb; cases hb
    | some inf => rw [hi] at hb; exact ⟨inf, rfl, by simpa using hb⟩
  let cs : Array Value := (Array.range (cap * n)).map fun i => z.cells[i % z.cells.size]!
  have k2 : RepE w G.I n (List.replicate cap X0) cs.toList := by
    have := zeroRow (w := w) (I := G.I) (xi X0 _ hz2) hzl hn0 cap
    simpa [cs] using this
  unfold Oper.wp
  have hw1 : IntKind.i64.wrap il = len := by rw [hil]; exact zZ (by omega) (by omega)
  have hw2 : IntKind.i64.wrap ic = cap := by rw [hic]; exact zZ (by omega) (by omega)
  have hrun : (Instr.makeSlice T (a.eval x) (a.eval y)).run C.P w = .ok (.slice (some ⟨w.heap.size, 0, none⟩) len cap) (w.alloc (.cells cs el)) := by
    have hcn : ¬ (cap * n = 0 ∧ cap ≠ 0) := by
      rintro ⟨h1, h2⟩
      have := Nat.mul_pos (Nat.pos_of_ne_zero h2) hn0
      omega
    have hbig : decide ((by_ : Int) * (cap : Int) > 2 ^ 48) = false := by
      refine decide_eq_false ?_
      have : ((by_ * cap : Nat) : Int) ≤ 281474976710656 := Int.ofNat_le.2 hB
      rw [Int.natCast_mul] at this
      have h48 : (2 : Int) ^ 48 = 281474976710656 := by decide
      rw [h48]; omega
    have hc0 : ((cap : Int) < 0) = False := by simp
    have hl0 : ((len : Int) < 0) = False := by simp
    have hlc' : ((len : Int) > (cap : Int)) = False := by simp; omega
    simp only [Instr.makeSlice, Sem.run_bind, zR hT, Result.andThen_ok, hev1, hev2, asInt, asIntOf, Sem.run_pure, xB hi, hw1, hw2, hib, hc0, hl0, hlc', hbig, decide_false, Bool.or_false, Bool.false_eq_true, if_false, run_askRoom, yE hn, Int.toNat_natCast]
    by_cases h : cap * n = 0
    · have hcs0 : ∀ f : Nat → Value, (Array.range 0).map f = #[] := by intro f; simp
      simp only [h, if_true, Sem.run_pure, Result.andThen_ok, newRow, Sem.run_bind, run_newObj]
      simp only [cs, h, hcs0]
      rfl
    · simp only [h, if_false, Sem.run_bind, y3 hz1, Result.andThen_ok, Sem.run_pure, newRow, run_newObj]
      rfl
  simp only [execOp, Sem.run_bind, hrun, Result.andThen_ok, Sem.run_pure, Oper.upon_value]
  have S' := S.allocI cs el cs.size
  have hle : Le w G.I (w.alloc (.cells cs el)) (fun b o => G.I b o ∨ (b = w.heap.size ∧ o < cs.size)) := fun b o h => ⟨.inl h, (Le.alloc S.val _ b o h).2⟩
  have hcell := cellsAt_alloc (w := w) (I := G.I) (T := el) (fr := (0, 0)) (Nat.le_refl cs.size)
  rw [List.take_of_length_le (by simp)] at hcell
  refine ⟨_, S'.put (by simpa [Nat.blt_eq] using hN) (zt.2 ⟨[_], ?_, rfl⟩)⟩
  simp only [RepC]
  refine ⟨_, rfl, .inr ⟨w.heap.size, 0, cap, by rw [List.length_replicate, hlc], by simp, ?_, (k2.mono hle).mem hcell⟩⟩
  unfold maxLen; omega
end
end Go.Al
namespace Go.Proofs
open Go Go.Al
set_option maxRecDepth 10000
end Go.Proofs
namespace Go.Proofs
open Go Go.Al
set_option maxRecDepth 10000
theorem checkAs_c (l : List GA) (ho : ∀ a ∈ l, a.ok) (hw : wtAs l ≤ 1000000) : zj Tryz.prog Γ0 49 [(.sl 7 (l.map avA))] [iv (yZ l)] := by
  have hl := yr l
  refine zb Tryz.func49 rfl Tryz.ntmps49 (by kernel_rfl) rfl fun w0 I0 G0 => ?_
  refine zD <| zB <| g_u (zE rfl rfl) <| zF <| zA <| zD <| zD <| zB <| g_u (zC rfl rfl) <| g_u (zx rfl rfl Tryz.underlying46) <| g_u (wl rfl rfl rfl) <| zF <| zA ?_
  refine zN rfl (fun hb1 => ?_) (fun hb1 => ?_)
  · have q : (l.length : Int) > 32 := by have e := of_decide_eq_true hb1; simp only [List.length_map] at e; omega
    refine zD <| zB <| g_u (zE rfl rfl) <| zF <| zA <| zJ <| zK ?_
    exact ⟨⟨(rfl : toAV (Al.look _ _) = some _).trans (congrArg some (by (exact congrArg iv (by first | (rw [h2, hin, List.drop_length]; rfl) | (rw [h2, textsC_drop hi, if_pos (by omega)]; done) | (unfold yZ; rw [if_pos (by omega)]; done) | (unfold yZ; rw [if_neg (by omega), yP _ _ (by omega)]; done))))), rfl⟩, trivial⟩
  · have q : ¬ (l.length : Int) > 32 := by have e := of_decide_eq_false hb1; simp only [List.length_map] at e; omega
    refine zO <| zA <| zD <| zD <| zB <| g_u (zC rfl rfl) ?_
    refine g_u (zT (entC_c l 0 ⟨by omega, by omega⟩) rfl rfl) ?_
    refine g_u (zE rfl rfl) <| zF <| zA <| zD <| zB <| g_u (zC rfl rfl) <| g_u (xG rfl rfl rfl) <| zF <| zA ?_
    refine zN rfl (fun hb2 => ?_) (fun hb2 => ?_)
    · have q := qc.1 hb2
      refine zD <| zB <| g_u (zC rfl rfl) <| g_u (zE rfl rfl) <| zF <| zA <| zJ <| zK ?_
      exact ⟨⟨(rfl : toAV (Al.look _ _) = some _).trans (congrArg some (by (exact congrArg iv (by first | (rw [h2, hin, List.drop_length]; rfl) | (rw [h2, textsC_drop hi, if_pos (by omega)]; done) | (unfold yZ; rw [if_pos (by omega)]; done) | (unfold yZ; rw [if_neg (by omega), yP _ _ (by omega)]; done))))), rfl⟩, trivial⟩
    · have q := qd.1 hb2
      refine zO <| zA <| zD <| zD <| zB <| g_u (zC rfl rfl) <| g_u (zx rfl rfl Tryz.underlying46) <| g_u (zC rfl rfl) <| zF <| zA <| zQ ?_
      refine zs (fun i : Nat => [(14, .imm (.sl 7 (l.map avA))), (15, .imm (iv (l.length : Int))), (16, .imm (iv (i : Int)))]) (fun i => i ≤ l.length ∧ yZ l = textsC (l.drop i)) (fun i => l.length - i) (0) ?_ ⟨rfl, zV rfl (by rw [List.length_map]), rfl, trivial⟩ ?_
      · exact ⟨Nat.zero_le _, by unfold yZ; rw [if_neg (by omega), z6 _ _ (by omega)]; rfl⟩
      · rintro i ⟨h1, h2⟩; (try dsimp only at h1 h2)
        refine zD <| zB <| g_u (yU rfl rfl rfl) <| zF <| zA <| zD ?_
        refine zN rfl (fun hb3 => ?_) (fun hb3 => ?_)
        · have hi : i < l.length := by have := of_decide_eq_true hb3; (try simp only [List.length_map] at this); omega
          have gov : (nthA l i).val.ok := ((GA.ok_iff _).1 (ho _ (xm hi))).2
          have gow : (nthA l i).val.wt ≤ 10000000 := by have h1 := wM (xm hi); have h2 := (nthA l i).wt_eq; omega
          refine zO <| zA <| zD <| zQ <| zD <| zB ?_
          refine g_u (za rfl rfl rfl Tryz.underlying46 tS93 (by omega) (ixA hi)) ?_
          refine g_u (zW rfl rfl tA93 tS93 rfl rfl) <| g_uG (zo 1005 rfl rfl rfl tZ93) rfl <| g_u (zL rfl rfl rfl tS93 rfl rfl) <| zF <| zA <| zD <| zB <| g_u (zG rfl rfl fa93_1 rfl) <| g_u (zH rfl rfl rfl tA91 tS91 rfl rfl) <| g_u (zT (text_c _ gov gow) rfl rfl) <| g_u (yd rfl rfl Tryz.underlying9) <| g_u (wl rfl rfl rfl) <| zF <| zA ?_
          refine zN rfl (fun hb4 => ?_) (fun hb4 => ?_)
          · have q := of_decide_eq_true hb4
            refine zD <| zB <| g_u (zE rfl rfl) <| zF <| zA <| zJ <| ze <| zK <| zK <| ze <| zK ?_
            exact ⟨⟨(rfl : toAV (Al.look _ _) = some _).trans (congrArg some (by (exact congrArg iv (by first | (rw [h2, hin, List.drop_length]; rfl) | (rw [h2, textsC_drop hi, if_pos (by omega)]; done) | (unfold yZ; rw [if_pos (by omega)]; done) | (unfold yZ; rw [if_neg (by omega), yP _ _ (by omega)]; done))))), rfl⟩, trivial⟩
          · have q := of_decide_eq_false hb4
            refine zO <| zM <| zA <| zB <| g_u (yB rfl rfl rfl) <| g_u (zC rfl rfl) <| zF <| zA ?_
            refine ⟨i + 1, ⟨hi, by (try dsimp only); rw [h2, textsC_drop hi, if_neg (by omega)]⟩, ⟨rfl, rfl, zV rfl (by rw [zZ (by omega) (by omega)]; rfl), trivial⟩, by (try dsimp only); omega⟩
        · have hin : i = l.length := by have := of_decide_eq_false hb3; (try simp only [List.length_map] at this); omega
          refine zv <| zU <| zU <| zp <| zA <| zD <| zB <| g_u (zE rfl rfl) <| zF <| zA <| zJ ?_
          exact ⟨⟨(rfl : toAV (Al.look _ _) = some _).trans (congrArg some (by (exact congrArg iv (by first | (rw [h2, hin, List.drop_length]; rfl) | (rw [h2, textsC_drop hi, if_pos (by omega)]; done) | (unfold yZ; rw [if_pos (by omega)]; done) | (unfold yZ; rw [if_neg (by omega), yP _ _ (by omega)]; done))))), rfl⟩, trivial⟩
end Go.Proofs
namespace Go.Proofs
open Go Go.Al
set_option maxRecDepth 10000
end Go.Proofs
namespace Go.Proofs
open Go Go.Al
structure Rg where
  lo : Int
  hi : Int
def Rg.av (r : Rg) : AV := .agg [.v (.int .u64 r.lo), .v (.int .u64 r.hi)]
def rgCheckM (r : Rg) : Int := if r.hi > 9223372036854775807 ∨ r.lo > r.hi then 11 else 0
def begunM (r : Rg) : Int := IntKind.u64.wrap (r.lo.tdiv 1000)
def lastsM (r : Rg) : Int := IntKind.u64.wrap ((IntKind.u64.wrap (r.hi - r.lo)).tdiv 1000)
def microsM (m : Int) (r : Rg) : Int := if rgCheckM r = 0 then IntKind.i64.wrap m else 0
def nanoV (us : Int) : Int := if us < 0 ∨ us > 9223372036854775 then 0 else IntKind.u64.wrap (IntKind.u64.wrap us * 1000)
def nanoC (us : Int) : Int := if us < 0 ∨ us > 9223372036854775 then 11 else 0
def ofBad (b l : Int) : Prop := nanoC b ≠ 0 ∨ nanoC l ≠ 0 ∨ nanoV l > IntKind.u64.wrap (9223372036854775807 - nanoV b)
instance (b l : Int) : Decidable (ofBad b l) := by unfold ofBad; infer_instance
def ofR (b l : Int) : Rg := if ofBad b l then ⟨0, 0⟩ else ⟨nanoV b, IntKind.u64.wrap (nanoV b + nanoV l)⟩
def BegunM (r : Rg) : Int := microsM (begunM r) r
def LastsM (r : Rg) : Int := microsM (lastsM r) r
def wholeM (r : Rg) : Rg := ofR (BegunM r) (LastsM r)
-- the reference
def rNanoV (us : Int) : Int := if us < 0 ∨ us > 9223372036854775 then 0 else IntKind.u64.wrap (1000 * IntKind.u64.wrap us)
def rBad (b l : Int) : Prop := nanoC b ≠ 0 ∨ nanoC l ≠ 0 ∨ rNanoV b > IntKind.u64.wrap (9223372036854775807 - rNanoV l)
instance (b l : Int) : Decidable (rBad b l) := by unfold rBad; infer_instance
end Go.Proofs
namespace Go.Proofs
open Go Go.Al
end Go.Proofs
namespace Go.Proofs
open Go Go.Al
instance : DecidableEq GV := fun a b => decidable_of_iff (sameV a b = true) (ww a b)
instance : DecidableEq GA := fun a b => decidable_of_iff (sameA a b = true) (sameA_iff a b)
theorem GE.ext' {a b : GE} (h1 : a.time = b.time) (h2 : a.name = b.name) (h3 : a.attrs = b.attrs) : a = b := by cases a; cases b; simp_all
theorem GL.ext' {a b : GL} (h1 : a.trace = b.trace) (h2 : a.span = b.span) (h3 : a.state = b.state) (h4 : a.attrs = b.attrs) : a = b := by cases a; cases b; simp_all
theorem GSpan.ext' {a b : GSpan} (h1 : a.trace = b.trace) (h2 : a.id = b.id) (h3 : a.parent = b.parent) (h4 : a.state = b.state) (h5 : a.name = b.name) (h6 : a.kind = b.kind) (h7 : a.start = b.start) (h8 : a.fin = b.fin) (h9 : a.attrs = b.attrs) (h10 : a.events = b.events) (h11 : a.links = b.links) (h12 : a.code = b.code) (h13 : a.note = b.note) : a = b := by
  cases a; cases b; simp_all
theorem GScope.ext' {a b : GScope} (h1 : a.name = b.name) (h2 : a.version = b.version) (h3 : a.spans = b.spans) : a = b := by cases a; cases b; simp_all
theorem GRes.ext' {a b : GRes} (h1 : a.attrs = b.attrs) (h2 : a.scopes = b.scopes) : a = b := by cases a; cases b; simp_all
instance : DecidableEq GE := fun a b => decidable_of_iff (a.time = b.time ∧ a.name = b.name ∧ a.attrs = b.attrs) ⟨fun h => GE.ext' h.1 h.2.1 h.2.2, fun h => by rw [h]; exact ⟨rfl, rfl, rfl⟩⟩
instance : DecidableEq GL := fun a b => decidable_of_iff (a.trace = b.trace ∧ a.span = b.span ∧ a.state = b.state ∧ a.attrs = b.attrs) ⟨fun h => GL.ext' h.1 h.2.1 h.2.2.1 h.2.2.2, fun h => by rw [h]; exact ⟨rfl, rfl, rfl, rfl⟩⟩
instance : DecidableEq GSpan := fun a b => decidable_of_iff ((a.trace = b.trace ∧ a.id = b.id ∧ a.parent = b.parent ∧ a.state = b.state) ∧ (a.name = b.name ∧ a.kind = b.kind ∧ a.start = b.start ∧ a.fin = b.fin) ∧ (a.attrs = b.attrs ∧ a.events = b.events ∧ a.links = b.links) ∧ a.code = b.code ∧ a.note = b.note)
  ⟨fun h => GSpan.ext' h.1.1 h.1.2.1 h.1.2.2.1 h.1.2.2.2 h.2.1.1 h.2.1.2.1 h.2.1.2.2.1 h.2.1.2.2.2 h.2.2.1.1 h.2.2.1.2.1 h.2.2.1.2.2 h.2.2.2.1 h.2.2.2.2, fun h => by rw [h]; exact ⟨⟨rfl, rfl, rfl, rfl⟩, ⟨rfl, rfl, rfl, rfl⟩, ⟨rfl, rfl, rfl⟩, rfl, rfl⟩⟩
instance : DecidableEq GScope := fun a b => decidable_of_iff (a.name = b.name ∧ a.version = b.version ∧ a.spans = b.spans) ⟨fun h => GScope.ext' h.1 h.2.1 h.2.2, fun h => by rw [h]; exact ⟨rfl, rfl, rfl⟩⟩
instance : DecidableEq GRes := fun a b => decidable_of_iff (a.attrs = b.attrs ∧ a.scopes = b.scopes) ⟨fun h => GRes.ext' h.1 h.2, fun h => by rw [h]; exact ⟨rfl, rfl⟩⟩
def k_kind : ByteArray := ⟨#[115, 112, 97, 110, 46, 107, 105, 110, 100]⟩
def k_error : ByteArray := ⟨#[101, 114, 114, 111, 114]⟩
def k_code : ByteArray := ⟨#[111, 116, 101, 108, 46, 115, 116, 97, 116, 117, 115, 95, 99, 111, 100, 101]⟩
def k_note : ByteArray := ⟨#[111, 116, 101, 108, 46, 115, 116, 97, 116, 117, 115, 95, 100, 101, 115, 99, 114, 105, 112, 116, 105, 111, 110]⟩
def k4 : List ByteArray := [k_kind, k_error, k_code, k_note]
def xY : List GScope → List GSpan
  | [] => []
  | c :: cs => c.spans ++ xY cs
theorem spansOf_len : ∀ l : List GScope, (xY l).length ≤ zr GScope.wt l
  | [] => Nat.zero_le _
  | c :: l => by
    rw [xY, List.length_append, zr]
    have h1 := spansOf_len l
    have h2 := yJ GSpan.wt (fun e => by unfold GSpan.wt; omega) c.spans
    have h3 : c.wt = 1 + c.name.size + c.version.size + zr GSpan.wt c.spans := rfl
    omega
def plC (i : Nat) : Nat → List GScope → List (Nat × Nat × Nat)
  | _, [] => []
  | k, c :: cs => ((List.range c.spans.length).map fun m => (i, k, m)) ++ plC i (k + 1) cs
def plR : Nat → List GRes → List (Nat × Nat × Nat)
  | _, [] => []
  | i, r :: rs => plC i 0 r.scopes ++ plR (i + 1) rs
def plav (p : Nat × Nat × Nat) : AV := .agg [iv (p.1 : Int), iv (p.2.1 : Int), iv (p.2.2 : Int)]
theorem plC_snoc (i : Nat) (c : GScope) : ∀ (k : Nat) (l : List GScope), plC i k (l ++ [c]) = plC i k l ++ (List.range c.spans.length).map fun m => (i, k + l.length, m)
  | k, [] => by simp [plC]
  | k, x :: l => by
    simp only [List.cons_append, plC, plC_snoc i c (k + 1) l, List.append_assoc, List.length_cons]
    rw [show k + 1 + l.length = k + (l.length + 1) by omega]
theorem plR_snoc (r : GRes) : ∀ (i : Nat) (l : List GRes), plR i (l ++ [r]) = plR i l ++ plC (i + l.length) 0 r.scopes
  | i, [] => by simp [plR]
  | i, x :: l => by
    simp only [List.cons_append, plR, plR_snoc r (i + 1) l, List.append_assoc, List.length_cons]
    rw [show i + 1 + l.length = i + (l.length + 1) by omega]
theorem plC_take {i : Nat} {l : List GScope} {k : Nat} (h : k < l.length) : plC i 0 (l.take (k + 1)) = plC i 0 (l.take k) ++ (List.range (nthC l k).spans.length).map fun m => (i, k, m) := by
  rw [yS (xI (d := gc0) h), plC_snoc, List.length_take, Nat.min_eq_left (by omega), Nat.zero_add]; rfl
theorem plR_take {l : List GRes} {i : Nat} (h : i < l.length) : plR 0 (l.take (i + 1)) = plR 0 (l.take i) ++ plC i 0 (nthR l i).scopes := by
  rw [yS (xI (d := gr0) h), plR_snoc, List.length_take, Nat.min_eq_left (by omega), Nat.zero_add]; rfl
theorem plC_len (i : Nat) : ∀ (k : Nat) (l : List GScope), (plC i k l).length = (xY l).length
  | _, [] => rfl
  | k, c :: l => by rw [plC, xY, List.length_append, List.length_append, plC_len i (k + 1) l]; simp
end Go.Proofs
namespace Go.Proofs
open Go Go.Al
set_option maxRecDepth 10000
theorem rgCheck_c (r : Rg) : zj Tryz.prog Γ0 124 [r.av] [iv (rgCheckM r)] := by
  refine zb Tryz.func124 rfl Tryz.ntmps124 (by kernel_rfl) rfl fun w0 I0 G0 => ?_
  refine zD <| zB <| g_uG (zi 1001 rfl rfl rfl rfl) rfl <| g_u (zE rfl rfl) <| zF <| zA <| zD <| zD <| zB <| g_u (zG rfl rfl fa181_1 rfl) <| g_u (zH rfl rfl rfl tA45 tS45 rfl rfl) <| g_u (wl rfl rfl rfl) <| g_u (zC rfl rfl) <| zz (t := 6) rfl ?_
  rintro (hb1 | hb1)
  · rw [hb1]
    refine zI rfl rfl rfl <| zI rfl rfl rfl <| zI rfl rfl rfl <| zI rfl rfl rfl <| zI rfl rfl rfl <| g_u (zX rfl rfl rfl) <| zF <| zA <| zk rfl <| zD <| zB <| g_u (zE rfl rfl) <| zF <| zA <| zJ <| zK ?_
    exact ⟨⟨(rfl : toAV (Al.look _ _) = some _).trans (congrArg some (by (simp only [qa, qb, qc, ne_eq, beq_iff_eq, qd, beq_eq_false_iff_ne] at *; simp only [iv, rgCheckM]; first | rw [if_pos (by omega)] | rw [if_neg (by omega)]))), rfl⟩, trivial⟩
  · rw [hb1]
    refine zP rfl rfl (zG rfl rfl fa181_0 rfl) <| zP rfl rfl (zH rfl rfl rfl tA45 tS45 rfl rfl) <| zP rfl rfl (zG rfl rfl fa181_1 rfl) <| zP rfl rfl (zH rfl rfl rfl tA45 tS45 rfl rfl) <| zP rfl rfl (wl rfl rfl rfl) <| g_u (zg rfl rfl rfl) <| zF <| zA ?_
    refine zN rfl (fun hb2 => ?_) (fun hb2 => ?_)
    · refine zD ?_
      refine zB <| g_u (zE rfl rfl) <| zF <| zA <| zJ <| zK ?_
      exact ⟨⟨(rfl : toAV (Al.look _ _) = some _).trans (congrArg some (by (simp only [qa, qb, qc, ne_eq, beq_iff_eq, qd, beq_eq_false_iff_ne] at *; simp only [iv, rgCheckM]; first | rw [if_pos (by omega)] | rw [if_neg (by omega)]))), rfl⟩, trivial⟩
    · refine zO ?_
      refine zA <| zD <| zB <| g_u (zE rfl rfl) <| zF <| zA <| zJ ?_
      exact ⟨⟨(rfl : toAV (Al.look _ _) = some _).trans (congrArg some (by (simp only [qa, qb, qc, ne_eq, beq_iff_eq, qd, beq_eq_false_iff_ne] at *; simp only [iv, rgCheckM]; first | rw [if_pos (by omega)] | rw [if_neg (by omega)]))), rfl⟩, trivial⟩
attribute [local irreducible] wholeM ofR
end Go.Proofs
namespace Go.Proofs
open Go Go.Al
set_option maxRecDepth 10000
end Go.Proofs
namespace Go.Proofs
open Go Go.Al
end Go.Proofs
namespace Go.Proofs
open Go Go.Al
set_option maxRecDepth 10000
theorem plR_len : ∀ (i : Nat) (l : List GRes), (plR i l).length ≤ zr GRes.wt l
  | _, [] => Nat.le_refl _
  | i, r :: l => by
    rw [plR, List.length_append, plC_len, zr]
    have h1 := plR_len (i + 1) l
    have h2 := spansOf_len r.scopes
    have h3 : r.wt = 1 + wtAs r.attrs + zr GScope.wt r.scopes := rfl
    omega
end Go.Proofs
namespace Go.Proofs
open Go Go.Al
set_option maxRecDepth 10000
theorem eq42 (a b : List UInt8) : eqV Tryz.prog 100 42 (.arr 16 a) (.arr 16 b) = some (a == b) := by kernel_rfl
theorem eq44 (a b : List UInt8) : eqV Tryz.prog 100 44 (.arr 8 a) (.arr 8 b) = some (a == b) := by kernel_rfl
theorem eq50 (c d : Int) (m n : ByteArray) : eqV Tryz.prog 100 50 (.agg [iv c, sv m]) (.agg [iv d, sv n]) = some ((c == d) && ((m.toList == n.toList) && true)) := by kernel_rfl
end Go.Proofs
namespace Go.Al
open Go.RowKit
theorem up_bytes {l : List UInt8} {n : Nat} (h : l.length = n) : Up (.agg (zn l)) (.arr n l) := by
  have hw : ∀ x ∈ zn l, x.width = 1 := W1.bytes l
  refine ⟨rfl, ?_, fun w I c r => ?_⟩
  · have key : ∀ l : List UInt8, AV.widths (zn l) = l.length := by
      intro l
      induction l with
      | nil => rfl
      | cons b l ih => simp only [zn, List.map_cons, AV.widths, List.length_cons] at ih ⊢; rw [ih]; simp only [AV.width, wK, Value.cells]; show 1 + _ = _; omega
    show n = AV.widths (zn l)
    rw [key, h]
  · simp only [RepC] at r ⊢
    exact ⟨repE_bytes_inv l c ((repCs_E (n := 1) hw).1 r), h⟩
end Go.Al
namespace Go.Proofs
open Go Go.Al
set_option maxRecDepth 10000
theorem tV42 : ya Tryz.prog 42 (.agg (List.replicate 16 (.v (.int .u8 0)))) := ⟨.agg #[.int .u8 0, .int .u8 0, .int .u8 0, .int .u8 0, .int .u8 0, .int .u8 0, .int .u8 0, .int .u8 0, .int .u8 0, .int .u8 0, .int .u8 0, .int .u8 0, .int .u8 0, .int .u8 0, .int .u8 0, .int .u8 0], by kernel_rfl, by kernel_rfl⟩
theorem tV44 : ya Tryz.prog 44 (.agg (List.replicate 8 (.v (.int .u8 0)))) := ⟨.agg #[.int .u8 0, .int .u8 0, .int .u8 0, .int .u8 0, .int .u8 0, .int .u8 0, .int .u8 0, .int .u8 0], by kernel_rfl, by kernel_rfl⟩
end Go.Proofs
namespace Go.Al
open Go.RowKit
theorem SimG.turnOG {C : Cx} {A : Nat → SV} {G : Gh} {a : Act} {w : World} (S : SimG C A G a w) {g : Nat} {X' : SV} {o' : Obj}
    (how : Owned C.w0 C.E w (G.blk g)) (hni : ∀ o, ¬ G.I (G.blk g) o) (hown : zm G g (G.blk g) (A g)) (hown' : ∀ b, zm G g b X' → G.blk g = b)
    (hnew : Le w G.I (yH w (G.blk g) o') G.I → Holds C.w0 C.E G a (yH w (G.blk g) o') g X') :
    SimG C (upd A [(g, X')]) G a (yH w (G.blk g) o') := by
  have hlt : G.blk g < w.heap.size := how.2
  have hle : Le w G.I (yH w (G.blk g) o') G.I := fun b o h => ⟨h, by
    have : b ≠ G.blk g := by rintro rfl; exact hni o h
    exact yO (xE this)⟩
  have hu : ∀ k, upd A [(g, X')] k = if k = g then X' else A k := yo A g X'
  have conv : ∀ k b, zm G k b (upd A [(g, X')] k) → zm G k b (A k) := by
    intro k b h
    rw [hu] at h
    split at h
    · rename_i hk; subst hk; have := hown' b h; rw [← this]; exact hown
    · exact h
  refine ⟨S.os, S.tape, S.output, by rw [yR]; exact S.size, fun k h1 h2 => ?_, S.sub.trans hle, S.rel, S.glob.mono hle, S.new, fun b o h => by rw [yR]; exact S.val b o h, S.nts, S.dfs, fun k => ?_, fun k j b hkj h1 h2 => S.apart k j b hkj (conv k b h1) (conv j b h2)⟩
  · have : k ≠ G.blk g := by
      rintro rfl
      rcases how.1 with h | h
      · omega
      · exact h2 h
    rw [xE this]; exact S.block k h1 h2
  · rw [hu]
    split
    · rename_i hk; subst hk; exact hnew hle
    · rename_i hk
      refine (S.holds k).keep hle (GRel.refl G) (wU.1 _) (by rw [yR]; exact Nat.le_refl _) (fun h => ⟨h, rfl⟩) (fun _ => ⟨rfl, rfl, rfl⟩) (fun b hb => ⟨?_, fun _ h => h⟩)
      have : b ≠ G.blk g := by
        rintro rfl
        exact S.apart k g (G.blk g) hk hb hown
      exact xE this
theorem SimG.turnO {C : Cx} {A : Nat → SV} {G : Gh} {a : Act} {w : World} (S : SimG C A G a w) {g : Nat} {X' : SV} {o' : Obj}
    (how : Owned C.w0 C.E w (G.blk g)) (hni : ∀ o, ¬ G.I (G.blk g) o) (hown : zm G g (G.blk g) (A g)) (hown' : ∀ b, zm G g b X' → G.blk g = b)
    (hnew : Le w G.I (yH w (G.blk g) o') G.I → Holds C.w0 C.E G a (yH w (G.blk g) o') g X') :
    Sim C (upd A [(g, X')]) a (yH w (G.blk g) o') := ⟨G, S.turnOG how hni hown hown' hnew⟩
def mfind : List ByteArray → ByteArray → Nat → Option Nat
  | [], _, _ => none
  | x :: xs, s, i => if s = x then some i else mfind xs s (i + 1)
def strs (l : List ByteArray) : List AV := l.map fun s => .v (.string s)
def mputK (l : List ByteArray) (s : ByteArray) : List ByteArray := match mfind l s 0 with | some _ => l | none => l ++ [s]
def mputV (l : List ByteArray) (vs : List AV) (s : ByteArray) (v : AV) : List AV := match mfind l s 0 with | some i => vs.set i v | none => vs ++ [v]
theorem mfind_lt : ∀ {l : List ByteArray} {s : ByteArray} {i j : Nat}, mfind l s i = some j → i ≤ j ∧ j < i + l.length
  | x :: xs, s, i, j, h => by
    rw [mfind] at h
    split at h
    · cases h; simp
    · have := mfind_lt h; simp; omega
theorem mfind_get : ∀ {l : List ByteArray} {s : ByteArray} {i j : Nat}, mfind l s i = some j → l[j - i]? = some s
  | x :: xs, s, i, j, h => by
    rw [mfind] at h
    split at h
    · rename_i hs; cases h; simp [hs]
    · have h1 := mfind_lt h
      have h2 := mfind_get h
      rw [show j - i = (j - (i + 1)) + 1 by omega, List.getElem?_cons_succ]; exact h2
theorem repVs_strs {w : World} {I : Nat → Nat → Prop} : ∀ {l : List ByteArray} {vs : List Value}, yD w I (strs l) vs → vs = l.map Value.string
  | [], vs, h => by simpa [strs, yD] using h
  | x :: xs, vs, h => by
    simp only [strs, List.map_cons, yD] at h
    obtain ⟨c, r, rfl, h1, h2⟩ := h
    simp only [RepC] at h1
    rw [repVs_strs (l := xs) h2, h1.1]
    simp [mkV, AV.isAgg, Value.cells]
theorem ba_beq (a b : ByteArray) : (a == b) = decide (a = b) := by
  rcases a with ⟨a⟩; rcases b with ⟨b⟩
  show (a == b) = _
  rw [Bool.eq_iff_iff]; simp
theorem findNow_str : ∀ (es : List MapEntry) (l : List ByteArray) (s : ByteArray) (i : Nat), es.map (·.key) = l.map Value.string →
    Instr.findNow .string (.string s) es i = some ((mfind l s i).bind fun j => (es[j - i]?).map fun e => (j, e.val))
  | [], l, s, i, h => by
    cases l with
    | nil => rfl
    | cons x l => simp at h
  | e :: es, l, s, i, h => by
    cases l with
    | nil => simp at h
    | cons x l =>
      simp only [List.map_cons, List.cons.injEq] at h
      simp only [Instr.findNow, h.1, Instr.sameNow]
      by_cases hs : s = x
      · subst hs
        simp [mfind, ba_beq]
      · have : (s == x) = false := by rw [ba_beq]; simpa using hs
        rw [this]
        simp only
        rw [findNow_str es l s (i + 1) h.2, mfind, if_neg hs]
        cases hm : mfind l s (i + 1) with
        | none => rfl
        | some j =>
          have := mfind_lt hm
          simp only [Option.bind_some]
          rw [show j - i = (j - (i + 1)) + 1 by omega, List.getElem?_cons_succ]
theorem run_checkKey {P : Program} {kt : TypeId} {s : ByteArray} (h : P.underlying kt = some .string) (b : Bool) (n : Nat) (w : World) : (Instr.checkKey b (n + 1) kt (.string s)).run P w = .ok () w := by
  simp only [Instr.checkKey, Sem.run_bind, zR h, Result.andThen_ok, Sem.run_pure]
theorem run_findKey {P : Program} {kt : TypeId} {s : ByteArray} (h : P.underlying kt = some .string) {es : List MapEntry} {l : List ByteArray} (he : es.map (·.key) = l.map Value.string) (w : World) :
    (Instr.findKey kt (.string s) es).run P w = .ok ((mfind l s 0).bind fun j => (es[j]?).map fun e => (j, e.val)) w := by
  have := findNow_str es l s 0 he
  simp only [Nat.sub_zero] at this
  simp only [Instr.findKey, Sem.run_bind, zR h, Result.andThen_ok, this, Sem.run_pure]
theorem run_getMap {P : Program} {w : World} {r : Nat} {es : Array MapEntry} {ck : Nat} (h : w.heap[r]? = some (.map es ck)) : (getObj r).run P w = .ok (.map es ck) w := by simp [getObj, Sem.run, h]
theorem run_setMap {P : Program} {w : World} {r : Nat} {es : Array MapEntry} {ck : Nat} {o' : Obj} (h : w.heap[r]? = some (.map es ck)) : (setObj r o').run P w = .ok () (yH w r o') := by simp [setObj, Sem.run, h, yH]
section
variable {C : Cx} {A : Nat → SV} {d : Nat} {ty : TypeId} {pos : String} {af : Array Edge} {gd : Option (Nat × Bool)} {x y z : Operand} {T T' : TypeId}
theorem s_makeMap (g : Nat) (hgN : Nat.ble C.N g = true) (hgK : Nat.blt g C.K = true) (hN : Nat.blt d C.N = true) :
    zf C ⟨some d, .makeMap T none, ty, pos, af, gd⟩ [] [g] A [(g, .mpr [] []), (d, .mref g)] := by
  intro A' a w hR hF ⟨G, S⟩
  have hN' : d < C.N := by simpa [Nat.blt_eq] using hN
  have hgd : g ≠ d := by have := Nat.le_of_ble_eq_true hgN; omega
  unfold Oper.wp
  have hrun : (execOp a.eval ⟨some d, .makeMap T none, ty, pos, af, gd⟩).run C.P w = .ok (.value (.map (some w.heap.size))) (w.alloc (.map #[] 0)) := by
    simp only [execOp, Option.map_none, Instr.makeMap, Sem.run_bind, Sem.run_pure, Result.andThen_ok, run_newObj]
    rfl
  rw [hrun, Oper.upon_value]
  refine S.allocO hgd (by simpa [Nat.blt_eq] using hgK) hN' (fun _ _ h => by simpa only [zm] using h) (fun G' e _ hg hle hni => ?_) (fun G' e => ?_) (fun k hk => hF k hk)
  · simp only [Holds]
    refine ⟨⟨.inl (by rw [e]; exact S.size), by rw [e]; simp⟩, ⟨#[], by rw [e]; exact alloc_new, fun i h => by simp at h, by simp [yD], by simp [yD]⟩, fun o => ?_⟩
    rw [e]; exact hni o
  · exact ⟨[.map (some w.heap.size)], by simp [RepS, e], by simp [mkS, SV.isAgg]⟩
theorem repVs_set {w : World} {I : Nat → Nat → Prop} : ∀ {xs : List AV} {vs : List Value} {i : Nat} {y : AV} {v : Value}, yD w I xs vs → Rep w I y v → yD w I (xs.set i y) (vs.set i v)
  | [], vs, i, y, v, h, _ => by
    simp only [yD] at h; subst h; simp [yD]
  | x :: xs, vs, 0, y, v, h, k => by
    simp only [yD] at h
    obtain ⟨c, r, rfl, h1, h2⟩ := h
    obtain ⟨c', k1, k2⟩ := k
    simp only [List.set_cons_zero, yD]
    exact ⟨c', r, by rw [k2], k1, h2⟩
  | x :: xs, vs, i + 1, y, v, h, k => by
    simp only [yD] at h
    obtain ⟨c, r, rfl, h1, h2⟩ := h
    simp only [List.set_cons_succ, yD]
    exact ⟨c, _, rfl, h1, repVs_set h2 k⟩
theorem s_mapUpdate {g : Nat} {kt vt : TypeId} {l : List ByteArray} {vs : List AV} {s : ByteArray} {v : AV} (hx : opS A x = .mref g) (hg : A g = .mpr (strs l) vs) (hy : opV A y = some (.v (.string s))) (hz : opV A z = some v)
    (hT : C.P.underlying T = some (.map kt vt)) (hk : C.P.underlying kt = some .string) :
    zf C ⟨none, .mapUpdate T x y z, ty, pos, af, gd⟩ (g :: (opR x ++ (opR y ++ opR z))) [] A [(g, .mpr (strs (mputK l s)) (mputV l vs s v))] := by
  intro A' a w hR hF ⟨G, S⟩
  have hgA : A' g = .mpr (strs l) vs := (hR g List.mem_cons_self).trans hg
  obtain ⟨c, hc1, hc2⟩ := S.opS ((z8 (fun k hk => hR k (List.mem_cons_of_mem _ (List.mem_append_left _ hk)))).trans hx) rfl
  simp only [RepS] at hc1
  have hev : a.eval x = .map (some (G.blk g)) := by rw [hc2, hc1]; rfl
  rw [← zy (fun k hk => hR k (List.mem_cons_of_mem _ (List.mem_append_right _ (List.mem_append_left _ hk))))] at hy
  rw [← zy (fun k hk => hR k (List.mem_cons_of_mem _ (List.mem_append_right _ (List.mem_append_right _ hk))))] at hz
  have hys := xd (S.opV hy)
  have hzv := S.opV hz
  have hb := S.holds g
  rw [hgA] at hb
  simp only [Holds] at hb
  obtain ⟨how, ⟨es, h1, h2, h3, h4⟩, hni⟩ := hb
  have hkeys : es.toList.map (·.key) = l.map Value.string := repVs_strs h3
  have hlen : es.size = l.length := by have := congrArg List.length hkeys; simpa using this
  have hfind := run_findKey (P := C.P) (s := s) hk hkeys w
  have hobj := run_getMap (P := C.P) h1
  unfold Oper.wp
  cases hm : mfind l s 0 with
  | some i =>
    have hi := mfind_lt hm
    have hie : i < es.size := by omega
    have hkey : es[i].key = .string s := by
      have hk2 : (es.toList.map (·.key))[i]? = (l.map Value.string)[i]? := by rw [hkeys]
      have hsl : l[i]? = some s := by
        have := mfind_get hm
        simpa using this
      simp only [List.getElem?_map, hsl, Option.map_some] at hk2
      rw [Array.getElem?_toList, Array.getElem?_eq_getElem hie] at hk2
      simpa using hk2
    have hrun : (execOp a.eval ⟨none, .mapUpdate T x y z, ty, pos, af, gd⟩).run C.P w = .ok .skip (yH w (G.blk g) (.map (es.modify i fun e => { e with key := .string s, val := a.eval z }) es.size)) := by
      have e1 : (es[i]?).map (·.key) = some (.string s) := by rw [Array.getElem?_eq_getElem hie]; simp [hkey]
      have e2 : (es.toList[i]?).map (fun e => (i, e.val)) = some (i, es[i].val) := by rw [Array.getElem?_toList, Array.getElem?_eq_getElem hie]; rfl
      have e3 : Instr.sameBits 10000 (.string s) (.string s) = true := by simp [Instr.sameBits, ba_beq]
      simp only [execOp, Instr.mapUpdate, Sem.run_bind, zR hT, Result.andThen_ok, hev, hobj, hys, run_checkKey hk, hfind, hm, Option.bind_some, e2, e1, Option.getD_some, Instr.keyThatStays, e3, if_true, Sem.run_pure, run_setMap h1]
    rw [hrun, Oper.upon_skip]
    have hmp : mputK l s = l ∧ mputV l vs s v = vs.set i v := by unfold mputK mputV; rw [hm]; exact ⟨rfl, rfl⟩
    rw [hmp.1, hmp.2]
    refine S.turnO how hni (by rw [hgA]; simp [zm]) (fun b h => by simpa only [zm] using h) fun hle => ?_
    simp only [Holds]
    refine ⟨⟨how.1, by rw [yR]; exact how.2⟩, ⟨es.modify i fun e => { e with key := .string s, val := a.eval z }, by rw [xh how.2]; simp, fun j hj => ?_, ?_, ?_⟩, hni⟩
    · simp only [Array.getElem_modify]
      split
      · exact h2 j (by simpa using hj)
      · exact h2 j (by simpa using hj)
    · have : ((es.modify i fun e => { e with key := .string s, val := a.eval z }).toList.map (·.key)) = es.toList.map (·.key) := by
        refine List.ext_getElem (by simp) fun j h5 h6 => ?_
        simp only [List.getElem_map, Array.getElem_toList, Array.getElem_modify]
        split
        · rename_i hij; subst hij; rw [hkey]
        · rfl
      rw [this]; exact yD.mono hle _ _ h3
    · have : ((es.modify i fun e => { e with key := .string s, val := a.eval z }).toList.map (·.val)) = (es.toList.map (·.val)).set i (a.eval z) := by
        refine List.ext_getElem (by simp) fun j h5 h6 => ?_
        simp only [List.getElem_map, Array.getElem_toList, Array.getElem_modify, List.getElem_set]
        split <;> rfl
      rw [this]; exact repVs_set (yD.mono hle _ _ h4) (hzv.mono hle)
  | none =>
    have hrun : (execOp a.eval ⟨none, .mapUpdate T x y z, ty, pos, af, gd⟩).run C.P w = .ok .skip (yH w (G.blk g) (.map (es.push { key := .string s, val := a.eval z, born := es.size }) (es.size + 1))) := by
      simp only [execOp, Instr.mapUpdate, Sem.run_bind, zR hT, Result.andThen_ok, hev, hobj, hys, run_checkKey hk, hfind, hm, Option.bind_none, Sem.run_pure, run_setMap h1]
    rw [hrun, Oper.upon_skip]
    have hmp : mputK l s = l ++ [s] ∧ mputV l vs s v = vs ++ [v] := by unfold mputK mputV; rw [hm]; exact ⟨rfl, rfl⟩
    rw [hmp.1, hmp.2]
    refine S.turnO how hni (by rw [hgA]; simp [zm]) (fun b h => by simpa only [zm] using h) fun hle => ?_
    simp only [Holds]
    refine ⟨⟨how.1, by rw [yR]; exact how.2⟩, ⟨es.push { key := .string s, val := a.eval z, born := es.size }, by rw [xh how.2]; simp, fun j hj => ?_, ?_, ?_⟩, hni⟩
    · simp only [Array.getElem_push]
      split
      · rename_i hj2; exact h2 j hj2
      · rename_i hj2; simp at hj; show es.size = j; omega
    · have e : strs (l ++ [s]) = strs l ++ [.v (.string s)] := by simp [strs]
      rw [e]
      simp only [Array.toList_push, List.map_append, List.map_cons, List.map_nil]
      exact repVs_append (yD.mono hle _ _ h3) (by simp only [yD]; exact ⟨[.string s], [], by simp [mkV, AV.isAgg], by simp [RepC, Value.cells, Al.plain], rfl⟩)
    · simp only [Array.toList_push, List.map_append, List.map_cons, List.map_nil]
      obtain ⟨cz, k1, k2⟩ := hzv.mono hle
      exact repVs_append (yD.mono hle _ _ h4) (by simp only [yD]; exact ⟨cz, [], by rw [k2], k1, rfl⟩)
theorem s_lookup {g : Nat} {kt vt : TypeId} {l : List ByteArray} {vs : List AV} {s : ByteArray} {v : AV} {i : Nat} (hN : Nat.blt d C.N = true) (hx : opS A x = .mref g) (hg : A g = .mpr (strs l) vs) (hy : opV A y = some (.v (.string s)))
    (hT : C.P.underlying T = some (.map kt vt)) (hk : C.P.underlying kt = some .string) (hm : mfind l s 0 = some i) (hv : vs[i]? = some v) :
    zf C ⟨some d, .lookup T x y false, ty, pos, af, gd⟩ (g :: (opR x ++ opR y)) [] A [(d, .imm v)] := by
  refine zf.value rfl hN fun A' G a w hR S => ?_
  have hgA : A' g = .mpr (strs l) vs := (hR g List.mem_cons_self).trans hg
  obtain ⟨c, hc1, hc2⟩ := S.opS ((z8 (fun k hk => hR k (List.mem_cons_of_mem _ (List.mem_append_left _ hk)))).trans hx) rfl
  simp only [RepS] at hc1
  have hev : a.eval x = .map (some (G.blk g)) := by rw [hc2, hc1]; rfl
  rw [← zy (fun k hk => hR k (List.mem_cons_of_mem _ (List.mem_append_right _ hk)))] at hy
  have hys := xd (S.opV hy)
  have hb := S.holds g
  rw [hgA] at hb
  simp only [Holds] at hb
  obtain ⟨how, ⟨es, h1, h2, h3, h4⟩, hni⟩ := hb
  have hkeys : es.toList.map (·.key) = l.map Value.string := repVs_strs h3
  have hlen : es.size = l.length := by have := congrArg List.length hkeys; simpa using this
  have hi := mfind_lt hm
  have hie : i < es.size := by omega
  have hfind := run_findKey (P := C.P) (s := s) hk hkeys w
  have hobj := run_getMap (P := C.P) h1
  have e2 : (es.toList[i]?).map (fun e => (i, e.val)) = some (i, es[i].val) := by rw [Array.getElem?_toList, Array.getElem?_eq_getElem hie]; rfl
  obtain ⟨u, hu1, hu2⟩ := repVs_get h4 hv
  simp only [List.getElem?_map, Array.getElem?_toList, Array.getElem?_eq_getElem hie, Option.map_some, Option.some.injEq] at hu1
  refine ⟨u, ?_, zt.2 hu2⟩
  simp only [execOp, Instr.lookup, Sem.run_bind, zR hT, Result.andThen_ok, hev, hobj, hys, Sem.run_pure, run_checkKey hk, hfind, hm, Option.bind_some, e2, Bool.false_eq_true, if_false, hu1]
theorem s_range {gm : Nat} (g : Nat) {kt vt : TypeId} {ks vs : List AV} (hgN : Nat.ble C.N g = true) (hgK : Nat.blt g C.K = true) (hN : Nat.blt d C.N = true) (hgm : Nat.beq g gm = false) (hx : opS A x = .mref gm) (hg : A gm = .mpr ks vs) (hT : C.P.underlying T = some (.map kt vt)) :
    zf C ⟨some d, .range T x, ty, pos, af, gd⟩ (gm :: opR x) [g] A [(g, .itr gm ks.length []), (d, .ptr g 0)] := by
  intro A' a w hR hF ⟨G, S⟩
  have hN' : d < C.N := by simpa [Nat.blt_eq] using hN
  have hgd : g ≠ d := by have := Nat.le_of_ble_eq_true hgN; omega
  have hgne : gm ≠ g := by rintro rfl; rw [Nat.beq_refl] at hgm; cases hgm
  have hgA : A' gm = .mpr ks vs := (hR gm List.mem_cons_self).trans hg
  obtain ⟨c, hc1, hc2⟩ := S.opS ((z8 (fun k hk => hR k (List.mem_cons_of_mem _ hk))).trans hx) rfl
  simp only [RepS] at hc1
  have hev : a.eval x = .map (some (G.blk gm)) := by rw [hc2, hc1]; rfl
  have hb := S.holds gm
  rw [hgA] at hb
  simp only [Holds] at hb
  obtain ⟨how, ⟨es, h1, h2, h3, h4⟩, hni⟩ := hb
  have hlen : es.size = ks.length := by have := vD h3; simpa using this
  unfold Oper.wp
  have hrun : (execOp a.eval ⟨some d, .range T x, ty, pos, af, gd⟩).run C.P w = .ok (.value (.pointer (some ⟨w.heap.size, 0, none⟩))) (w.alloc (.mapIter (some (G.blk gm)) es.size #[] es.size)) := by
    simp only [execOp, Instr.range, Sem.run_bind, zR hT, Result.andThen_ok, hev, run_getMap h1, Sem.run_pure, run_newObj]
    rfl
  rw [hrun, Oper.upon_value]
  refine S.allocO hgd (by simpa [Nat.blt_eq] using hgK) hN' (fun _ _ h => by simpa only [zm] using h) (fun G' e hother hg hle hni => ?_) (fun G' e => ?_) (fun k hk => hF k hk)
  · simp only [Holds]
    refine ⟨⟨.inl (by rw [e]; exact S.size), by rw [e]; simp⟩, ?_, fun o => ?_⟩
    · rw [e, hother gm hgne, ← hlen]; exact alloc_new
    · rw [e]; exact hni o
  · exact ⟨[.pointer (some ⟨w.heap.size, 0, none⟩)], by simp [RepS, e], by simp [mkS, SV.isAgg]⟩
end
end Go.Al
namespace Go.Al
open Go.RowKit
def units (n : Nat) : List AV := List.replicate n (.agg [])
@[simp] theorem units_length (n : Nat) : (units n).length = n := List.length_replicate
theorem repM_units {w : World} {I : Nat → Nat → Prop} : ∀ (n b o : Nat), RepM w I 0 (units n) b o
  | 0, _, _ => by simp only [units, List.replicate_zero, RepM]
  | n + 1, b, o => by
    have := repM_units (w := w) (I := I) n b (o + 0)
    simp only [units] at this
    simp only [units, List.replicate_succ, RepM]
    exact ⟨⟨[], rfl, by simp only [RepC, yx], fun j hj => by simp at hj⟩, this⟩
theorem repS_units {w : World} {G : Gh} {g n b cap : Nat} (h : n = G.len g) (hc : G.cur g = .slice (some ⟨b, 0, none⟩) n cap) (h1 : n ≤ cap) (h2 : cap ≤ maxLen) : RepS w G (.slg g 0 (units n)) [.slice (some ⟨b, 0, none⟩) n cap] := by
  simp only [RepS, RepC]
  exact ⟨_, rfl, ⟨_, rfl, .inr ⟨b, 0, cap, by simp, by simpa using h1, h2, repM_units n b 0⟩⟩, by simp [h], fun _ => hc.symm⟩
def inRow (G : Gh) (g k : Nat) : Prop := ∃ a n c, G.cur g = .slice (some a) n c ∧ a.block = k
theorem SimG.turnR {C : Cx} {A : Nat → SV} {G : Gh} {a : Act} {w w' : World} (S : SimG C A G a w) {g : Nat} {l l' : List ByteArray} {v' : Value} (hA : A g = .row l)
    (hos : w'.os = w.os) (htape : w'.tape = w.tape) (hout : w'.output = w.output) (hsz : w.heap.size ≤ w'.heap.size) (hblk : ∀ k, k < w.heap.size → ¬ inRow G g k → w'.heap[k]? = w.heap[k]?)
    (hlt : l.length < l'.length) (hrow : RowS C.w0 C.E G.I w' v' l') (hnew : ∀ ad n c, v' = .slice (some ad) n c → inRow G g ad.block ∨ w.heap.size ≤ ad.block) :
    SimG C (upd A [(g, .row l')]) { G with cur := fun j => if j = g then v' else G.cur j, len := fun j => if j = g then l'.length else G.len j } a w' := by
  let G' : Gh := { G with cur := fun j => if j = g then v' else G.cur j, len := fun j => if j = g then l'.length else G.len j }
  have hh := S.holds g
  rw [hA] at hh
  simp only [Holds] at hh
  obtain ⟨hlen, hr⟩ := hh
  have hown : ∀ k, inRow G g k → zm G g k (A g) := fun k hk => by rw [hA]; simp only [zm]; exact hk
  have hni : ∀ k o, inRow G g k → ¬ G.I k o := by
    rintro k o ⟨ad, n, c, e1, rfl⟩
    rcases hr with ⟨e, _⟩ | ⟨b, cap, e, _, _, _, _, h8⟩
    · rw [e] at e1; cases e1
    · rw [e] at e1; cases e1; exact h8 o
  have hle : Le w G.I w' G'.I := fun b o h => ⟨h, yO (hblk b (S.val b o h) fun hk => hni b o hk h)⟩
  have hg : GRel [] G G' := fun j _ => by
    refine ⟨rfl, ?_⟩
    by_cases hj : j = g
    · right; simp only [G', hj, if_true]; omega
    · left; simp only [G', if_neg hj]; exact ⟨trivial, trivial⟩
  have conv : ∀ k b, zm G' k b (upd A [(g, .row l')] k) → (k = g ∧ (inRow G g b ∨ w.heap.size ≤ b)) ∨ (k ≠ g ∧ zm G k b (A k)) := by
    intro k b h
    rw [yo] at h
    split at h
    · rename_i hk
      simp only [zm, G', hk, if_true] at h
      obtain ⟨ad, n, c, e1, rfl⟩ := h
      exact .inl ⟨hk, hnew ad n c e1⟩
    · rename_i hk
      refine .inr ⟨hk, ?_⟩
      revert h
      generalize A k = y
      cases y <;> simp only [zm, G', if_neg hk] <;> exact id
  refine ⟨hos.trans S.os, htape.trans S.tape, hout.trans S.output, Nat.le_trans S.size hsz, fun k h1 h2 => ?_, S.sub.trans hle, fun j hj => (S.rel j hj).trans (hg j (by simp)), S.glob.mono hle, S.new, fun b o h => Nat.lt_of_lt_of_le (S.val b o h) hsz, S.nts, S.dfs, fun k => ?_, ?_⟩
  · rw [hblk k (Nat.lt_of_lt_of_le h1 S.size) ?_]
    · exact S.block k h1 h2
    · rintro ⟨ad, n, c, e1, rfl⟩
      rcases hr with ⟨e, _⟩ | ⟨b, cap, e, _, _, h4, _⟩
      · rw [e] at e1; cases e1
      · rw [e] at e1; cases e1
        rcases h4.1 with h | h
        · simp only at h1; omega
        · exact h2 h
  · rw [yo]
    split
    · rename_i hk; subst hk
      simp only [Holds, G', if_true]
      exact ⟨trivial, hrow⟩
    · rename_i hk
      refine (S.holds k).keep hle hg (wU.1 _) hsz (fun h => ⟨h, rfl⟩) (fun _ => ⟨rfl, by simp only [G', if_neg hk], by simp only [G', if_neg hk]⟩) (fun b hb => ⟨hblk b (xy S hb) fun hin => S.apart k g b hk hb (hown b hin), fun _ h => h⟩)
  · intro k j b hkj h1 h2
    rcases conv k b h1 with ⟨e1, e2⟩ | ⟨e1, e2⟩ <;> rcases conv j b h2 with ⟨e3, e4⟩ | ⟨e3, e4⟩
    · exact hkj (e1.trans e3.symm)
    · rcases e2 with e2 | e2
      · exact S.apart j g b e3 e4 (hown b e2)
      · have := xy S e4; omega
    · rcases e4 with e4 | e4
      · exact S.apart k g b e1 e2 (hown b e4)
      · have := xy S e2; omega
    · exact S.apart k j b hkj e2 e4
theorem SimG.newrow {C : Cx} {A : Nat → SV} {G : Gh} {a : Act} {w : World} (S : SimG C A G a w) {g k : Nat} (hgN : C.N ≤ g) (hgK : g < C.K) (hk : A k = .imm (.v (.slice none 0 0))) (hf : ∀ j, noG [g] (A j) = true) :
    Sim C (upd A [(g, .row []), (k, .slg g 0 (units 0))]) a w := by
  let G' : Gh := { G with cur := fun j => if j = g then .slice none 0 0 else G.cur j, len := fun j => if j = g then 0 else G.len j }
  have hg : GRel [g] G G' := fun j hj => by
    have hjg : j ≠ g := by simpa using hj
    exact ⟨rfl, .inl ⟨by simp only [G', if_neg hjg], by simp only [G', if_neg hjg]⟩⟩
  have hle := Le.refl w G.I
  have hkN : k < C.N := by
    have := S.holds k
    rw [hk] at this
    have h1 := this.1
    rw [S.nts] at h1; exact h1
  have hkg : g ≠ k := by omega
  have hu : ∀ j, upd A [(g, .row []), (k, .slg g 0 (units 0))] j = if j = g then .row [] else if j = k then .slg g 0 (units 0) else A j := by
    intro j
    simp only [upd]
    by_cases h1 : j = g
    · subst h1; simp
    · rw [zS (Ne.symm h1), if_neg h1]
      by_cases h2 : j = k
      · subst h2; simp
      · rw [zS (Ne.symm h2), if_neg h2]; rfl
  have own' : ∀ j b, zm G' j b (upd A [(g, .row []), (k, .slg g 0 (units 0))] j) → j ≠ g ∧ zm G j b (A j) := by
    intro j b h
    rw [hu] at h
    split at h
    · rename_i hj
      simp only [zm, G', hj, if_true] at h
      obtain ⟨_, _, _, h1, _⟩ := h
      cases h1
    · rename_i hj
      refine ⟨hj, ?_⟩
      split at h
      · simp only [zm] at h
      · revert h
        generalize A j = y
        cases y <;> simp only [zm, G', if_neg hj] <;> exact id
  refine ⟨G', S.os, S.tape, S.output, S.size, S.block, S.sub.trans hle, fun j hj => (S.rel j hj).trans (hg j (by simp; omega)), S.glob, S.new, S.val, S.nts, S.dfs, fun j => ?_, fun j j' b hj h1 h2 => S.apart j j' b hj (own' j b h1).2 (own' j' b h2).2⟩
  rw [hu]
  split
  · rename_i hj; subst hj
    simp only [Holds, G', if_true]
    exact ⟨rfl, .inl ⟨rfl, rfl⟩⟩
  · rename_i hj
    split
    · rename_i hjk; subst hjk
      have hh := S.holds j
      rw [hk] at hh
      refine ⟨hh.1, ⟨[.slice none 0 0], ?_, ?_⟩⟩
      · simp only [RepS, RepC]
        exact ⟨_, rfl, ⟨_, rfl, .inl (by simpa [units] using nil_sl 0)⟩, by simp [units], fun _ => by simp only [G', if_true]⟩
      · exact wT (S.imm hk) rfl
    · exact (S.holds j).keep hle hg (hf j) (Nat.le_refl _) (fun h => ⟨h, rfl⟩) (fun _ => ⟨rfl, by simp only [G', if_neg hj], by simp only [G', if_neg hj]⟩) (fun b _ => ⟨rfl, fun _ h => h⟩)
theorem aw_newrow {C : Cx} {c : Code} {st : St} {Q : Exit → St → Prop} (g k : Nat) (hgN : Nat.ble C.N g = true) (hgK : Nat.blt g C.K = true) (hk : look st k = .imm (.v (.slice none 0 0))) (hf : freshB [g] st = true)
    (h : AW C c ((g, .row []) :: (k, .slg g 0 (units 0)) :: st) Q) : AW C c st Q := by
  intro a w ⟨G, S⟩
  have := S.newrow (Nat.le_of_ble_eq_true hgN) (by simpa [Nat.blt_eq] using hgK) hk (wO st hf)
  rw [xP] at this
  exact h a w this
theorem run_append_fit {P : Program} {w : World} {T T' ty el T1 : TypeId} {b len cap n : Nat} {cs : Array Value} {T0 : TypeId} {fr : Nat × Nat} {y : Value} {e : Value} (hT : P.underlying T = some (.slice el)) (hT' : P.underlying T' = some (.slice T1)) (hn : yA P el = some 1)
    (hfit : len + 1 ≤ cap) (hb : w.heap[b]? = some (.cells cs T0 fr)) (hsz : cs.size = cap) (huf : unfrozen fr cs.size) (hp : plain e = true)
    (k2 : (Builtin.lenOf y).run P w = .ok 1 w) (k3 : (Builtin.firstCells 1 1 y).run P w = .ok #[e] w) :
    (Builtin.append_ #[T, T'] ty #[.slice (some ⟨b, 0, none⟩) len cap, y]).run P w = .ok (.slice (some ⟨b, 0, none⟩) (len + 1) cap) (yH w b (.cells (ye cs len [e]) T0 fr)) := by
  have e1 : (#[T, T'] : Array TypeId)[0]? = some T := rfl
  have e2 : (#[T, T'] : Array TypeId)[1]? = some T' := rfl
  have e3 : (#[Value.slice (some ⟨b, 0, none⟩) len cap, y] : Array Value)[0]? = some (Value.slice (some ⟨b, 0, none⟩) len cap) := rfl
  have e4 : (#[Value.slice (some ⟨b, 0, none⟩) len cap, y] : Array Value)[1]? = some y := rfl
  have hst := xK (P := P) (b := b) (o := len * 1) [e] 0 w cs hb huf (by simp; omega) (by simp [hp])
  simp only [Builtin.append_, e1, e2, e3, e4]
  simp only [Sem.run_bind, zR hT, zR hT', Result.andThen_ok, yE hn, Sem.run_pure, Bool.false_eq_true, if_false, k2]
  simp only [hfit, if_true, Bool.not_false, Sem.run_bind, k3, Result.andThen_ok, xk, Nat.zero_add, Sem.run_pure]
  rw [hst]
  simp only [Result.andThen_ok, Nat.mul_one, Nat.add_zero]
theorem run_append_grow {P : Program} {w : World} {T T' ty el T1 : TypeId} {base : Option Addr} {len sCap by_ : Nat} {old : List Value} {y : Value} {e z : Value} {inf : TypeInfo} (hT : P.underlying T = some (.slice el)) (hT' : P.underlying T' = some (.slice T1)) (hn : yA P el = some 1)
    (hz : wE P el = some z) (hzn : z.cells.size = 1) (hi : P.info? el = some inf) (hib : inf.bytes = by_) (hB : (2 * (len + 1) + 192) * by_ ≤ 281474976710656) (hL : len + 1 < 9223372036854775808) (hlt : sCap < len + 1) (hsl : sCap ≤ len + 1)
    (hol : old.length = len) (k2 : ∀ w0 : World, w0.heap = w.heap → (Builtin.lenOf y).run P w0 = .ok 1 w0 ∧ (Builtin.firstCells 1 1 y).run P w0 = .ok #[e] w0)
    (hold : ∀ w0 : World, w0.heap = w.heap → (Builtin.firstCells 1 len (.slice base len sCap)).run P w0 = .ok old.toArray w0) :
    ∃ newCap cs n, len + 1 ≤ newCap ∧ newCap ≤ maxLen ∧ cs.size = newCap ∧ cs.toList.take (len + 1) = old ++ [e] ∧
      (Builtin.append_ #[T, T'] ty #[.slice base len sCap, y]).run P w = .ok (.slice (some ⟨w.heap.size, 0, none⟩) (len + 1) newCap) (World.alloc { w with drawn := n } (.cells cs el)) := by
  obtain ⟨newCap, hnew⟩ : ∃ k, k = Question.cut (.appendCap (len + 1) sCap el) (w.tape w.drawn (.appendCap (len + 1) sCap el)) := ⟨_, rfl⟩
  have hnc : len + 1 ≤ newCap ∧ newCap ≤ maxLen := by
    have h63 : (0 : Nat) < 2 ^ 63 - (len + 1) := by omega
    rw [hnew]
    constructor
    · simp only [Question.cut]; omega
    · simp only [Question.cut]
      have := Nat.mod_lt (w.tape w.drawn (.appendCap (len + 1) sCap el)) h63
      unfold maxLen
      omega
  let cs : Array Value := old.toArray ++ #[e] ++ Builtin.zeroCells z.cells (newCap - (len + 1))
  have hcs : cs.toList.take (len + 1) = old ++ [e] := by
    have : cs.toList = (old ++ [e]) ++ (Builtin.zeroCells z.cells (newCap - (len + 1))).toList := by simp [cs]
    rw [this, List.take_append_of_le_length (by simp [hol]), List.take_of_length_le (by simp [hol])]
  have hcsz : cs.size = newCap := by
    have hzc : (Builtin.zeroCells z.cells (newCap - (len + 1))).size = (newCap - (len + 1)) := by simp [Builtin.zeroCells, hzn]
    simp only [cs, Array.size_append, hzc]
    simp [hol]; omega
  refine ⟨newCap, cs, w.drawn + 1, hnc.1, hnc.2, hcsz, hcs, ?_⟩
  have hbd := nextslicecap_bound (need := len + 1) (old := sCap) hsl
  have hnb : ¬ (Builtin.nextslicecap (len + 1) sCap * inf.bytes > 2 ^ 48) := by
    rw [hib]
    have := Nat.mul_le_mul_right by_ hbd
    have : (2 : Nat) ^ 48 = 281474976710656 := rfl
    omega
  have hi1 : ¬ (((len + 1 : Nat) : Int) > IntKind.i64.max) := by
    have : IntKind.i64.max = 9223372036854775807 := by decide
    rw [this]; omega
  have hfc1 := hold ⟨w.heap, w.tape, w.drawn + 1, w.os, w.output⟩ rfl
  have hfc2 : (Builtin.firstCells 1 1 y).run P ⟨w.heap, w.tape, w.drawn + 1, w.os, w.output⟩ = .ok #[e] ⟨w.heap, w.tape, w.drawn + 1, w.os, w.output⟩ := (k2 ⟨w.heap, w.tape, w.drawn + 1, w.os, w.output⟩ rfl).2
  have hnf : (Question.appendCap (len + 1) sCap el).forced = false := rfl
  have e1 : (#[T, T'] : Array TypeId)[0]? = some T := rfl
  have e2 : (#[T, T'] : Array TypeId)[1]? = some T' := rfl
  have e3 : (#[Value.slice base len sCap, y] : Array Value)[0]? = some (Value.slice base len sCap) := rfl
  have e4 : (#[Value.slice base len sCap, y] : Array Value)[1]? = some y := rfl
  have hne : ¬ (len + 1 ≤ sCap) := by omega
  have k2' := (k2 w rfl).1
  simp only [Builtin.append_, e1, e2, e3, e4]
  simp only [Sem.run_bind, zR hT, zR hT', Result.andThen_ok, yE hn, Sem.run_pure, Bool.false_eq_true, if_false, k2', hne, xB hi, Sem.run_ite, false_or]
  simp only [hi1, false_and, if_false, Bool.not_false, if_true, Sem.run_bind, run_choose, hnf, Bool.false_eq_true, hnb, Result.andThen_ok, ← hnew, run_askRoom, hfc1, hfc2, y3 hz, newRow, run_newObj, Sem.run_pure]
  rfl
section
variable {C : Cx} {A : Nat → SV} {d : Nat} {ty : TypeId} {pos : String} {af : Array Edge} {gd : Option (Nat × Bool)} {x y z : Operand} {T T' : TypeId}
theorem s_appendR {g by_ : Nat} {l : List ByteArray} {s : ByteArray} {el : TypeId} {T1 : TypeId} {z : Value} (hgN : Nat.ble C.N g = true) (hN : Nat.blt d C.N = true) (hx : opS A x = .slg g 0 (units l.length)) (hg : A g = .row l) (hy : opV A y = some (.sl 1 [.v (.string s)])) (hT : C.P.underlying T = some (.slice el)) (hT' : C.P.underlying T' = some (.slice T1))
    (hn : yA C.P el = some 1) (hz : wE C.P el = some z) (hzn : z.cells.size = 1) (hb : (C.P.info? el).map (·.bytes) = some by_) (hB : (2 * (l.length + 1) + 192) * by_ ≤ 281474976710656) (hL : l.length + 1 < 9223372036854775808) :
    zf C ⟨some d, .call { callee := .builtin .append, args := #[x, y], argTypes := #[T, T'] }, ty, pos, af, gd⟩ (g :: (opR x ++ opR y)) [] A [(g, .row (l ++ [s])), (d, .slg g 0 (units (l.length + 1)))] := by
  intro A' a w hR hF ⟨G, S⟩
  have hgA : A' g = .row l := (hR g List.mem_cons_self).trans hg
  have hgd : g ≠ d := by
    have h1 := Nat.le_of_ble_eq_true hgN
    have h2 : d < C.N := by simpa [Nat.blt_eq] using hN
    omega
  obtain ⟨c, hc1, hc2⟩ := S.opS ((z8 (fun k hk => hR k (List.mem_cons_of_mem _ (List.mem_append_left _ hk)))).trans hx) rfl
  simp only [RepS] at hc1
  obtain ⟨v, rfl, hv1, hv2, hv3⟩ := hc1
  have hx' : a.eval x = v := hc2
  rw [← zy (fun k hk => hR k (List.mem_cons_of_mem _ (List.mem_append_right _ hk)))] at hy
  have hyR := S.opV hy
  have ht := S.holds g
  rw [hgA] at ht
  simp only [Holds] at ht
  obtain ⟨hlen, ht⟩ := ht
  have hcur : v = G.cur g := hv3 (by simpa using hlen.symm)
  obtain ⟨es, k1, k23⟩ := run_firstCells (P := C.P) hyR
  have hes : es = [.string s] := by
    simp only [RepE] at k1
    obtain ⟨c1, c2, rfl, _, h1, rfl⟩ := k1
    simp only [RepC] at h1
    rw [h1.1]; simp [Value.cells]
  subst hes
  obtain ⟨inf, hi, hib⟩ : ∃ inf, C.P.info? el = some inf ∧ inf.bytes = by_ := by
    cases hi : C.P.info? el with
    | none => rw [hi] at hb; cases hb
    | some inf => rw [hi] at hb; exact ⟨inf, rfl, by simpa using hb⟩
  have fin : ∀ (v' : Value) (w' : World), (Builtin.append_ #[T, T'] ty #[a.eval x, a.eval y]).run C.P w = .ok v' w' → SimG C (upd A' [(g, .row (l ++ [s]))]) { G with cur := fun j => if j = g then v' else G.cur j, len := fun j => if j = g then (l ++ [s]).length else G.len j } a w' →
      (∃ b cap, v' = .slice (some ⟨b, 0, none⟩) (l.length + 1) cap ∧ l.length + 1 ≤ cap ∧ cap ≤ maxLen) →
      (execOp a.eval ⟨some d, .call { callee := .builtin .append, args := #[x, y], argTypes := #[T, T'] }, ty, pos, af, gd⟩).run C.P w = .ok (.value v') w' ∧ Sim C (upd A' [(g, .row (l ++ [s])), (d, .slg g 0 (units (l.length + 1)))]) (a.put (some d) v') w' := by
    rintro v' w' hrun S' ⟨b, cap, rfl, h1, h2⟩
    refine ⟨run_resolve_append hrun, ?_⟩
    have := S'.put (d := d) (by simpa [Nat.blt_eq] using hN) (x := .slg g 0 (units (l.length + 1))) (v := .slice (some ⟨b, 0, none⟩) (l.length + 1) cap) ⟨[.slice (some ⟨b, 0, none⟩) (l.length + 1) cap], repS_units (by simp) (by simp) h1 h2, rfl⟩
    have e : upd (upd A' [(g, .row (l ++ [s]))]) [(d, .slg g 0 (units (l.length + 1)))] = upd A' [(g, .row (l ++ [s])), (d, .slg g 0 (units (l.length + 1)))] := by
      funext k
      simp only [upd]
      by_cases hkd : d = k
      · subst hkd; rw [zS hgd]; simp
      · rw [zS hkd]; simp
    rw [e] at this
    exact ⟨_, this⟩
  have key : ∃ v' w', (execOp a.eval ⟨some d, .call { callee := .builtin .append, args := #[x, y], argTypes := #[T, T'] }, ty, pos, af, gd⟩).run C.P w = .ok (.value v') w' ∧ Sim C (upd A' [(g, .row (l ++ [s])), (d, .slg g 0 (units (l.length + 1)))]) (a.put (some d) v') w' := by
    have grow : ∀ (base : Option Addr) (sCap : Nat), a.eval x = .slice base l.length sCap → sCap < l.length + 1 → sCap ≤ l.length + 1 → (∀ w0 : World, w0.heap = w.heap → (Builtin.firstCells 1 l.length (.slice base l.length sCap)).run C.P w0 = .ok (l.map Value.string).toArray w0) →
        ∃ v' w', (execOp a.eval ⟨some d, .call { callee := .builtin .append, args := #[x, y], argTypes := #[T, T'] }, ty, pos, af, gd⟩).run C.P w = .ok (.value v') w' ∧ Sim C (upd A' [(g, .row (l ++ [s])), (d, .slg g 0 (units (l.length + 1)))]) (a.put (some d) v') w' := by
      intro base sCap hev h1 h2 hold
      obtain ⟨newCap, cs, n, q1, q2, q3, q4, q5⟩ := run_append_grow (P := C.P) (w := w) (ty := ty) (base := base) (len := l.length) (sCap := sCap) (old := l.map Value.string) (y := a.eval y) (e := .string s) hT hT' hn hz hzn hi hib hB hL h1 h2 (by simp) (fun w0 h => k23 w0 h) hold
      rw [← hev] at q5
      refine ⟨_, _, fin _ _ q5 (S.turnR hgA rfl rfl rfl (by simp) (fun k hk _ => alloc_old (w := { w with drawn := n }) hk) (by simp) (.inr ⟨w.heap.size, newCap, by simp, by simpa using q1, q2, ⟨.inl S.size, by simp⟩, ⟨cs, el, alloc_new (w := { w with drawn := n }), q3, by simpa using q4⟩, fun o hi => ?_⟩) (fun ad n' c h => by cases h; exact .inr (Nat.le_refl _))) ⟨_, _, rfl, q1, q2⟩⟩
      have := S.val _ _ hi
      omega
    rcases ht with ⟨e, rfl⟩ | ⟨b, cap, e, h2, h3, h4, ⟨cs, T0, h5, h6, h7⟩, h8⟩
    · have hev : a.eval x = .slice none 0 0 := by rw [hx', hcur, e]
      exact grow none 0 hev (by simp) (by simp) (fun w0 _ => rfl)
    · have hev : a.eval x = .slice (some ⟨b, 0, none⟩) l.length cap := by rw [hx', hcur, e]
      by_cases hfit : l.length + 1 ≤ cap
      · have hr := run_append_fit (P := C.P) (w := w) (ty := ty) (y := a.eval y) (e := .string s) (n := 1) hT hT' hn hfit h5 h6 (fun o _ => by simp) rfl (k23 w rfl).1 (k23 w rfl).2
        rw [← hev] at hr
        have hblt : b < w.heap.size := h4.2
        refine ⟨_, _, fin _ _ hr (S.turnR hgA rfl rfl rfl (by rw [yR]; exact Nat.le_refl _) (fun k hk hn => xE (fun hkb => hn ⟨⟨b, 0, none⟩, _, _, e, hkb.symm⟩)) (by simp)
          (.inr ⟨b, cap, by simp, by simpa using hfit, h3, ⟨h4.1, by rw [yR]; exact h4.2⟩, ⟨_, T0, xh hblt, by simp [ye, h6], ?_⟩, h8⟩) (fun ad n' c h => by cases h; exact .inl ⟨_, _, _, e, rfl⟩)) ⟨_, _, rfl, hfit, h3⟩⟩
        simp only [ye, Nat.add_zero, List.length_append, List.length_cons, List.length_nil]
        rw [Array.toList_setIfInBounds]
        apply List.ext_getElem?
        intro j
        by_cases hj : j < l.length
        · have h9 : (cs.toList.take l.length)[j]? = (l.map Value.string)[j]? := by rw [h7]
          rw [List.getElem?_take_of_lt hj] at h9
          rw [List.getElem?_take_of_lt (by omega), List.getElem?_set_ne (by omega), h9, List.map_append, List.getElem?_append_left (by simpa using hj)]
        · by_cases hj2 : j = l.length
          · subst hj2
            rw [List.getElem?_take_of_lt (by omega), List.getElem?_set_self (by simp; omega), List.map_append, List.getElem?_append_right (by simp)]
            simp
          · rw [List.getElem?_take_eq_none (by omega), List.getElem?_eq_none (by simp; omega)]
      · refine grow _ cap hev (by omega) (by omega) fun w0 hw0 => ?_
        simp only [Builtin.firstCells]
        have hl : (l.map Value.string).length = l.length * 1 := by simp
        rw [← hl]
        refine xb (l.map Value.string) fun j hj => ?_
        have hj' : j < l.length := by simpa using hj
        have h9 : (cs.toList.take l.length)[j]? = (l.map Value.string)[j]? := by rw [h7]
        rw [List.getElem?_take_of_lt hj', Array.getElem?_toList] at h9
        simp only [World.cell?, hw0, h5, Nat.zero_add]
        simp only [Option.isSome_none, Bool.false_eq_true, if_false]
        rw [h9]
        simp [hj']
  obtain ⟨v', w', hrun, S'⟩ := key
  unfold Oper.wp
  rw [hrun, Oper.upon_value]
  exact S'
end
end Go.Al
namespace Go.Al
open Go.RowKit
def xc (l : List ByteArray) : List ByteArray := ((l.map fun s => s.data.toList).mergeSort fun x y => decide (x ≤ y)).map fun b => ⟨b.toArray⟩
theorem sortB_length (l : List ByteArray) : (xc l).length = l.length := by simp [xc]
structure SortC (P : Program) (Γ : List (Nat × AV)) (f : FuncId) : Prop where
  call : callable P f = true
  sorts : ∀ (blk cap : Nat) (ss : List (List UInt8)) (w : World), Sort.Holds Proofs.encStr w blk 0 ss.toArray → blk < w.heap.size → ss.length < 4611686018427387904 →
    Calls P f #[.slice (some ⟨blk, 0, none⟩) ss.length cap] w fun e w' =>
      e = .returned (.tuple #[]) ∧ ∃ n os, w' = Sort.grow (Sort.putRow Proofs.encStr (Sort.ahead w n) blk 0 (ss.mergeSort fun x y => decide (x ≤ y)).toArray) os
  empty : zj P Γ f [.v (.slice none 0 0)] []
theorem repM_strs {w : World} {I : Nat → Nat → Prop} {b : Nat} : ∀ (ts : List ByteArray) (o : Nat), (∀ j (h : j < ts.length), w.cell? ⟨b, o + j, none⟩ = some (.string ts[j]) ∧ I b (o + j)) → RepM w I 1 (strs ts) b o
  | [], o, _ => by simp only [strs, List.map_nil, RepM]
  | t :: ts, o, h => by
    simp only [strs, List.map_cons, RepM]
    refine ⟨⟨[.string t], rfl, by simp [RepC, Value.cells, plain], fun j hj => ?_⟩, ?_⟩
    · have : j = 0 := by simpa using hj
      subst this
      exact h 0 (by simp)
    · refine repM_strs ts (o + 1) fun j hj => ?_
      have := h (j + 1) (by simpa using hj)
      rw [show o + 1 + j = o + (j + 1) from by omega]
      exact this
theorem enc_map (l : List ByteArray) : (l.map fun s => s.data.toList).map Proofs.encStr = l.map Value.string := by
  simp [Proofs.encStr]
section
variable {C : Cx} {A : Nat → SV} {d : Nat} {ty : TypeId} {pos : String} {af : Array Edge} {gd : Option (Nat × Bool)} {x y z : Operand} {T T' : TypeId}
theorem SimG.retell {A B : Nat → SV} {G : Gh} {a : Act} {w : World} (S : SimG C A G a w) (h : ∀ k, B k = A k ∨ B k = .dead ∨ (k < C.N ∧ yl w G (B k) (a.tmps.getD k Go.undef))) : SimG C B G a w := by
  have hno : ∀ k b, zm G k b (B k) → B k = A k := by
    intro k b hb
    rcases h k with e | e | ⟨_, e⟩
    · exact e
    · rw [e] at hb; simp only [zm] at hb
    · exact absurd hb (e.notOwn k b)
  refine ⟨S.os, S.tape, S.output, S.size, S.block, S.sub, S.rel, S.glob, S.new, S.val, S.nts, S.dfs, fun k => ?_, fun k j b hkj h1 h2 => ?_⟩
  · rcases h k with e | e | ⟨h1, h2⟩
    · rw [e]; exact S.holds k
    · rw [e]; simp only [Holds]
    · exact Holds.slot (by rw [S.nts]; exact h1) h2
  · rw [hno k b h1] at h1; rw [hno j b h2] at h2
    exact S.apart k j b hkj h1 h2
theorem SimG.sorted {A B : Nat → SV} {G : Gh} {a : Act} {w : World} (S : SimG C A G a w) {g b cap n : Nat} {l : List ByteArray} {cs : Array Value} {T0 : TypeId} {os : Array Obj} (hA : A g = .row l)
    (hc : G.cur g = .slice (some ⟨b, 0, none⟩) l.length cap) (h2 : l.length ≤ cap) (h3 : cap ≤ maxLen) (h4 : Owned C.w0 C.E w b) (h5 : w.heap[b]? = some (.cells cs T0 (0, 0))) (h6 : cs.size = cap) (h8 : ∀ o, ¬ G.I b o)
    (hB : ∀ j, (j ≠ g ∧ B j = A j) ∨ B j = .dead ∨ (B j = .imm (.sl 1 (strs (xc l))) ∧ j < C.N ∧ a.tmps.getD j Go.undef = .slice (some ⟨b, 0, none⟩) l.length cap)) :
    Sim C B a (Sort.grow (Sort.putRow Proofs.encStr (Sort.ahead w n) b 0 ((l.map fun s => s.data.toList).mergeSort fun x y => decide (x ≤ y)).toArray) os) := by
  obtain ⟨ts, hts⟩ : ∃ ts, ts = (l.map fun s => s.data.toList).mergeSort fun x y => decide (x ≤ y) := ⟨_, rfl⟩
  have htl : ts.length = l.length := by rw [hts]; simp
  have hsb : xc l = ts.map fun b => (⟨b.toArray⟩ : ByteArray) := by rw [hts]; rfl
  rw [← hts]
  obtain ⟨w', hw'⟩ : ∃ w', w' = Sort.grow (Sort.putRow Proofs.encStr (Sort.ahead w n) b 0 ts.toArray) os := ⟨_, rfl⟩
  have hb' := heap_sorted (n := n) (os := os) ts.toArray h5
  have hgr : w.grownBy w' (some b) := by rw [hw']; exact grownBy_sorted _
  rw [← hw'] at hb' ⊢
  obtain ⟨g1, g2, g3, g4, g5⟩ := hgr
  let G' : Gh := { G with I := fun b' o => G.I b' o ∨ (b' = b ∧ o < l.length) }
  have hblk : ∀ k, k < w.heap.size → k ≠ b → w'.heap[k]? = w.heap[k]? := fun k hk hne => g5 k hk (fun e => hne (by cases e; rfl))
  have hle : Le w G.I w' G'.I := fun b' o h => ⟨.inl h, yO (hblk b' (S.val b' o h) fun e => h8 o (e ▸ h))⟩
  have hg : GRel [] G G' := fun j _ => ⟨rfl, .inl ⟨rfl, rfl⟩⟩
  have hbg : inRow G g b := ⟨_, _, _, hc, rfl⟩
  have hown : zm G g b (A g) := by rw [hA]; simp only [zm]; exact hbg
  have conv : ∀ j c, zm G' j c (B j) → j ≠ g ∧ zm G j c (A j) := by
    intro j c h
    rcases hB j with ⟨h1, e⟩ | e | ⟨e, _⟩
    · rw [e] at h
      refine ⟨h1, ?_⟩
      revert h
      generalize A j = y
      cases y <;> exact id
    · rw [e] at h; simp only [zm] at h
    · rw [e] at h; simp only [zm] at h
  refine ⟨G', g1.trans S.os, g2.trans S.tape, g3.trans S.output, Nat.le_trans S.size g4, fun j h1 h2 => ?_, S.sub.trans hle, fun j hj => (S.rel j hj).trans (hg j (by simp)), S.glob.mono hle, fun b' o h => ?_, fun b' o h => ?_, S.nts, S.dfs, fun j => ?_, fun i j c hij p1 p2 => S.apart i j c hij (conv i c p1).2 (conv j c p2).2⟩
  · rw [hblk j (Nat.lt_of_lt_of_le h1 S.size) ?_]
    · exact S.block j h1 h2
    · rintro rfl
      rcases h4.1 with h | h
      · omega
      · exact h2 h
  · rcases h with h | ⟨rfl, _⟩
    · exact S.new b' o h
    · exact .inr h4.1
  · rcases h with h | ⟨rfl, _⟩
    · exact Nat.lt_of_lt_of_le (S.val b' o h) g4
    · exact Nat.lt_of_lt_of_le h4.2 g4
  · rcases hB j with ⟨hj, e⟩ | e | ⟨e, hjN, hv⟩
    · rw [e]
      refine (S.holds j).keep hle hg (wU.1 _) g4 (fun h => ⟨h, rfl⟩) (fun _ => ⟨rfl, rfl, rfl⟩) (fun c hc' => ?_)
      have hcb : c ≠ b := by rintro rfl; exact S.apart j g c hj hc' hown
      refine ⟨hblk c (xy S hc') hcb, fun o hi => ?_⟩
      rcases hi with hi | ⟨rfl, _⟩
      · exact hi
      · exact absurd rfl hcb
    · rw [e]; simp only [Holds]
    · rw [e]
      simp only [Holds]
      refine ⟨by rw [S.nts]; exact hjN, ?_⟩
      rw [hv]
      simp only [yl]
      refine zt.2 ⟨[.slice (some ⟨b, 0, none⟩) l.length cap], ?_, rfl⟩
      simp only [RepC]
      refine ⟨_, rfl, .inr ⟨b, 0, cap, by simp [strs, sortB_length], by simpa [strs, sortB_length] using h2, h3, ?_⟩⟩
      refine repM_strs _ 0 fun i hi => ?_
      have hi' : i < ts.length := by rw [hsb] at hi; simpa using hi
      refine ⟨?_, .inr ⟨rfl, by omega⟩⟩
      have ht := take_putCells cs ts (by omega)
      have h9 : ((Sort.putCells Proofs.encStr 0 ts.toArray cs).toList.take ts.length)[i]? = (ts.map Proofs.encStr)[i]? := by rw [ht]
      rw [List.getElem?_take_of_lt hi', Array.getElem?_toList] at h9
      simp only [World.cell?, hb', Nat.zero_add]
      simp only [Option.isSome_none, Bool.false_eq_true, if_false]
      rw [h9]
      simp only [hsb, List.getElem?_map, List.getElem_map, List.getElem?_eq_getElem hi', Option.map_some]
theorem s_sort {g k : Nat} (k2 : Nat) {l : List ByteArray} {f : FuncId} {ats : Array TypeId} (hc : SortC C.P C.Γ f) (hgN : Nat.ble C.N g = true) (hN : Nat.blt d C.N = true) (hkN : Nat.blt k C.N = true) (hkN2 : Nat.blt k2 C.N = true) (hkd : Nat.beq k d = false) (hkd2 : Nat.beq k2 d = false) (hx : A k = .slg g 0 (units l.length)) (hx2 : A k2 = .slg g 0 (units l.length)) (hg : A g = .row l) (hL : l.length < 4611686018427387904) :
    zf C ⟨some d, .call { callee := .value (.func f), args := #[.tmp k], argTypes := ats }, ty, pos, af, gd⟩ [g, k, k2] [] A [(g, .dead), (k, .imm (.sl 1 (strs (xc l)))), (k2, .imm (.sl 1 (strs (xc l)))), (d, .tup [])] := by
  intro A' a w hR hF ⟨G, S⟩
  have hgA : A' g = .row l := (hR g (by simp)).trans hg
  have hN' : d < C.N := by simpa [Nat.blt_eq] using hN
  have hkN' : k < C.N := by simpa [Nat.blt_eq] using hkN
  have hkN2' : k2 < C.N := by simpa [Nat.blt_eq] using hkN2
  have hgN' : C.N ≤ g := Nat.le_of_ble_eq_true hgN
  have ht := S.holds g
  rw [hgA] at ht
  simp only [Holds] at ht
  obtain ⟨hlen, ht⟩ := ht
  have val : ∀ k, A' k = .slg g 0 (units l.length) → a.tmps.getD k Go.undef = G.cur g := by
    intro k hkA
    obtain ⟨c, hc1, hc2⟩ := S.slot hkA rfl
    simp only [RepS] at hc1
    obtain ⟨v, rfl, hv1, hv2, hv3⟩ := hc1
    have hval : a.tmps.getD k Go.undef = v := hc2
    rw [hval]; exact hv3 (by simpa using hlen.symm)
  have hval := val k ((hR k (by simp)).trans hx)
  have hval2 := val k2 ((hR k2 (by simp)).trans hx2)
  have hkd' : k ≠ d := by rintro rfl; rw [Nat.beq_refl] at hkd; cases hkd
  have hkd2' : k2 ≠ d := by rintro rfl; rw [Nat.beq_refl] at hkd2; cases hkd2
  obtain ⟨B, hBdef⟩ : ∃ B, B = upd A' [(g, .dead), (k, .imm (.sl 1 (strs (xc l)))), (k2, .imm (.sl 1 (strs (xc l))))] := ⟨_, rfl⟩
  have hu : upd A' [(g, .dead), (k, .imm (.sl 1 (strs (xc l)))), (k2, .imm (.sl 1 (strs (xc l)))), (d, .tup [])] = upd B [(d, .tup [])] := by
    funext j
    have hgd : g ≠ d := by omega
    rw [hBdef]
    simp only [upd]
    by_cases hjd : d = j
    · subst hjd; rw [zS hgd, zS hkd', zS hkd2']; simp
    · rw [zS hjd]; simp
  have hBj : ∀ j, B j = if j = g then .dead else if j = k then .imm (.sl 1 (strs (xc l))) else if j = k2 then .imm (.sl 1 (strs (xc l))) else A' j := by
    intro j
    rw [hBdef]
    simp only [upd]
    by_cases h1 : j = g
    · subst h1; simp
    · rw [zS (Ne.symm h1), if_neg h1]
      by_cases h2 : j = k
      · subst h2; simp
      · rw [zS (Ne.symm h2), if_neg h2]
        by_cases h3 : j = k2
        · subst h3; simp
        · rw [zS (Ne.symm h3), if_neg h3]; rfl
  have hev : (#[Operand.tmp k].map a.eval) = #[G.cur g] := by
    have : a.eval (.tmp k) = G.cur g := hval
    simp [this]
  unfold Oper.wp
  have hrun : (execOp a.eval ⟨some d, .call { callee := .value (.func f), args := #[.tmp k], argTypes := ats }, ty, pos, af, gd⟩).run C.P w = .ok (.enter f #[G.cur g]) w := by
    have hfn : a.eval (.func f) = .func (.func f) #[] #[] := rfl
    simp only [execOp, resolve, hfn, Deferred.ofValue, Sem.run_bind, Sem.run_pure, Result.andThen_ok, invoke, hev]
    have := wg hc.call (#[] ++ #[G.cur g] ++ #[]) w
    simpa using this
  rw [hrun, Oper.upon_enter, hu]
  rcases ht with ⟨e, rfl⟩ | ⟨b, cap, e, h2, h3, h4, ⟨cs, T0, h5, h6, h7⟩, h8⟩
  · rw [e]
    refine (hc.empty.2 w G.I [.slice none 0 0] S.val S.glob (by simp only [yD]; exact ⟨[.slice none 0 0], [], rfl, by simp [RepC, Value.cells, plain], rfl⟩)).mono ?_
    rintro e' w' ⟨v', I', rfl, hb, hle, hn, hv, hres⟩
    have S' := S.called hb hle hn hv
    have hs : ∀ j, a.tmps.getD j Go.undef = G.cur g → yl w' { G with I := I' } (.imm (.sl 1 (strs (xc [])))) (a.tmps.getD j Go.undef) := by
      intro j hj
      rw [hj, e]
      simp only [yl]
      refine zt.2 ⟨[.slice none 0 0], ?_, rfl⟩
      simp only [RepC]
      exact ⟨_, rfl, .inl (by simpa [strs, xc] using nil_sl 0)⟩
    have S2 : SimG C B { G with I := I' } a w' := S'.retell fun j => by
      rw [hBj]
      split
      · exact .inr (.inl rfl)
      · split
        · rename_i hj; subst hj; exact .inr (.inr ⟨hkN', hs _ hval⟩)
        · split
          · rename_i hj; subst hj; exact .inr (.inr ⟨hkN2', hs _ hval2⟩)
          · exact .inl rfl
    have S3 := S2.put (d := d) hN' (x := .tup []) (v := v') (by
      have := resV_slot (w := w') (G := { G with I := I' }) (rs := []) hres
      simpa [resSV] using this)
    exact ⟨_, S3⟩
  · have hH : Sort.Holds Proofs.encStr w b 0 (l.map fun s => s.data.toList).toArray := holds_of_block h5 (by rw [enc_map]; simpa using h7)
    have hcall := hc.sorts b cap (l.map fun s => s.data.toList) w hH h4.2 (by simpa using hL)
    rw [List.length_map, ← e] at hcall
    refine hcall.mono ?_
    rintro e' w' ⟨rfl, n, os, rfl⟩
    obtain ⟨G', S'⟩ := S.sorted (B := B) (n := n) (os := os) hgA e h2 h3 h4 h5 h6 h8 (fun j => by
      rw [hBj]
      split
      · exact .inr (.inl rfl)
      · rename_i hjg
        split
        · rename_i hj; subst hj; exact .inr (.inr ⟨rfl, hkN', hval.trans e⟩)
        · split
          · rename_i hj; subst hj; exact .inr (.inr ⟨rfl, hkN2', hval2.trans e⟩)
          · exact .inl ⟨hjg, rfl⟩)
    have S3 := S'.put (d := d) hN' (x := .tup []) (v := .tuple #[]) (by
      simp only [yl]
      exact ⟨[], rfl, by simp only [xM]⟩)
    exact ⟨_, S3⟩
end
end Go.Al
namespace Go.Proofs
open Go Go.Al
def lastAt : List GA → ByteArray → Nat → Option Nat
  | [], _, _ => none
  | x :: xs, k, i => match lastAt xs k (i + 1) with
    | some j => some j
    | none => if x.key = k then some i else none
def lastI (l : List GA) (k : ByteArray) : Nat := (lastAt l k 0).getD 0
def mks (l : List GA) : List ByteArray := l.foldl (fun acc x => mputK acc x.key) []
def mvs (l : List GA) : List AV := (mks l).map fun k => iv (lastI l k : Int)
theorem lastAt_snoc (k : ByteArray) (x : GA) : ∀ (m : List GA) (i : Nat), lastAt (m ++ [x]) k i = if x.key = k then some (i + m.length) else lastAt m k i
  | [], i => by simp only [List.nil_append, lastAt]; split <;> simp
  | y :: m, i => by
    simp only [List.cons_append, lastAt]
    rw [lastAt_snoc k x m (i + 1)]
    by_cases h : x.key = k
    · simp only [h, if_true, List.length_cons]; congr 1; omega
    · simp only [if_neg h]
theorem lastAt_lt {k : ByteArray} : ∀ {m : List GA} {i j : Nat}, lastAt m k i = some j → i ≤ j ∧ j < i + m.length
  | [], i, j, h => by simp [lastAt] at h
  | x :: xs, i, j, h => by
    simp only [lastAt] at h
    split at h
    · rename_i j' hj; cases h; have := lastAt_lt hj; simp; omega
    · split at h
      · cases h; simp
      · cases h
theorem mks_snoc (m : List GA) (x : GA) : mks (m ++ [x]) = mputK (mks m) x.key := by simp [mks, List.foldl_append]
theorem mfind_none : ∀ {l : List ByteArray} {s : ByteArray} {i : Nat}, mfind l s i = none ↔ s ∉ l
  | [], s, i => by simp [mfind]
  | x :: xs, s, i => by
    rw [mfind]
    by_cases h : s = x
    · simp [h]
    · simp [h, mfind_none]
theorem nodup_mks (l : List GA) : (mks l).Nodup := by
  have key : ∀ (l : List GA) (acc : List ByteArray), acc.Nodup → (l.foldl (fun acc x => mputK acc x.key) acc).Nodup := by
    intro l
    induction l with
    | nil => intro acc h; exact h
    | cons x l ih =>
      intro acc h
      refine ih _ ?_
      show (mputK acc x.key).Nodup
      unfold mputK
      split
      · exact h
      · rename_i hm
        have := mfind_none.1 hm
        rw [List.nodup_append]
        refine ⟨h, by simp, ?_⟩
        intro a ha b hb
        simp at hb; subst hb
        rintro rfl; exact this ha
  exact key l [] (by simp)
theorem mem_mputK {l : List ByteArray} {s k : ByteArray} : k ∈ mputK l s ↔ k = s ∨ k ∈ l := by
  unfold mputK
  split
  · rename_i j hm
    have := mfind_get hm
    have hs : s ∈ l := List.mem_of_getElem? this
    constructor
    · exact .inr
    · rintro (rfl | h)
      · exact hs
      · exact h
  · simp; exact Or.comm
theorem mks_spec (l : List GA) (k : ByteArray) : k ∈ mks l ↔ ∃ j, lastAt l k 0 = some j := by
  induction l using snocInd with
  | nil => simp [mks, lastAt]
  | snoc m x ih =>
    rw [mks_snoc, mem_mputK, lastAt_snoc, ih]
    by_cases h : x.key = k
    · simp [h]
    · have : ¬ k = x.key := fun e => h e.symm
      simp [h, this]
where
  snocInd {motive : List GA → Prop} (l : List GA) (nil : motive []) (snoc : ∀ m x, motive m → motive (m ++ [x])) : motive l := by
    have : ∀ n (l : List GA), l.length = n → motive l := by
      intro n
      induction n with
      | zero => intro l h; rw [List.eq_nil_of_length_eq_zero h]; exact nil
      | succ n ih =>
        intro l h
        have hne : l ≠ [] := by rintro rfl; simp at h
        rw [← List.dropLast_concat_getLast hne]
        exact snoc _ _ (ih _ (by simp [h]))
    exact this _ l rfl
theorem mvs_snoc (m : List GA) (x : GA) : mvs (m ++ [x]) = mputV (mks m) (mvs m) x.key (iv (m.length : Int)) := by
  have hl : ∀ k, lastI (m ++ [x]) k = if x.key = k then m.length else lastI m k := by
    intro k
    unfold lastI
    rw [lastAt_snoc]
    split <;> simp
  unfold mvs mputV
  rw [mks_snoc]
  unfold mputK
  cases hm : mfind (mks m) x.key 0 with
  | some i =>
    have h1 := mfind_lt hm
    have h2 := mfind_get hm
    simp only [Nat.sub_zero] at h2
    refine List.ext_getElem? fun j => ?_
    simp only [List.getElem?_map]
    by_cases hj : j = i
    · subst hj
      rw [h2, List.getElem?_set_self (by simp; omega)]
      simp [hl]
    · rw [List.getElem?_set_ne (Ne.symm hj), List.getElem?_map]
      cases hk : (mks m)[j]? with
      | none => rfl
      | some k =>
        have hne : ¬ x.key = k := by
          intro e
          rw [e] at h2
          have hn := nodup_mks m
          have hji : j < (mks m).length := (List.getElem?_eq_some_iff.1 hk).1
          have := (List.getElem?_inj hji hn).1 (hk.trans h2.symm)
          exact hj this
        simp [hl, hne]
  | none =>
    have h1 := mfind_none.1 hm
    simp only [List.map_append, List.map_cons, List.map_nil, hl, if_true]
    congr 1
    refine List.map_congr_left fun k hk => ?_
    rw [if_neg (fun e => h1 (by rw [e]; exact hk))]
theorem mks_len (l : List GA) : (mks l).length ≤ l.length := by
  have key : ∀ (l : List GA) (acc : List ByteArray), (l.foldl (fun acc x => mputK acc x.key) acc).length ≤ acc.length + l.length := by
    intro l
    induction l with
    | nil => intro acc; simp
    | cons x l ih =>
      intro acc
      have h1 := ih (mputK acc x.key)
      have h2 : (mputK acc x.key).length ≤ acc.length + 1 := by unfold mputK; split <;> simp
      simp only [List.foldl_cons, List.length_cons] at *; omega
  have := key l []
  simp only [List.length_nil, Nat.zero_add] at this
  exact this
theorem getA_intoP {l : List GA} {p : Option ByteArray} (a : GA) (k : ByteArray) (h : risA p l) : getA (intoA l a) k = if a.key = k then some a.val else getA l k := by
  induction l generalizing p with
  | nil => simp only [intoA, getA]
  | cons x xs ih =>
    rw [intoA]
    split
    · rename_i hx
      simp only [getA]
      rw [ih h.2]
      by_cases h1 : a.key = k
      · have : ¬ x.key = k := by rintro e; rw [e, h1, ltB_irrefl] at hx; cases hx
        simp [h1, this]
      · simp only [if_neg h1]
    · rename_i hx
      split
      · rename_i he
        simp only [getA]
        by_cases h1 : a.key = k
        · simp [h1]
        · have : ¬ x.key = k := by rw [he]; exact h1
          simp [h1, this]
      · simp only [getA]
theorem nthA_append_lt {m : List GA} {x : GA} {j : Nat} (h : j < m.length) : nthA (m ++ [x]) j = nthA m j := by
  unfold nthA nth; rw [List.getD_eq_getElem?_getD, List.getD_eq_getElem?_getD, List.getElem?_append_left h]
theorem nthA_append_last {m : List GA} {x : GA} : nthA (m ++ [x]) m.length = x := by
  unfold nthA nth; simp
theorem getA_canonAs (l : List GA) (k : ByteArray) : getA (yv l) k = (lastAt l k 0).map fun j => yc (nthA l j).val := by
  unfold yv
  induction l using mks_spec.snocInd with
  | nil => rfl
  | snoc m x ih =>
    rw [List.map_append, List.map_cons, List.map_nil, intoAll_snoc, getA_intoP _ _ (ris_intoAll _ [] trivial), lastAt_snoc, ih]
    have e1 : (canonP x).key = x.key := by rw [canonP_eq]; rfl
    have e2 : (canonP x).val = yc x.val := by rw [canonP_eq]; rfl
    rw [e1, e2]
    by_cases h : x.key = k
    · simp only [h, if_true, Option.map_some, Nat.zero_add, nthA_append_last]
    · simp only [if_neg h]
      cases hl : lastAt m k 0 with
      | none => rfl
      | some j =>
        have := lastAt_lt hl
        simp only [Option.map_some]
        rw [nthA_append_lt (by omega)]
theorem risA_ext : ∀ {l m : List GA} {p q : Option ByteArray}, risA p l → risA q m → (∀ k, getA l k = getA m k) → l = m
  | [], [], _, _, _, _, _ => rfl
  | [], y :: m, _, _, _, _, h => by have := h y.key; simp [getA] at this
  | x :: l, [], _, _, _, _, h => by have := h x.key; simp [getA] at this
  | x :: l, y :: m, p, q, h1, h2, h => by
    have memk : ∀ {l : List GA} {k : ByteArray} {v : GV}, getA l k = some v → ∃ a ∈ l, a.val = v ∧ a.key = k := getA_mem
    have hk : x.key = y.key := by
      have a1 := h x.key
      have a2 := h y.key
      simp only [getA, if_true] at a1 a2
      by_cases e : y.key = x.key
      · exact e.symm
      · have e' : ¬ x.key = y.key := fun q => e q.symm
        rw [if_neg e] at a1
        rw [if_neg e'] at a2
        obtain ⟨b, hb, _, hbk⟩ := memk a1.symm
        obtain ⟨c, hc, _, hck⟩ := memk a2
        have h3 := risA_mem h2.2 b hb
        have h4 := risA_mem h1.2 c hc
        rw [hbk] at h3; rw [hck] at h4
        rw [ltB_asymm h3] at h4; cases h4
    have hv : x.val = y.val := by
      have a1 := h x.key
      simp only [getA, if_true, hk] at a1
      exact Option.some.inj a1
    have hxy : x = y := by
      cases x; cases y; simp only [GA.key, GA.val] at hk hv; rw [hk, hv]
    subst hxy
    congr 1
    refine risA_ext h1.2 h2.2 fun k => ?_
    by_cases e : x.key = k
    · have none1 : ∀ {m : List GA}, risA (some x.key) m → getA m k = none := by
        intro m hm
        cases hg : getA m k with
        | none => rfl
        | some v =>
          obtain ⟨b, hb, _, hbk⟩ := memk hg
          have := risA_mem hm b hb
          rw [hbk, e, ltB_irrefl] at this; cases this
      rw [none1 h1.2, none1 h2.2]
    · have := h k
      simp only [getA, if_neg e] at this
      exact this
theorem bl_lt : ∀ a b : List UInt8, Op.bytesLess a b = decide (a < b)
  | [], [] => by simp [Op.bytesLess]
  | [], _ :: _ => by simp [Op.bytesLess]
  | _ :: _, [] => by simp [Op.bytesLess]
  | x :: a, y :: b => by
    have ih := bl_lt a b
    simp only [Op.bytesLess, List.cons_lt_cons_iff]
    by_cases h : x < y
    · simp [h]
    · by_cases h2 : y < x
      · have : ¬ x = y := by rintro rfl; exact absurd h2 (UInt8.lt_irrefl _)
        simp [h, h2, this]
      · have : x = y := UInt8.le_antisymm (UInt8.not_lt.1 h2) (UInt8.not_lt.1 h)
        subst this
        simp [h, ih]
theorem le_iff (s t : ByteArray) : decide (s.data.toList ≤ t.data.toList) = !ltB t s := by
  have e : ltB t s = decide (t.data.toList < s.data.toList) := by
    unfold ltB
    have hl : ∀ s : ByteArray, lst s = s.data.toList := fun s => rfl
    rw [hl, hl]; exact bl_lt _ _
  rw [e, ← decide_not]
  exact decide_eq_decide.2 List.not_lt.symm
theorem sortB_perm (l : List ByteArray) : (xc l).Perm l := by
  have h := (List.mergeSort_perm (l.map fun s => s.data.toList) (fun x y => decide (x ≤ y))).map (fun b : List UInt8 => (⟨b.toArray⟩ : ByteArray))
  simpa [xc, Function.comp_def] using h
theorem sortB_sorted (l : List ByteArray) : (xc l).Pairwise fun s t => ltB t s = false := by
  have h := List.pairwise_mergeSort (le := fun x y : List UInt8 => decide (x ≤ y)) (fun a b c h1 h2 => by simp only [qa] at *; exact List.le_trans h1 h2) (fun a b => by simp only [Bool.or_eq_true, qa]; exact List.le_total a b) (l.map fun s => s.data.toList)
  unfold xc
  rw [List.pairwise_map]
  refine h.imp ?_
  intro a b hab
  have := le_iff ⟨a.toArray⟩ ⟨b.toArray⟩
  simp only [List.toList_toArray] at this
  rw [hab] at this
  simpa using this.symm
theorem ris_of_pairwise {f : ByteArray → GA} (hf : ∀ k, (f k).key = k) : ∀ (l : List ByteArray) (p : Option ByteArray), (∀ q, p = some q → ∀ k ∈ l, ltB q k = true) → l.Pairwise (fun s t => ltB s t = true) → risA p (l.map f)
  | [], _, _, _ => trivial
  | k :: l, p, hp, h => by
    rw [List.pairwise_cons] at h
    simp only [List.map_cons, risA, hf]
    refine ⟨?_, ris_of_pairwise hf l _ (fun q e => by cases e; exact h.1) h.2⟩
    cases p with
    | none => trivial
    | some q => exact hp q rfl k List.mem_cons_self
theorem getA_mapped {v : ByteArray → GV} (k : ByteArray) : ∀ l : List ByteArray, (k ∈ l → getA (l.map fun k => GA.mk k (v k)) k = some (v k)) ∧ (k ∉ l → getA (l.map fun k => GA.mk k (v k)) k = none)
  | [] => ⟨fun h => by simp at h, fun _ => rfl⟩
  | x :: l => by
    have ih := getA_mapped (v := v) k l
    rw [List.map_cons, getA, List.mem_cons]
    by_cases h : (GA.mk x (v x)).key = k
    · rw [if_pos h]
      have h' : x = k := h
      subst h'
      exact ⟨fun _ => rfl, fun hk => absurd (.inl rfl) hk⟩
    · rw [if_neg h]
      have h' : ¬ k = x := fun e => h e.symm
      exact ⟨fun hk => ih.1 (hk.resolve_left h'), fun hk => ih.2 fun q => hk (.inr q)⟩
theorem canonAs_sorted (l : List GA) {ks : List ByteArray} (h : ks.Perm (mks l)) : (xc ks).map (fun k => GA.mk k (yc (nthA l (lastI l k)).val)) = yv l := by
  have hp : (xc ks).Perm (mks l) := (sortB_perm ks).trans h
  have hn : (xc ks).Nodup := hp.nodup_iff.2 (nodup_mks l)
  have hs : (xc ks).Pairwise fun s t => ltB s t = true := by
    have h1 := sortB_sorted ks
    have h2 : (xc ks).Pairwise (· ≠ ·) := hn
    refine (h1.and h2).imp ?_
    rintro a b ⟨h3, h4⟩
    cases h5 : ltB a b with
    | true => rfl
    | false => exact absurd (ltB_tri h5 h3) h4
  refine risA_ext (p := none) (q := none) (ris_of_pairwise (f := fun k => GA.mk k (yc (nthA l (lastI l k)).val)) (fun _ => rfl) _ none (fun q e => by cases e) hs) (ris_canonAs l) fun k => ?_
  have hgm := getA_mapped (v := fun k => yc (nthA l (lastI l k)).val) k (xc ks)
  rw [getA_canonAs]
  have hm : k ∈ xc ks ↔ ∃ j, lastAt l k 0 = some j := (hp.mem_iff).trans (mks_spec l k)
  cases hl : lastAt l k 0 with
  | none =>
    rw [hgm.2 (fun hk => by obtain ⟨j, hj⟩ := hm.1 hk; rw [hl] at hj; cases hj)]; rfl
  | some j =>
    rw [hgm.1 (hm.2 ⟨j, hl⟩)]
    simp only [lastI, hl, Option.getD_some, Option.map_some]
theorem seen_perm {ks : List ByteArray} {seen : List Nat} (hn : seen.Nodup) (hl : ∀ i ∈ seen, i < ks.length) (hall : ∀ i, i < ks.length → i ∈ seen) : (seen.map fun i => ks.getD i ⟨#[]⟩).Perm ks := by
  have h1 : seen.Perm (List.range ks.length) := by
    refine (List.perm_ext_iff_of_nodup hn List.nodup_range).2 fun i => ?_
    rw [List.mem_range]
    exact ⟨hl i, hall i⟩
  have h2 := h1.map fun i => ks.getD i ⟨#[]⟩
  have h3 : (List.range ks.length).map (fun i => ks.getD i ⟨#[]⟩) = ks := by
    refine List.ext_getElem (by simp) fun i h4 h5 => ?_
    rw [List.getElem_map, List.getElem_range, List.getD_eq_getElem?_getD, List.getElem?_eq_getElem h5]; rfl
  rw [h3] at h2
  exact h2
end Go.Proofs
namespace Go.Al
open Go.RowKit
theorem aw_first {C : Cx} {id : Nat} {o : Oper} {os : List Oper} {ops : Array Oper} {st : St} {Q : Exit → St → Prop} (hl : ops.toList = o :: os) (hg : o.guard = none)
    (h : ∀ a w, Sim C (look st) a w → ∃ p : St, o.wp C.P a w (fun a' w' => Sim C (look (p ++ st)) a' w') (fun _ _ _ => False) ∧ Go1 C ops os (p ++ st) [] (fun st' _ => Q .normal st')) (hnd : noDef ops.toList = true := by rfl) : AW C (.region id ops false) st Q := by
  intro a w S n
  obtain ⟨p, h1, h2⟩ := h a w S
  obtain ⟨tr, st', r, f, k, _⟩ := Go1.sound _ _ _ _ h2
  refine wpIn_region ?_
  have h0 : ops[0]? = some o := by rw [← Array.getElem?_toList, hl]; rfl
  have hsz : ops.size = os.length + 1 := by rw [← Array.length_toList, hl]; rfl
  rw [List.range_eq_range', hsz, List.range'_succ]
  simp only [wpOpsIn, h0]
  have hw : Region.wanted o (yielded ops a.tmps) = true := by simp [Region.wanted, hg]
  simp only [hw, if_true]
  refine Oper.wpIn_of_wp (noDef_get hnd h0) (wpOps_run.Oper.wp_mono' (fun a' w' S' => ?_) (fun _ _ _ h => h.elim) h1)
  exact wpOps_run hnd os 1 _ tr a' w' (fun j => by rw [← Array.getElem?_toList, hl, Nat.add_comm, List.getElem?_cons_succ]) r S' (fun a' w' S' => ⟨st', k, f ▸ S'⟩)
theorem leftOf_mem {es : Array MapEntry} {seen : Array Nat} {e : MapEntry} (h : e ∈ (leftOf es seen).toList) : e ∈ es.toList ∧ e.born ∉ seen := by
  unfold leftOf at h
  simp at h
  simpa using h
theorem leftOf_none {es : Array MapEntry} {seen : Array Nat} (h : (leftOf es seen).size = 0) : ∀ e ∈ es.toList, e.born ∈ seen := by
  intro e he
  have h0 : leftOf es seen = #[] := Array.eq_empty_of_size_eq_zero h
  unfold leftOf at h0
  rw [Array.filter_eq_empty_iff] at h0
  have := h0 e (by simpa using he)
  simpa using this
section
variable {C : Cx} {d : Nat} {ty : TypeId} {pos : String} {af : Array Edge} {x : Operand}
theorem SimG.draws {A : Nat → SV} {G : Gh} {a : Act} {w w1 : World} (S : SimG C A G a w) (h : w1 = w ∨ w1 = w.drew) : SimG C A G a w1 := by
  rcases h with rfl | rfl
  · exact S
  · exact S.heap rfl rfl rfl rfl
theorem wp_next {st : St} {a : Act} {w : World} {gi gm n : Nat} {seen : List Nat} {l : List ByteArray} {vs : List AV} (S : Sim C (look st) a w) (hN : Nat.blt d C.N = true) (hx : opS (look st) x = .ptr gi 0) (hg : look st gi = .itr gm n seen) (hm : look st gm = .mpr (strs l) vs) (hn : Nat.beq n l.length = true) (hgN : Nat.ble C.N gi = true) :
    ((∀ i, i < n → i ∈ seen) ∧ Oper.wp C.P ⟨some d, .next x false, ty, pos, af, none⟩ a w (fun a' w' => Sim C (look ([(d, .tup [.imm (.v (.bool false))])] ++ st)) a' w') (fun _ _ _ => False)) ∨
    ∃ i s v, i < n ∧ i ∉ seen ∧ l[i]? = some s ∧ vs[i]? = some v ∧
      Oper.wp C.P ⟨some d, .next x false, ty, pos, af, none⟩ a w (fun a' w' => Sim C (look ([(d, .tup [.imm (.v (.bool true)), .imm (.v (.string s)), .imm v]), (gi, .itr gm n (seen ++ [i]))] ++ st)) a' w') (fun _ _ _ => False) := by
  obtain ⟨G, S⟩ := S
  have hN' : d < C.N := by simpa [Nat.blt_eq] using hN
  have hgN' : C.N ≤ gi := Nat.le_of_ble_eq_true hgN
  have hn' : n = l.length := Nat.eq_of_beq_eq_true hn
  obtain ⟨c, hc1, hc2⟩ := S.opS hx rfl
  simp only [RepS] at hc1
  have hev : a.eval x = .pointer (some ⟨G.blk gi, 0, none⟩) := by rw [hc2, hc1]; rfl
  have hi := S.holds gi
  rw [hg] at hi
  simp only [Holds] at hi
  obtain ⟨ho1, hi1, hi2⟩ := hi
  have hb := S.holds gm
  rw [hm] at hb
  simp only [Holds] at hb
  obtain ⟨ho2, ⟨es, h1, h2, h3, h4⟩, hni⟩ := hb
  have hkeys : es.toList.map (·.key) = l.map Value.string := repVs_strs h3
  have hlen : es.size = l.length := by have := congrArg List.length hkeys; simpa using this
  have hold : ∀ x ∈ es.toList, x.born < n := by
    intro x hx
    obtain ⟨i, hi, rfl⟩ := List.getElem_of_mem hx
    have := h2 i (by simpa using hi)
    simp only [Array.getElem_toList, this]
    have : i < es.size := by simpa using hi
    omega
  have hes : es.size = n := by omega
  rcases run_next_at (P := C.P) w ty (G.blk gi) (G.blk gm) n n seen.toArray es es.size hi1 h1 hold (Nat.le_refl _) with ⟨h0, hrun⟩ | ⟨e, he, w1, hw1, hrun⟩
  · refine .inl ⟨fun i hi => ?_, ?_⟩
    · have hie : i < es.size := by omega
      have := leftOf_none h0 es[i] (by simp)
      rw [h2 i hie] at this
      simpa using this
    · unfold Oper.wp
      have : (execOp a.eval ⟨some d, .next x false, ty, pos, af, none⟩).run C.P w = .ok (.value (.tuple #[.bool false])) w := by
        simp only [execOp, hev, Sem.run_bind, hrun, Result.andThen_ok, Sem.run_pure]
      rw [this, Oper.upon_value]
      have S2 := S.put (d := d) hN' (x := .tup [.imm (.v (.bool false))]) (v := .tuple #[.bool false]) (by
        simp only [yl]
        exact ⟨[.bool false], rfl, .bool false, [], rfl, zt.2 (yg _ _ rfl), rfl⟩)
      rw [xP] at S2
      exact ⟨G, S2⟩
  · obtain ⟨he1, he2⟩ := leftOf_mem he
    obtain ⟨i, hi, rfl⟩ := List.getElem_of_mem he1
    have hie : i < es.size := by simpa using hi
    have hbi := h2 i hie
    simp only [Array.getElem_toList] at he2 hrun ⊢
    have hki : es[i].key = .string (l[i]'(by omega)) := by
      have hk2 : (es.toList.map (·.key))[i]? = (l.map Value.string)[i]? := by rw [hkeys]
      simp only [List.getElem?_map, Array.getElem?_toList, Array.getElem?_eq_getElem hie, Option.map_some] at hk2
      rw [List.getElem?_eq_getElem (by omega), Option.map_some] at hk2
      exact Option.some.inj hk2
    have hvl := vD h4
    have hvl' : vs.length = es.size := by simpa using hvl.symm
    obtain ⟨u, hu1, hu2⟩ := repVs_get h4 (List.getElem?_eq_getElem (show i < vs.length by omega))
    simp only [List.getElem?_map, Array.getElem?_toList, Array.getElem?_eq_getElem hie, Option.map_some, Option.some.injEq] at hu1
    refine .inr ⟨i, l[i]'(by omega), vs[i]'(by omega), by omega, ?_, List.getElem?_eq_getElem _, List.getElem?_eq_getElem _, ?_⟩
    · rw [hbi] at he2; simpa using he2
    · unfold Oper.wp
      have : (execOp a.eval ⟨some d, .next x false, ty, pos, af, none⟩).run C.P w = .ok (.value (.tuple #[.bool true, es[i].key, es[i].val])) (yH w1 (G.blk gi) (.mapIter (some (G.blk gm)) n (seen ++ [i]).toArray n)) := by
        simp only [execOp, hev, Sem.run_bind, hrun, Result.andThen_ok, Sem.run_pure]
        simp only [hbi, hes]
        congr 1
        simp only [ChangeMaps.setBlock, yH]
        congr 2
        simp
      rw [this, Oper.upon_value]
      have S1 := S.draws hw1
      have hhe : w1.heap = w.heap := by rcases hw1 with rfl | rfl <;> rfl
      have hle1 : Le w G.I w1 G.I := fun b o h => ⟨h, yO (by rw [hhe])⟩
      have S2 := S1.turnOG (g := gi) (X' := .itr gm n (seen ++ [i])) (o' := .mapIter (some (G.blk gm)) n (seen ++ [i]).toArray n) ⟨ho1.1, by rw [hhe]; exact ho1.2⟩ hi2 (by rw [hg]; simp [zm]) (fun b h => by simpa only [zm] using h) (fun hle => by
        simp only [Holds]
        exact ⟨⟨ho1.1, by rw [yR, hhe]; exact ho1.2⟩, xh (by rw [hhe]; exact ho1.2), hi2⟩)
      rw [xP] at S2
      have hle2 : Le w1 G.I (yH w1 (G.blk gi) (.mapIter (some (G.blk gm)) n (seen ++ [i]).toArray n)) G.I := fun b o h => ⟨h, by
        have : b ≠ G.blk gi := by rintro rfl; exact hi2 o h
        exact yO (xE this)⟩
      have S3 := S2.put (d := d) hN' (x := .tup [.imm (.v (.bool true)), .imm (.v (.string (l[i]'(by omega)))), .imm (vs[i]'(by omega))]) (v := .tuple #[.bool true, es[i].key, es[i].val]) (by
        simp only [yl]
        refine ⟨[.bool true, es[i].key, es[i].val], rfl, .bool true, _, rfl, zt.2 (yg _ _ rfl), es[i].key, _, rfl, zt.2 (by rw [hki]; exact yg _ _ rfl), es[i].val, [], rfl, zt.2 ?_, rfl⟩
        rw [hu1]; exact hu2.mono (hle1.trans hle2))
      rw [xP] at S3
      exact ⟨G, S3⟩
theorem aw_next {id : Nat} {ops : Array Oper} {os : List Oper} {st : St} {Q : Exit → St → Prop} {gi gm n : Nat} {seen : List Nat} {l : List ByteArray} {vs : List AV} (hl : ops.toList = ⟨some d, .next x false, ty, pos, af, none⟩ :: os)
    (hN : Nat.blt d C.N = true) (hx : opS (look st) x = .ptr gi 0) (hg : look st gi = .itr gm n seen) (hm : look st gm = .mpr (strs l) vs) (hn : Nat.beq n l.length = true) (hgN : Nat.ble C.N gi = true)
    (hdone : (∀ i, i < n → i ∈ seen) → Go1 C ops os ((d, .tup [.imm (.v (.bool false))]) :: st) [] (fun st' _ => Q .normal st'))
    (hmore : ∀ i s v, i < n → i ∉ seen → l[i]? = some s → vs[i]? = some v → Go1 C ops os ((d, .tup [.imm (.v (.bool true)), .imm (.v (.string s)), .imm v]) :: (gi, .itr gm n (seen ++ [i])) :: st) [] (fun st' _ => Q .normal st')) (hnd : noDef ops.toList = true := by rfl) :
    AW C (.region id ops false) st Q := by
  refine aw_first (hnd := hnd) hl rfl fun a w S => ?_
  rcases wp_next (ty := ty) (pos := pos) (af := af) S hN hx hg hm hn hgN with ⟨h1, h2⟩ | ⟨i, s, v, h1, h2, h3, h4, h5⟩
  · exact ⟨_, h2, hdone h1⟩
  · exact ⟨_, h5, hmore i s v h1 h2 h3 h4⟩
end
end Go.Al
namespace Go.Al
section
variable {C : Cx} {A : Nat → SV} {d : Nat} {ty : TypeId} {pos : String} {af : Array Edge} {gd : Option (Nat × Bool)} {x : Operand}
theorem s_entry {gi gm n i : Nat} {seen : List Nat} {l : List ByteArray} {vs : List AV} {s : ByteArray} {v : AV} (hN : Nat.blt d C.N = true) (hx : opS A x = .ptr gi 0) (hg : A gi = .itr gm n (seen ++ [i])) (hm : A gm = .mpr (strs l) vs) (hn : Nat.beq n l.length = true) (hs : l[i]? = some s) (hv : vs[i]? = some v) :
    zf C ⟨some d, .entry x, ty, pos, af, gd⟩ (gi :: gm :: opR x) [] A [(d, .tup [.imm (.v (.string s)), .imm v])] := by
  refine zf.value rfl hN fun A' G a w hR S => ?_
  have hgA : A' gi = .itr gm n (seen ++ [i]) := (hR gi (by simp)).trans hg
  have hmA : A' gm = .mpr (strs l) vs := (hR gm (by simp)).trans hm
  have hn' : n = l.length := Nat.eq_of_beq_eq_true hn
  obtain ⟨c, hc1, hc2⟩ := S.opS ((z8 (fun k hk => hR k (List.mem_cons_of_mem _ (List.mem_cons_of_mem _ hk)))).trans hx) rfl
  simp only [RepS] at hc1
  have hev : a.eval x = .pointer (some ⟨G.blk gi, 0, none⟩) := by rw [hc2, hc1]; rfl
  have hi := S.holds gi
  rw [hgA] at hi
  simp only [Holds] at hi
  obtain ⟨ho1, hi1, hi2⟩ := hi
  have hb := S.holds gm
  rw [hmA] at hb
  simp only [Holds] at hb
  obtain ⟨ho2, ⟨es, h1, h2, h3, h4⟩, hni⟩ := hb
  have hkeys : es.toList.map (·.key) = l.map Value.string := repVs_strs h3
  have hlen : es.size = l.length := by have := congrArg List.length hkeys; simpa using this
  have hil : i < l.length := (List.getElem?_eq_some_iff.1 hs).1
  have hie : i < es.size := by omega
  have hki : es[i].key = .string s := by
    have hk2 : (es.toList.map (·.key))[i]? = (l.map Value.string)[i]? := by rw [hkeys]
    simp only [List.getElem?_map, Array.getElem?_toList, Array.getElem?_eq_getElem hie, Option.map_some, hs] at hk2
    exact Option.some.inj hk2
  obtain ⟨u, hu1, hu2⟩ := repVs_get h4 hv
  simp only [List.getElem?_map, Array.getElem?_toList, Array.getElem?_eq_getElem hie, Option.map_some, Option.some.injEq] at hu1
  have hnd : (es.toList.map (·.born)).Nodup := by
    have : es.toList.map (·.born) = List.range es.size := by
      refine List.ext_getElem (by simp) fun j h5 h6 => ?_
      have : j < es.size := by simpa using h5
      simp [h2 j this]
    rw [this]; exact List.nodup_range
  have hi1' : w.heap[G.blk gi]? = some (.mapIter (some (G.blk gm)) n (seen.toArray.push es[i].born) es.size) := by
    rw [hi1, h2 i hie, hn', hlen]; simp
  have hrun := run_entry_at (P := C.P) w (G.blk gi) (G.blk gm) n seen.toArray es es.size es[i] hi1' h1 (by simp) hnd
  refine ⟨.tuple #[es[i].key, es[i].val], ?_, ?_⟩
  · simp only [execOp, hev, Sem.run_bind, hrun, Result.andThen_ok, Sem.run_pure]
  · simp only [yl]
    exact ⟨[es[i].key, es[i].val], rfl, es[i].key, _, rfl, zt.2 (by rw [hki]; exact yg _ _ rfl), es[i].val, [], rfl, zt.2 (by rw [hu1]; exact hu2), rfl⟩
end
theorem look_row {st : St} {k : Nat} {l m : List ByteArray} (h : look st k = .row l) (e : l = m) : look st k = .row m := by rw [h, e]
theorem look_units {st : St} {k g n m : Nat} (h : look st k = .slg g 0 (units n)) (e : n = m) : look st k = .slg g 0 (units m) := by rw [h, e]
theorem look_itr {st : St} {k g n m : Nat} {s t : List Nat} (h : look st k = .itr g n s) (e : n = m) (e2 : s = t) : look st k = .itr g m t := by rw [h, e, e2]
theorem look_mpr {st : St} {k : Nat} {a a' b b' : List AV} (h : look st k = .mpr a b) (e : a = a') (e2 : b = b') : look st k = .mpr a' b' := by rw [h, e, e2]
theorem strs_length (l : List ByteArray) : (strs l).length = l.length := by simp [strs]
end Go.Al
namespace Go.Proofs
open Go Go.Al
theorem sameVs_ne {a b : List GV} (h : a ≠ b) : sameVs a b = false := by cases hs : sameVs a b; rfl; exact absurd ((we _ _).1 hs) h
theorem sameA_ne {a b : GA} (h : a ≠ b) : sameA a b = false := by cases hs : sameA a b; rfl; exact absurd ((sameA_iff _ _).1 hs) h
theorem sameA_refl (a : GA) : sameA a a = true := (sameA_iff a a).2 rfl
theorem sameVs_refl (a : List GV) : sameVs a a = true := (we a a).2 rfl
theorem nodup_lt : ∀ (n : Nat) (s : List Nat), s.Nodup → (∀ i ∈ s, i < n) → s.length ≤ n
  | 0, s, _, h => by
    cases s with
    | nil => simp
    | cons x s => exact absurd (h x (by simp)) (by omega)
  | n + 1, s, hn, h => by
    by_cases hm : n ∈ s
    · have h1 := nodup_lt n (s.erase n) (hn.erase n) (fun i hi => by
        have h2 := h i (List.mem_of_mem_erase hi)
        have h3 := ((List.Nodup.mem_erase_iff hn).1 hi).1
        omega)
      have := List.length_erase_of_mem hm
      omega
    · have := nodup_lt n s hn (fun i hi => by
        have h1 := h i hi
        have : i ≠ n := by rintro rfl; exact hm hi
        omega)
      omega
def ksOf (l : List GA) (seen : List Nat) : List ByteArray := seen.map fun i => (mks l).getD i ⟨#[]⟩
theorem ksOf_snoc {l : List GA} {seen : List Nat} {q : Nat} {tx : ByteArray} (h : (mks l)[q]? = some tx) : ksOf l (seen ++ [q]) = ksOf l seen ++ [tx] := by
  simp only [ksOf, List.map_append, List.map_cons, List.map_nil, List.getD_eq_getElem?_getD, h, Option.getD_some]
theorem ksOf_len (l : List GA) (seen : List Nat) : (ksOf l seen).length = seen.length := by simp [ksOf]
theorem nodup_snoc {s : List Nat} {q : Nat} (h : s.Nodup) (hq : q ∉ s) : (s ++ [q]).Nodup := by
  rw [List.nodup_append]
  refine ⟨h, by simp, fun a ha b hb => ?_⟩
  simp at hb; subst hb; rintro rfl; exact hq ha
theorem look_key {l : List GA} {k : ByteArray} (h : k ∈ mks l) : ∃ p, mfind (mks l) k 0 = some p ∧ (mvs l)[p]? = some (iv (lastI l k : Int)) ∧ lastI l k < l.length := by
  cases hm : mfind (mks l) k 0 with
  | none => exact absurd h (mfind_none.1 hm)
  | some p =>
    have h1 := mfind_get hm
    simp only [Nat.sub_zero] at h1
    refine ⟨p, rfl, by unfold mvs; rw [List.getElem?_map, h1]; rfl, ?_⟩
    obtain ⟨j, hj⟩ := (mks_spec l k).1 h
    have := lastAt_lt hj
    unfold lastI
    rw [hj]; simp; omega
end Go.Proofs
namespace Go.Proofs
open Go Go.Al Go.Shelf
def Tryz.lays190_ren : Go.Shelf.Ren := ⟨fun | 190 => 78 | 125 => 112 | 258 => 111 | 128 => 172 | 129 => 173 | 302 => 163 | 303 => 164 | 304 => 165 | 305 => 166 | 306 => 167 | 307 => 168 | 308 => 169 | 309 => 170 | 310 => 171 | 333 => 204 | 329 => 205 | 330 => 206 | 334 => 207 | 335 => 208 | 336 => 209 | 344 => 217 | n => n, fun | 31 => 31 | 9 => 9 | 3 => 3 | 46 => 194 | 0 => 0 | 51 => 236 | 53 => 45 | 4 => 4 | 183 => 229 | 182 => 228 | 131 => 176 | 5 => 5 | 218 => 256 | 222 => 259 | 228 => 265 | 229 => 248 | n => n, fun | n => n⟩
theorem Tryz.lays190 : Go.Proofs.Lays.n190 Tryz.prog Tryz.lays190_ren := {
  mixed := by kernel_rfl
  f125 := Tryz.func112.trans (congrArg some (by kernel_rfl))
  f128 := Tryz.func172.trans (congrArg some (by kernel_rfl))
  f129 := Tryz.func173.trans (congrArg some (by kernel_rfl))
  f190 := Tryz.func78.trans (congrArg some (by kernel_rfl))
  f258 := Tryz.func111.trans (congrArg some (by kernel_rfl))
  f302 := Tryz.func163.trans (congrArg some (by kernel_rfl))
  f303 := Tryz.func164.trans (congrArg some (by kernel_rfl))
  f304 := Tryz.func165.trans (congrArg some (by kernel_rfl))
  f305 := Tryz.func166.trans (congrArg some (by kernel_rfl))
  f306 := Tryz.func167.trans (congrArg some (by kernel_rfl))
  f307 := Tryz.func168.trans (congrArg some (by kernel_rfl))
  f308 := Tryz.func169.trans (congrArg some (by kernel_rfl))
  f309 := Tryz.func170.trans (congrArg some (by kernel_rfl))
  f310 := Tryz.func171.trans (congrArg some (by kernel_rfl))
  f329 := Tryz.func205.trans (congrArg some (by kernel_rfl))
  f330 := Tryz.func206.trans (congrArg some (by kernel_rfl))
  f333 := Tryz.func204.trans (congrArg some (by kernel_rfl))
  f334 := Tryz.func207.trans (congrArg some (by kernel_rfl))
  f335 := Tryz.func208.trans (congrArg some (by kernel_rfl))
  f336 := Tryz.func209.trans (congrArg some (by kernel_rfl))
  f344 := Tryz.func217.trans (congrArg some (by kernel_rfl))
  t0 := Tryz.underlying0
  a0 := Tryz.isAgg0
  z0 := Tryz.sizeOf0
  v0 := Tryz.zeroValue0
  t3 := Tryz.underlying3
  a3 := Tryz.isAgg3
  z3 := Tryz.sizeOf3
  v3 := Tryz.zeroValue3
  t4 := Tryz.underlying4
  a4 := Tryz.isAgg4
  z4 := Tryz.sizeOf4
  v4 := Tryz.zeroValue4
  t5 := Tryz.underlying5
  a5 := Tryz.isAgg5
  z5 := Tryz.sizeOf5
  v5 := Tryz.zeroValue5
  t9 := Tryz.underlying9
  a9 := Tryz.isAgg9
  z9 := Tryz.sizeOf9
  v9 := Tryz.zeroValue9
  t31 := Tryz.underlying31
  a31 := Tryz.isAgg31
  z31 := Tryz.sizeOf31
  v31 := Tryz.zeroValue31
  t46 := Tryz.underlying194
  a46 := Tryz.isAgg194
  z46 := Tryz.sizeOf194
  v46 := Tryz.zeroValue194
  t51 := Tryz.underlying236
  a51 := Tryz.isAgg236
  z51 := Tryz.sizeOf236
  v51 := Tryz.zeroValue236
  t53 := Tryz.underlying45
  a53 := Tryz.isAgg45
  z53 := Tryz.sizeOf45
  v53 := Tryz.zeroValue45
  t131 := Tryz.underlying176
  a131 := Tryz.isAgg176
  z131 := Tryz.sizeOf176
  v131 := Tryz.zeroValue176
  t182 := Tryz.underlying228
  a182 := Tryz.isAgg228
  z182 := Tryz.sizeOf228
  v182 := Tryz.zeroValue228
  t183 := Tryz.underlying229
  a183 := Tryz.isAgg229
  z183 := Tryz.sizeOf229
  v183 := Tryz.zeroValue229
  t218 := Tryz.underlying256
  a218 := Tryz.isAgg256
  z218 := Tryz.sizeOf256
  v218 := Tryz.zeroValue256
  t222 := Tryz.underlying259
  a222 := Tryz.isAgg259
  z222 := Tryz.sizeOf259
  v222 := Tryz.zeroValue259
  t228 := Tryz.underlying265
  a228 := Tryz.isAgg265
  z228 := Tryz.sizeOf265
  v228 := Tryz.zeroValue265
  t229 := Tryz.underlying248
  a229 := Tryz.isAgg248
  z229 := Tryz.sizeOf248
  v229 := Tryz.zeroValue248 }
theorem sort_c : SortC Tryz.prog Γ0 78 where
  call := by kernel_rfl
  sorts := fun blk cap ss w hH hb hs => Any.slices_Sort_string Tryz.lays190 blk 0 cap ss w hH hb hs
  empty := ⟨by kernel_rfl, fun w I args hv hg hr => by
    simp only [yD] at hr
    obtain ⟨cc, r, rfl, h1, rfl⟩ := hr
    have e : mkV (.v (.slice none 0 0)) cc = .slice none 0 0 := by
      simp only [RepC] at h1
      rw [h1.1]; rfl
    rw [e]
    refine (Any.slices_Sort_string_none Tryz.lays190 none 0 w).mono ?_
    rintro e w' ⟨rfl, rfl⟩
    exact ⟨_, I, rfl, RowKit.Below.refl _ _, Le.refl _ _, fun b o h => .inl h, hv, [], rfl, by simp only [yD]⟩⟩
end Go.Proofs
