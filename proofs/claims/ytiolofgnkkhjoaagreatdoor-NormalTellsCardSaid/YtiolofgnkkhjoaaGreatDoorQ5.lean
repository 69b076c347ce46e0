/- Texts that the proofs of this claim share, part 5: the abstract logic, plain Lean on values and batches, and walks. No condition but those typed in each lemma. -/
import Derived.Test.YtiolofgnkkhjoaaGreatDoorQ4
set_option linter.unusedSimpArgs false
set_option linter.unusedVariables false
set_option maxHeartbeats 400000
namespace Go.Proofs
open Go Go.Al
set_option maxRecDepth 10000
set_option maxHeartbeats 4000000 in
theorem leftS_c (s : GSpan) (n : Int) (hn : -1000000000000 ≤ n ∧ n ≤ 1000000000) : zo Tryz.prog Γ0 23 [s.av, iv n] [iv (leftS s n)] := by
  refine z_ Tryz.func23 rfl Tryz.ntmps23 (by kernel_rfl) rfl fun w0 I0 G0 => ?_
  refine zD <| zB <| g_uG (zi 1002 rfl rfl rfl rfl) rfl <| g_u (zE rfl rfl) <| zI <| zA <| zD <| zD <| zB <| g_u (zC rfl rfl) <| g_u (yb rfl rfl rfl) <| g_u (zC rfl rfl) <| z0 (t := 9) rfl ?_
  rintro (hb1 | hb1)
  · rw [hb1]
    have z1 : n < 0 := of_decide_eq_true hb1
    refine zH rfl rfl rfl <| zH rfl rfl rfl <| zH rfl rfl rfl <| zH rfl rfl rfl <| zH rfl rfl rfl <| g_u (zQ rfl rfl rfl) <| g_u (zC rfl rfl) <| zH rfl rfl rfl <| zH rfl rfl rfl <| zH rfl rfl rfl <| zH rfl rfl rfl <| zH rfl rfl rfl <| g_u (zQ rfl rfl rfl) <| g_u (zC rfl rfl) <| zH rfl rfl rfl <| zH rfl rfl rfl <| zH rfl rfl rfl <| zH rfl rfl rfl <| zH rfl rfl rfl <| zH rfl rfl rfl <| g_u (zQ rfl rfl rfl) <| zI <| zA <| zg rfl <| zD <| zB <| g_u (zE rfl rfl) <| zI <| zA <| zL <| zM ?_
    exact ⟨⟨(rfl : toAV (Al.look _ _) = some _).trans (congrArg some (by (exact congrArg iv (by unfold leftS; first | (rw [if_pos (by omega)]; done) | (rw [if_neg (by omega), g4, gfin]; done) | (rw [if_neg (by omega), g4, wH hi2 (by omega) hk2]; done) | (rw [if_neg (by omega), h4, wE hi (by omega) hk]; exact (xG _ (by omega)).symm))))), rfl⟩, trivial⟩
  · rw [hb1]
    have z1 : ¬ n < 0 := of_decide_eq_false hb1
    refine zN rfl rfl (zF rfl rfl fa63_3 rfl) <| zN rfl rfl (zG rfl rfl rfl tA9 tS9 rfl rfl) <| zN rfl rfl (xe rfl rfl Tryz.underlying9) <| zN rfl rfl (zC rfl rfl) <| zN rfl rfl (s_gtI rfl rfl rfl) <| g_u (zh rfl rfl rfl) <| g_u (zC rfl rfl) <| z0 (t := 16) rfl ?_
    rintro (hb2 | hb2)
    · rw [hb2]
      have z2 : (s.state.size : Int) > n := of_decide_eq_true hb2
      refine zH rfl rfl rfl <| zH rfl rfl rfl <| zH rfl rfl rfl <| zH rfl rfl rfl <| zH rfl rfl rfl <| g_u (zQ rfl rfl rfl) <| g_u (zC rfl rfl) <| zH rfl rfl rfl <| zH rfl rfl rfl <| zH rfl rfl rfl <| zH rfl rfl rfl <| zH rfl rfl rfl <| zH rfl rfl rfl <| g_u (zQ rfl rfl rfl) <| zI <| zA <| zg rfl <| zD <| zB <| g_u (zE rfl rfl) <| zI <| zA <| zL <| zM ?_
      exact ⟨⟨(rfl : toAV (Al.look _ _) = some _).trans (congrArg some (by (exact congrArg iv (by unfold leftS; first | (rw [if_pos (by omega)]; done) | (rw [if_neg (by omega), g4, gfin]; done) | (rw [if_neg (by omega), g4, wH hi2 (by omega) hk2]; done) | (rw [if_neg (by omega), h4, wE hi (by omega) hk]; exact (xG _ (by omega)).symm))))), rfl⟩, trivial⟩
    · rw [hb2]
      have z2 : ¬ (s.state.size : Int) > n := of_decide_eq_false hb2
      refine zN rfl rfl (zF rfl rfl fa63_4 rfl) <| zN rfl rfl (zG rfl rfl rfl tA9 tS9 rfl rfl) <| zN rfl rfl (xe rfl rfl Tryz.underlying9) <| zN rfl rfl (zC rfl rfl) <| zN rfl rfl (s_gtI rfl rfl rfl) <| g_u (zh rfl rfl rfl) <| g_u (zC rfl rfl) <| z0 (t := 23) rfl ?_
      rintro (hb3 | hb3)
      · rw [hb3]
        have z3 : (s.name.size : Int) > n := of_decide_eq_true hb3
        refine zH rfl rfl rfl <| zH rfl rfl rfl <| zH rfl rfl rfl <| zH rfl rfl rfl <| zH rfl rfl rfl <| zH rfl rfl rfl <| g_u (zQ rfl rfl rfl) <| zI <| zA <| zg rfl <| zD <| zB <| g_u (zE rfl rfl) <| zI <| zA <| zL <| zM ?_
        exact ⟨⟨(rfl : toAV (Al.look _ _) = some _).trans (congrArg some (by (exact congrArg iv (by unfold leftS; first | (rw [if_pos (by omega)]; done) | (rw [if_neg (by omega), g4, gfin]; done) | (rw [if_neg (by omega), g4, wH hi2 (by omega) hk2]; done) | (rw [if_neg (by omega), h4, wE hi (by omega) hk]; exact (xG _ (by omega)).symm))))), rfl⟩, trivial⟩
      · rw [hb3]
        have z3 : ¬ (s.name.size : Int) > n := of_decide_eq_false hb3
        refine zN rfl rfl (zF rfl rfl fa63_11 rfl) <| zN rfl rfl (zF rfl rfl fa61_1 rfl) <| zN rfl rfl (zG rfl rfl rfl tA9 tS9 rfl rfl) <| zN rfl rfl (xe rfl rfl Tryz.underlying9) <| zN rfl rfl (zC rfl rfl) <| zN rfl rfl (s_gtI rfl rfl rfl) <| g_u (zh rfl rfl rfl) <| zI <| zA ?_
        refine zW rfl (fun hb4 => ?_) (fun hb4 => ?_)
        · have z4 : (s.note.size : Int) > n := of_decide_eq_true hb4
          refine zD <| zB <| g_u (zE rfl rfl) <| zI <| zA <| zL <| zM ?_
          exact ⟨⟨(rfl : toAV (Al.look _ _) = some _).trans (congrArg some (by (exact congrArg iv (by unfold leftS; first | (rw [if_pos (by omega)]; done) | (rw [if_neg (by omega), g4, gfin]; done) | (rw [if_neg (by omega), g4, wH hi2 (by omega) hk2]; done) | (rw [if_neg (by omega), h4, wE hi (by omega) hk]; exact (xG _ (by omega)).symm))))), rfl⟩, trivial⟩
        · have z4 : ¬ (s.note.size : Int) > n := of_decide_eq_false hb4
          have bm := wJ s.attrs (n - 1 - s.state.size - s.name.size - s.note.size)
          have ew : yT s.attrs (IntKind.i64.wrap (IntKind.i64.wrap (IntKind.i64.wrap (IntKind.i64.wrap (n - 1) - s.state.size) - s.name.size) - s.note.size)) = yT s.attrs (n - 1 - s.state.size - s.name.size - s.note.size) := by rw [ze (n := n - 1) (by omega) (by omega), ze (n := n - 1 - s.state.size) (by omega) (by omega), ze (n := n - 1 - s.state.size - s.name.size) (by omega) (by omega), ze (by omega) (by omega)]
          refine zY <| zA <| zD <| zB <| g_u (zF rfl rfl wy rfl) <| g_u (zG rfl rfl rfl tA44 tS44 rfl rfl) <| g_u (zC rfl rfl) <| g_u (s_sub rfl rfl rfl) <| g_u (zF rfl rfl fa63_3 rfl) <| g_u (zG rfl rfl rfl tA9 tS9 rfl rfl) <| g_u (xe rfl rfl Tryz.underlying9) <| g_u (s_sub rfl rfl rfl) <| g_u (zF rfl rfl fa63_4 rfl) <| g_u (zG rfl rfl rfl tA9 tS9 rfl rfl) <| g_u (xe rfl rfl Tryz.underlying9) <| g_u (s_sub rfl rfl rfl) <| g_u (zF rfl rfl fa63_11 rfl) <| g_u (zF rfl rfl fa61_1 rfl) <| g_u (zG rfl rfl rfl tA9 tS9 rfl rfl) <| g_u (xe rfl rfl Tryz.underlying9) <| g_u (s_sub rfl rfl rfl) ?_
          refine g_u (zP (leftAs_c _ _ ⟨by ((try simp only [decide_eq_true_eq, qb, bne_iff_ne, ne_eq, beq_iff_eq, qd, qe, Bool.not_eq_true', Bool.not_eq_false', gt_iff_lt, ge_iff_le] at *); (repeat simp (disch := omega) only [ze, yS] at *)); omega, by ((try simp only [decide_eq_true_eq, qb, bne_iff_ne, ne_eq, beq_iff_eq, qd, qe, Bool.not_eq_true', Bool.not_eq_false', gt_iff_lt, ge_iff_le] at *); (repeat simp (disch := omega) only [ze, yS] at *)); omega⟩) rfl rfl) ?_
          refine g_u (zE rfl rfl) <| zI <| zA <| zD <| zD <| zB <| g_u (zE rfl rfl) <| zI <| zA <| zU ?_
          refine zp (fun j : Nat × Int => [(2, .ptr 1002 0), (1002, .box 63 (.imm s.av)), (1, .imm (iv j.2)), (5, .imm (iv (j.1 : Int)))]) (fun j => j.1 ≤ s.events.length ∧ (-1000000000000 ≤ j.2 ∧ j.2 ≤ 1000000000) ∧ ((j.1 : Int) ≤ yT s.attrs (n - 1 - s.state.size - s.name.size - s.note.size) - j.2) ∧ leftE s.events (yT s.attrs (n - 1 - s.state.size - s.name.size - s.note.size)) = leftE (s.events.drop j.1) j.2) (fun j => s.events.length - j.1) (⟨0, yT s.attrs (n - 1 - s.state.size - s.name.size - s.note.size)⟩) ?_ ⟨rfl, rfl, zZ rfl (by rw [ew]), rfl, trivial⟩ ?_
          · exact ⟨Nat.zero_le _, ⟨by have := bm.2.1; omega, by omega⟩, by simp, rfl⟩
          · rintro ⟨i, m⟩ ⟨h1, h2, h3, h4⟩; dsimp only at h1 h2 h3 h4
            refine zD <| zD <| zB <| g_u (zC rfl rfl) <| g_u (zF rfl rfl yw rfl) <| g_u (zG rfl rfl rfl tA58 tS58 rfl rfl) <| g_u (zw rfl rfl Tryz.underlying58) <| g_u (yb rfl rfl rfl) <| g_u (zC rfl rfl) <| z0 (t := 54) rfl ?_
            rintro (hb5 | hb5)
            · rw [hb5]
              have hi : i < s.events.length := by have := of_decide_eq_true hb5; (try simp only [List.length_map] at this); omega
              refine zN rfl rfl (zC rfl rfl) <| zN rfl rfl (s_geI rfl rfl rfl) <| g_u (zQ rfl rfl rfl) <| zI <| zA ?_
              refine zW rfl (fun hb6 => ?_) (fun hb6 => ?_)
              · have hs : ¬ m < 0 := by have := of_decide_eq_true hb6; omega
                refine zY <| zA <| zD <| zU <| zD <| zD <| zB <| g_u (zF rfl rfl yw rfl) <| g_u (zG rfl rfl rfl tA58 tS58 rfl rfl) <| g_u (zC rfl rfl) ?_
                refine g_u (zJ rfl rfl rfl Tryz.underlying58 tS92 (by omega) (ixE hi)) ?_
                refine g_u (zV rfl rfl fa92_1 rfl rfl) <| g_u (zT rfl rfl tA9 tS9 rfl rfl) <| g_u (xe rfl rfl Tryz.underlying9) <| g_u (zC rfl rfl) <| g_u (s_gtI rfl rfl rfl) <| zI <| zA ?_
                refine zW rfl (fun hb7 => ?_) (fun hb7 => ?_)
                · have hk : ((nthE s.events i).name.size : Int) > m := of_decide_eq_true hb7
                  refine zD <| zB <| g_u (zE rfl rfl) <| zI <| zA <| zL <| zM <| zq <| zM <| zM <| zq <| zM ?_
                  exact ⟨⟨(rfl : toAV (Al.look _ _) = some _).trans (congrArg some (by (exact congrArg iv (by unfold leftS; first | (rw [if_pos (by omega)]; done) | (rw [if_neg (by omega), g4, gfin]; done) | (rw [if_neg (by omega), g4, wH hi2 (by omega) hk2]; done) | (rw [if_neg (by omega), h4, wE hi (by omega) hk]; exact (xG _ (by omega)).symm))))), rfl⟩, trivial⟩
                · have hk : ¬ ((nthE s.events i).name.size : Int) > m := of_decide_eq_false hb7
                  refine zY <| zA <| yE yt <| g_u (zF rfl rfl yw rfl) <| g_u (zG rfl rfl rfl tA58 tS58 rfl rfl) <| g_u (zC rfl rfl) ?_
                  refine g_u (zJ rfl rfl rfl Tryz.underlying58 tS92 (by omega) (ixE hi)) ?_
                  refine g_u (zV rfl rfl fa92_2 rfl rfl) <| g_u (zT rfl rfl tA44 tS44 rfl rfl) <| g_u (zC rfl rfl) <| g_u (s_sub rfl rfl rfl) <| g_u (zF rfl rfl yw rfl) <| g_u (zG rfl rfl rfl tA58 tS58 rfl rfl) <| g_u (zC rfl rfl) ?_
                  refine g_u (zJ rfl rfl rfl Tryz.underlying58 tS92 (by omega) (ixE hi)) ?_
                  refine g_u (zV rfl rfl fa92_1 rfl rfl) <| g_u (zT rfl rfl tA9 tS9 rfl rfl) <| g_u (xe rfl rfl Tryz.underlying9) <| g_u (s_sub rfl rfl rfl) ?_
                  refine g_u (zP (leftAs_c _ _ ⟨by ((try simp only [decide_eq_true_eq, qb, bne_iff_ne, ne_eq, beq_iff_eq, qd, qe, Bool.not_eq_true', Bool.not_eq_false', gt_iff_lt, ge_iff_le] at *); (repeat simp (disch := omega) only [ze, yS] at *)); omega, by ((try simp only [decide_eq_true_eq, qb, bne_iff_ne, ne_eq, beq_iff_eq, qd, qe, Bool.not_eq_true', Bool.not_eq_false', gt_iff_lt, ge_iff_le] at *); (repeat simp (disch := omega) only [ze, yS] at *)); omega⟩) rfl rfl) ?_
                  refine g_u (zE rfl rfl) ?_
                  refine zI ⟨by kernel_rfl, ?_⟩
                  refine zX <| zA <| zB <| g_u (zC rfl rfl) <| g_u (yG rfl rfl rfl) <| g_u (zE rfl rfl) <| zI <| zA ?_
                  have ed := leftE_drop (m := m) hi (by omega) hk
                  have bl := wJ (nthE s.events i).attrs (m - 1 - (nthE s.events i).name.size)
                  refine ⟨⟨i + 1, yT (nthE s.events i).attrs (m - 1 - (nthE s.events i).name.size)⟩, ⟨hi, ⟨by dsimp only; omega, by dsimp only; omega⟩, by dsimp only; omega, by dsimp only; rw [h4, ed]⟩, ⟨rfl, rfl, zZ rfl (by dsimp only; rw [ze (n := m - 1) (by omega) (by omega), ze (by omega) (by omega)]), zZ rfl (by rw [ze (by omega) (by omega)]; rfl), trivial⟩, by dsimp only; omega⟩
              · have hs : m < 0 := by have := of_decide_eq_false hb6; omega
                have hm : leftE s.events (yT s.attrs (n - 1 - s.state.size - s.name.size - s.note.size)) = m := by rw [h4]; exact leftE_neg _ hs
                refine zu <| zR <| zR <| zn <| zA <| zD <| zD <| zB <| g_u (zE rfl rfl) <| zI <| zA <| zU ?_
                refine zp (fun j : Nat × Int => [(2, .ptr 1002 0), (1002, .box 63 (.imm s.av)), (1, .imm (iv j.2)), (6, .imm (iv (j.1 : Int)))]) (fun j => j.1 ≤ s.links.length ∧ (-1000000000000 ≤ j.2 ∧ j.2 ≤ 1000000000) ∧ ((j.1 : Int) ≤ leftE s.events (yT s.attrs (n - 1 - s.state.size - s.name.size - s.note.size)) - j.2) ∧ leftL s.links (leftE s.events (yT s.attrs (n - 1 - s.state.size - s.name.size - s.note.size))) = leftL (s.links.drop j.1) j.2) (fun j => s.links.length - j.1) (⟨0, m⟩) ?_ ⟨rfl, rfl, rfl, rfl, trivial⟩ ?_
                · exact ⟨Nat.zero_le _, h2, by rw [hm]; simp, by rw [hm]; rfl⟩
                · rintro ⟨i2, m2⟩ ⟨g1, g2, g3, g4⟩; dsimp only at g1 g2 g3 g4
                  refine zD <| zD <| zB <| g_u (zC rfl rfl) <| g_u (zF rfl rfl yy rfl) <| g_u (zG rfl rfl rfl tA59 tS59 rfl rfl) <| g_u (zw rfl rfl Tryz.underlying59) <| g_u (yb rfl rfl rfl) <| g_u (zC rfl rfl) <| z0 (t := 91) rfl ?_
                  rintro (hb8 | hb8)
                  · rw [hb8]
                    have hi2 : i2 < s.links.length := by have := of_decide_eq_true hb8; (try simp only [List.length_map] at this); omega
                    refine zN rfl rfl (zC rfl rfl) <| zN rfl rfl (s_geI rfl rfl rfl) <| g_u (zQ rfl rfl rfl) <| zI <| zA ?_
                    refine zW rfl (fun hb9 => ?_) (fun hb9 => ?_)
                    · have hs2 : ¬ m2 < 0 := by have := of_decide_eq_true hb9; omega
                      refine zY <| zA <| zD <| zU <| zD <| zD <| zB <| g_u (zF rfl rfl yy rfl) <| g_u (zG rfl rfl rfl tA59 tS59 rfl rfl) <| g_u (zC rfl rfl) ?_
                      refine g_u (zJ rfl rfl rfl Tryz.underlying59 tS94 (by omega) (ixL hi2)) ?_
                      refine g_u (zV rfl rfl fa94_2 rfl rfl) <| g_u (zT rfl rfl tA9 tS9 rfl rfl) <| g_u (xe rfl rfl Tryz.underlying9) <| g_u (zC rfl rfl) <| g_u (s_gtI rfl rfl rfl) <| zI <| zA ?_
                      refine zW rfl (fun hb10 => ?_) (fun hb10 => ?_)
                      · have hk2 : ((nthL s.links i2).state.size : Int) > m2 := of_decide_eq_true hb10
                        refine zD <| zB <| g_u (zE rfl rfl) <| zI <| zA <| zL <| zM <| zq <| zM <| zM <| zq <| zM ?_
                        exact ⟨⟨(rfl : toAV (Al.look _ _) = some _).trans (congrArg some (by (exact congrArg iv (by unfold leftS; first | (rw [if_pos (by omega)]; done) | (rw [if_neg (by omega), g4, gfin]; done) | (rw [if_neg (by omega), g4, wH hi2 (by omega) hk2]; done) | (rw [if_neg (by omega), h4, wE hi (by omega) hk]; exact (xG _ (by omega)).symm))))), rfl⟩, trivial⟩
                      · have hk2 : ¬ ((nthL s.links i2).state.size : Int) > m2 := of_decide_eq_false hb10
                        refine zY <| zA <| yE yt <| g_u (zF rfl rfl yy rfl) <| g_u (zG rfl rfl rfl tA59 tS59 rfl rfl) <| g_u (zC rfl rfl) ?_
                        refine g_u (zJ rfl rfl rfl Tryz.underlying59 tS94 (by omega) (ixL hi2)) ?_
                        refine g_u (zV rfl rfl fa94_3 rfl rfl) <| g_u (zT rfl rfl tA44 tS44 rfl rfl) <| g_u (zC rfl rfl) <| g_u (s_sub rfl rfl rfl) <| g_u (zF rfl rfl yy rfl) <| g_u (zG rfl rfl rfl tA59 tS59 rfl rfl) <| g_u (zC rfl rfl) ?_
                        refine g_u (zJ rfl rfl rfl Tryz.underlying59 tS94 (by omega) (ixL hi2)) ?_
                        refine g_u (zV rfl rfl fa94_2 rfl rfl) <| g_u (zT rfl rfl tA9 tS9 rfl rfl) <| g_u (xe rfl rfl Tryz.underlying9) <| g_u (s_sub rfl rfl rfl) ?_
                        refine g_u (zP (leftAs_c _ _ ⟨by ((try simp only [decide_eq_true_eq, qb, bne_iff_ne, ne_eq, beq_iff_eq, qd, qe, Bool.not_eq_true', Bool.not_eq_false', gt_iff_lt, ge_iff_le] at *); (repeat simp (disch := omega) only [ze, yS] at *)); omega, by ((try simp only [decide_eq_true_eq, qb, bne_iff_ne, ne_eq, beq_iff_eq, qd, qe, Bool.not_eq_true', Bool.not_eq_false', gt_iff_lt, ge_iff_le] at *); (repeat simp (disch := omega) only [ze, yS] at *)); omega⟩) rfl rfl) ?_
                        refine g_u (zE rfl rfl) ?_
                        refine zI ⟨by kernel_rfl, ?_⟩
                        refine zX <| zA <| zB <| g_u (zC rfl rfl) <| g_u (yG rfl rfl rfl) <| g_u (zE rfl rfl) <| zI <| zA ?_
                        have ed := leftL_drop (m := m2) hi2 (by omega) hk2
                        have bl := wJ (nthL s.links i2).attrs (m2 - 1 - (nthL s.links i2).state.size)
                        refine ⟨⟨i2 + 1, yT (nthL s.links i2).attrs (m2 - 1 - (nthL s.links i2).state.size)⟩, ⟨hi2, ⟨by dsimp only; omega, by dsimp only; omega⟩, by dsimp only; omega, by dsimp only; rw [g4, ed]⟩, ⟨rfl, rfl, zZ rfl (by dsimp only; rw [ze (n := m2 - 1) (by omega) (by omega), ze (by omega) (by omega)]), zZ rfl (by rw [ze (by omega) (by omega)]; rfl), trivial⟩, by dsimp only; omega⟩
                    · have hs2 : m2 < 0 := by have := of_decide_eq_false hb9; omega
                      have gfin : leftL (s.links.drop i2) m2 = m2 := xG _ hs2
                      refine zu <| zR <| zR <| zn <| zA <| zD <| zB <| g_u (zC rfl rfl) <| g_u (zE rfl rfl) <| zI <| zA <| zL ?_
                      exact ⟨⟨(rfl : toAV (Al.look _ _) = some _).trans (congrArg some (by (exact congrArg iv (by unfold leftS; first | (rw [if_pos (by omega)]; done) | (rw [if_neg (by omega), g4, gfin]; done) | (rw [if_neg (by omega), g4, wH hi2 (by omega) hk2]; done) | (rw [if_neg (by omega), h4, wE hi (by omega) hk]; exact (xG _ (by omega)).symm))))), rfl⟩, trivial⟩
                  · rw [hb8]
                    have hin2 : i2 = s.links.length := by have := of_decide_eq_false hb8; (try simp only [List.length_map] at this); omega
                    have gfin : leftL (s.links.drop i2) m2 = m2 := by rw [hin2, List.drop_length]; rfl
                    refine zH rfl rfl rfl <| zH rfl rfl rfl <| g_u (zh rfl rfl rfl) <| zI <| zA <| yF rfl <| zu <| zR <| zR <| zn <| zA <| zD <| zB <| g_u (zC rfl rfl) <| g_u (zE rfl rfl) <| zI <| zA <| zL ?_
                    exact ⟨⟨(rfl : toAV (Al.look _ _) = some _).trans (congrArg some (by (exact congrArg iv (by unfold leftS; first | (rw [if_pos (by omega)]; done) | (rw [if_neg (by omega), g4, gfin]; done) | (rw [if_neg (by omega), g4, wH hi2 (by omega) hk2]; done) | (rw [if_neg (by omega), h4, wE hi (by omega) hk]; exact (xG _ (by omega)).symm))))), rfl⟩, trivial⟩
            · rw [hb5]
              have hin : i = s.events.length := by have := of_decide_eq_false hb5; (try simp only [List.length_map] at this); omega
              have hm : leftE s.events (yT s.attrs (n - 1 - s.state.size - s.name.size - s.note.size)) = m := by rw [h4, hin, List.drop_length]; rfl
              refine zH rfl rfl rfl <| zH rfl rfl rfl <| g_u (zh rfl rfl rfl) <| zI <| zA <| yF rfl <| zu <| zR <| zR <| zn <| zA <| zD <| zD <| zB <| g_u (zE rfl rfl) <| zI <| zA <| zU ?_
              refine zp (fun j : Nat × Int => [(2, .ptr 1002 0), (1002, .box 63 (.imm s.av)), (1, .imm (iv j.2)), (6, .imm (iv (j.1 : Int)))]) (fun j => j.1 ≤ s.links.length ∧ (-1000000000000 ≤ j.2 ∧ j.2 ≤ 1000000000) ∧ ((j.1 : Int) ≤ leftE s.events (yT s.attrs (n - 1 - s.state.size - s.name.size - s.note.size)) - j.2) ∧ leftL s.links (leftE s.events (yT s.attrs (n - 1 - s.state.size - s.name.size - s.note.size))) = leftL (s.links.drop j.1) j.2) (fun j => s.links.length - j.1) (⟨0, m⟩) ?_ ⟨rfl, rfl, rfl, rfl, trivial⟩ ?_
              · exact ⟨Nat.zero_le _, h2, by rw [hm]; simp, by rw [hm]; rfl⟩
              · rintro ⟨i2, m2⟩ ⟨g1, g2, g3, g4⟩; dsimp only at g1 g2 g3 g4
                refine zD <| zD <| zB <| g_u (zC rfl rfl) <| g_u (zF rfl rfl yy rfl) <| g_u (zG rfl rfl rfl tA59 tS59 rfl rfl) <| g_u (zw rfl rfl Tryz.underlying59) <| g_u (yb rfl rfl rfl) <| g_u (zC rfl rfl) <| z0 (t := 91) rfl ?_
                rintro (hb11 | hb11)
                · rw [hb11]
                  have hi2 : i2 < s.links.length := by have := of_decide_eq_true hb11; (try simp only [List.length_map] at this); omega
                  refine zN rfl rfl (zC rfl rfl) <| zN rfl rfl (s_geI rfl rfl rfl) <| g_u (zQ rfl rfl rfl) <| zI <| zA ?_
                  refine zW rfl (fun hb12 => ?_) (fun hb12 => ?_)
                  · have hs2 : ¬ m2 < 0 := by have := of_decide_eq_true hb12; omega
                    refine zY <| zA <| zD <| zU <| zD <| zD <| zB <| g_u (zF rfl rfl yy rfl) <| g_u (zG rfl rfl rfl tA59 tS59 rfl rfl) <| g_u (zC rfl rfl) ?_
                    refine g_u (zJ rfl rfl rfl Tryz.underlying59 tS94 (by omega) (ixL hi2)) ?_
                    refine g_u (zV rfl rfl fa94_2 rfl rfl) <| g_u (zT rfl rfl tA9 tS9 rfl rfl) <| g_u (xe rfl rfl Tryz.underlying9) <| g_u (zC rfl rfl) <| g_u (s_gtI rfl rfl rfl) <| zI <| zA ?_
                    refine zW rfl (fun hb13 => ?_) (fun hb13 => ?_)
                    · have hk2 : ((nthL s.links i2).state.size : Int) > m2 := of_decide_eq_true hb13
                      refine zD <| zB <| g_u (zE rfl rfl) <| zI <| zA <| zL <| zM <| zq <| zM <| zM <| zq <| zM ?_
                      exact ⟨⟨(rfl : toAV (Al.look _ _) = some _).trans (congrArg some (by (exact congrArg iv (by unfold leftS; first | (rw [if_pos (by omega)]; done) | (rw [if_neg (by omega), g4, gfin]; done) | (rw [if_neg (by omega), g4, wH hi2 (by omega) hk2]; done) | (rw [if_neg (by omega), h4, wE hi (by omega) hk]; exact (xG _ (by omega)).symm))))), rfl⟩, trivial⟩
                    · have hk2 : ¬ ((nthL s.links i2).state.size : Int) > m2 := of_decide_eq_false hb13
                      refine zY <| zA <| yE yt <| g_u (zF rfl rfl yy rfl) <| g_u (zG rfl rfl rfl tA59 tS59 rfl rfl) <| g_u (zC rfl rfl) ?_
                      refine g_u (zJ rfl rfl rfl Tryz.underlying59 tS94 (by omega) (ixL hi2)) ?_
                      refine g_u (zV rfl rfl fa94_3 rfl rfl) <| g_u (zT rfl rfl tA44 tS44 rfl rfl) <| g_u (zC rfl rfl) <| g_u (s_sub rfl rfl rfl) <| g_u (zF rfl rfl yy rfl) <| g_u (zG rfl rfl rfl tA59 tS59 rfl rfl) <| g_u (zC rfl rfl) ?_
                      refine g_u (zJ rfl rfl rfl Tryz.underlying59 tS94 (by omega) (ixL hi2)) ?_
                      refine g_u (zV rfl rfl fa94_2 rfl rfl) <| g_u (zT rfl rfl tA9 tS9 rfl rfl) <| g_u (xe rfl rfl Tryz.underlying9) <| g_u (s_sub rfl rfl rfl) ?_
                      refine g_u (zP (leftAs_c _ _ ⟨by ((try simp only [decide_eq_true_eq, qb, bne_iff_ne, ne_eq, beq_iff_eq, qd, qe, Bool.not_eq_true', Bool.not_eq_false', gt_iff_lt, ge_iff_le] at *); (repeat simp (disch := omega) only [ze, yS] at *)); omega, by ((try simp only [decide_eq_true_eq, qb, bne_iff_ne, ne_eq, beq_iff_eq, qd, qe, Bool.not_eq_true', Bool.not_eq_false', gt_iff_lt, ge_iff_le] at *); (repeat simp (disch := omega) only [ze, yS] at *)); omega⟩) rfl rfl) ?_
                      refine g_u (zE rfl rfl) ?_
                      refine zI ⟨by kernel_rfl, ?_⟩
                      refine zX <| zA <| zB <| g_u (zC rfl rfl) <| g_u (yG rfl rfl rfl) <| g_u (zE rfl rfl) <| zI <| zA ?_
                      have ed := leftL_drop (m := m2) hi2 (by omega) hk2
                      have bl := wJ (nthL s.links i2).attrs (m2 - 1 - (nthL s.links i2).state.size)
                      refine ⟨⟨i2 + 1, yT (nthL s.links i2).attrs (m2 - 1 - (nthL s.links i2).state.size)⟩, ⟨hi2, ⟨by dsimp only; omega, by dsimp only; omega⟩, by dsimp only; omega, by dsimp only; rw [g4, ed]⟩, ⟨rfl, rfl, zZ rfl (by dsimp only; rw [ze (n := m2 - 1) (by omega) (by omega), ze (by omega) (by omega)]), zZ rfl (by rw [ze (by omega) (by omega)]; rfl), trivial⟩, by dsimp only; omega⟩
                  · have hs2 : m2 < 0 := by have := of_decide_eq_false hb12; omega
                    have gfin : leftL (s.links.drop i2) m2 = m2 := xG _ hs2
                    refine zu <| zR <| zR <| zn <| zA <| zD <| zB <| g_u (zC rfl rfl) <| g_u (zE rfl rfl) <| zI <| zA <| zL ?_
                    exact ⟨⟨(rfl : toAV (Al.look _ _) = some _).trans (congrArg some (by (exact congrArg iv (by unfold leftS; first | (rw [if_pos (by omega)]; done) | (rw [if_neg (by omega), g4, gfin]; done) | (rw [if_neg (by omega), g4, wH hi2 (by omega) hk2]; done) | (rw [if_neg (by omega), h4, wE hi (by omega) hk]; exact (xG _ (by omega)).symm))))), rfl⟩, trivial⟩
                · rw [hb11]
                  have hin2 : i2 = s.links.length := by have := of_decide_eq_false hb11; (try simp only [List.length_map] at this); omega
                  have gfin : leftL (s.links.drop i2) m2 = m2 := by rw [hin2, List.drop_length]; rfl
                  refine zH rfl rfl rfl <| zH rfl rfl rfl <| g_u (zh rfl rfl rfl) <| zI <| zA <| yF rfl <| zu <| zR <| zR <| zn <| zA <| zD <| zB <| g_u (zC rfl rfl) <| g_u (zE rfl rfl) <| zI <| zA <| zL ?_
                  exact ⟨⟨(rfl : toAV (Al.look _ _) = some _).trans (congrArg some (by (exact congrArg iv (by unfold leftS; first | (rw [if_pos (by omega)]; done) | (rw [if_neg (by omega), g4, gfin]; done) | (rw [if_neg (by omega), g4, wH hi2 (by omega) hk2]; done) | (rw [if_neg (by omega), h4, wE hi (by omega) hk]; exact (xG _ (by omega)).symm))))), rfl⟩, trivial⟩
end Go.Proofs
namespace Go.Proofs
open Go Go.Al
theorem leftE_bd : ∀ (es : List GE) (m : Int), leftE es m ≤ m ∧ (0 ≤ m → -1 ≤ leftE es m)
  | [], m => ⟨Int.le_refl _, fun h => by simp only [leftE]; omega⟩
  | e :: es, m => by
    rw [leftE]
    split
    · exact ⟨Int.le_refl _, fun h => by omega⟩
    split
    · exact ⟨by omega, fun h => by omega⟩
    rename_i h1 h2
    have b := wJ e.attrs (m - 1 - e.name.size)
    have c := leftE_bd es (yT e.attrs (m - 1 - e.name.size))
    refine ⟨by omega, fun h => ?_⟩
    rcases Int.lt_or_le (yT e.attrs (m - 1 - e.name.size)) 0 with h3 | h3
    · rw [leftE_neg _ h3]; omega
    · exact c.2 h3
theorem leftL_bd : ∀ (es : List GL) (m : Int), leftL es m ≤ m ∧ (0 ≤ m → -1 ≤ leftL es m)
  | [], m => ⟨Int.le_refl _, fun h => by simp only [leftL]; omega⟩
  | e :: es, m => by
    rw [leftL]
    split
    · exact ⟨Int.le_refl _, fun h => by omega⟩
    split
    · exact ⟨by omega, fun h => by omega⟩
    rename_i h1 h2
    have b := wJ e.attrs (m - 1 - e.state.size)
    have c := leftL_bd es (yT e.attrs (m - 1 - e.state.size))
    refine ⟨by omega, fun h => ?_⟩
    rcases Int.lt_or_le (yT e.attrs (m - 1 - e.state.size)) 0 with h3 | h3
    · rw [xG _ h3]; omega
    · exact c.2 h3
theorem leftS_bd (s : GSpan) {n : Int} (h : 0 ≤ n) : leftS s n ≤ n - 1 ∧ -(2 * n) - 1 ≤ leftS s n := by
  unfold leftS
  split
  · omega
  rename_i h1
  have a := wJ s.attrs (n - 1 - s.state.size - s.name.size - s.note.size)
  generalize yT s.attrs (n - 1 - s.state.size - s.name.size - s.note.size) = m at a ⊢
  have b := leftE_bd s.events m
  have b2 := fun h => leftE_neg s.events (m := m) h
  generalize leftE s.events m = p at b b2 ⊢
  have c := leftL_bd s.links p
  have c2 := fun h => xG s.links (m := p) h
  generalize leftL s.links p = q at c c2 ⊢
  omega
theorem leftSp_bd : ∀ (es : List GSpan) (m : Int), wQ es m ≤ m ∧ (0 ≤ m → -(2 * m) - 1 ≤ wQ es m)
  | [], m => ⟨Int.le_refl _, fun h => by simp only [wQ]; omega⟩
  | e :: es, m => by
    rw [wQ]
    split
    · exact ⟨Int.le_refl _, fun h => by omega⟩
    rename_i h1
    have b := leftS_bd e (n := m) (by omega)
    have c := leftSp_bd es (leftS e m)
    have d := fun h => leftSp_neg es (m := leftS e m) h
    generalize wQ es (leftS e m) = q at *
    omega
theorem leftC_bd : ∀ (es : List GScope) (m : Int), leftC es m ≤ m ∧ (0 ≤ m → -(2 * m) - 1 ≤ leftC es m)
  | [], m => ⟨Int.le_refl _, fun h => by simp only [leftC]; omega⟩
  | e :: es, m => by
    rw [leftC]
    split
    · exact ⟨Int.le_refl _, fun h => by omega⟩
    split
    · exact ⟨by omega, fun h => by omega⟩
    rename_i h1 h2
    have b := leftSp_bd e.spans (m - 1 - e.name.size - e.version.size)
    have b2 := fun h => leftSp_neg e.spans (m := m - 1 - e.name.size - e.version.size) h
    generalize wQ e.spans (m - 1 - e.name.size - e.version.size) = p at *
    have c := leftC_bd es p
    have d := fun h => leftC_neg es (m := p) h
    generalize leftC es p = q at *
    omega
theorem leftR_le {b : List GRes} {n : Int} (h : ¬ leftR b n < 0) : (wtB b : Int) ≤ n := by have := leftR_wt b (m := n) (by omega); omega
end Go.Proofs
namespace Go.Proofs
open Go Go.Al
set_option maxRecDepth 10000
set_option maxHeartbeats 4000000 in
theorem leftR_c (b : List GRes) (n : Int) (hn : -1000000000000 ≤ n ∧ n ≤ 1000000000) : zo Tryz.prog Γ0 6 [yK b, iv n] [iv (leftR b n)] := by
  refine z_ Tryz.func6 rfl Tryz.ntmps6 (by kernel_rfl) rfl fun w0 I0 G0 => ?_
  refine zD <| zB <| g_uG (zi 1002 rfl rfl rfl rfl) rfl <| g_u (zE rfl rfl) <| zI <| zA <| zD <| zD <| zB <| g_u (zE rfl rfl) <| zI <| zA <| zU ?_
  refine zp (fun j : Nat × Int => [(2, .ptr 1002 0), (1002, .box 24 (.imm (yK b))), (1, .imm (iv j.2)), (5, .imm (iv (j.1 : Int)))]) (fun j => j.1 ≤ b.length ∧ (-1000000000000 ≤ j.2 ∧ j.2 ≤ 1000000000) ∧ ((j.1 : Int) ≤ n - j.2) ∧ leftR b n = leftR (b.drop j.1) j.2) (fun j => b.length - j.1) (⟨0, n⟩) ?_ ⟨rfl, rfl, rfl, rfl, trivial⟩ ?_
  · exact ⟨Nat.zero_le _, hn, by dsimp only; omega, rfl⟩
  · rintro ⟨i, m⟩ ⟨h1, h2, h3, h4⟩; dsimp only at h1 h2 h3 h4
    refine zD <| zD <| zB <| g_u (zC rfl rfl) <| g_u (zF rfl rfl xD rfl) <| g_u (zG rfl rfl rfl tA22 tS22 rfl rfl) <| g_u (zw rfl rfl Tryz.underlying22) <| g_u (yb rfl rfl rfl) <| g_u (zC rfl rfl) <| z0 (t := 14) rfl ?_
    rintro (hb1 | hb1)
    · rw [hb1]
      have hi : i < b.length := by have := of_decide_eq_true hb1; (try simp only [List.length_map] at this); omega
      refine zN rfl rfl (zC rfl rfl) <| zN rfl rfl (s_geI rfl rfl rfl) <| g_u (zQ rfl rfl rfl) <| zI <| zA ?_
      refine zW rfl (fun hb2 => ?_) (fun hb2 => ?_)
      · have hs : m ≥ 0 := of_decide_eq_true hb2
        have b1 := wJ (nthR b i).attrs (m - 1)
        refine zY <| zA <| zD <| zU <| zD <| zB <| g_u (zF rfl rfl xD rfl) <| g_u (zG rfl rfl rfl tA22 tS22 rfl rfl) <| g_u (zC rfl rfl) ?_
        refine g_u (zJ rfl rfl rfl Tryz.underlying22 tS47 (by omega) (ixR hi)) ?_
        refine g_u (zT rfl rfl tA47 tS47 rfl rfl) <| g_uG (zl 1006 rfl rfl rfl tZ47) rfl <| g_u (zK rfl rfl rfl tS47 rfl rfl) <| zI <| zA <| zD <| zB <| g_u (zF rfl rfl fa47_0 rfl) <| g_u (zG rfl rfl rfl tA44 tS44 rfl rfl) <| g_u (zC rfl rfl) <| g_u (s_sub rfl rfl rfl) ?_
        refine g_u (zP (leftAs_c _ _ ⟨by ((try simp only [decide_eq_true_eq, qb, bne_iff_ne, ne_eq, beq_iff_eq, qd, qe, Bool.not_eq_true', Bool.not_eq_false', gt_iff_lt, ge_iff_le] at *); (repeat simp (disch := omega) only [ze, yS] at *)); omega, by ((try simp only [decide_eq_true_eq, qb, bne_iff_ne, ne_eq, beq_iff_eq, qd, qe, Bool.not_eq_true', Bool.not_eq_false', gt_iff_lt, ge_iff_le] at *); (repeat simp (disch := omega) only [ze, yS] at *)); omega⟩) rfl rfl) ?_
        refine g_u (zE rfl rfl) <| zI <| zA <| zD <| zB <| g_u (zE rfl rfl) <| zI <| zA <| zU ?_
        refine zp (fun j : Nat × Int => [(2, .ptr 1002 0), (1002, .box 24 (.imm (yK b))), (1, .imm (iv j.2)), (5, .imm (iv (i : Int))), (6, .ptr 1006 0), (1006, .box 47 (.imm (nthR b i).av)), (7, .imm (iv (j.1 : Int)))]) (fun j => j.1 ≤ (nthR b i).scopes.length ∧ (-1000000000000 ≤ j.2 ∧ j.2 ≤ 1000000000) ∧ ((j.1 : Int) ≤ (yT (nthR b i).attrs (m - 1)) - j.2) ∧ leftC (nthR b i).scopes (yT (nthR b i).attrs (m - 1)) = leftC ((nthR b i).scopes.drop j.1) j.2) (fun j => (nthR b i).scopes.length - j.1) (⟨0, (yT (nthR b i).attrs (m - 1))⟩) ?_ ⟨rfl, rfl, zZ rfl (by rw [ze (by omega) (by omega)]), rfl, rfl, rfl, rfl, trivial⟩ ?_
        · exact ⟨Nat.zero_le _, ⟨by dsimp only; omega, by dsimp only; omega⟩, by simp, rfl⟩
        · rintro ⟨k, m1⟩ ⟨g1, g2, g3, g4⟩; dsimp only at g1 g2 g3 g4
          refine zD <| zD <| zB <| g_u (zC rfl rfl) <| g_u (zF rfl rfl wR rfl) <| g_u (zG rfl rfl rfl tA45 tS45 rfl rfl) <| g_u (zw rfl rfl Tryz.underlying45) <| g_u (yb rfl rfl rfl) <| g_u (zC rfl rfl) <| z0 (t := 35) rfl ?_
          rintro (hb3 | hb3)
          · rw [hb3]
            have hk : k < (nthR b i).scopes.length := by have := of_decide_eq_true hb3; (try simp only [List.length_map] at this); omega
            refine zN rfl rfl (zC rfl rfl) <| zN rfl rfl (s_geI rfl rfl rfl) <| g_u (zQ rfl rfl rfl) <| zI <| zA ?_
            refine zW rfl (fun hb4 => ?_) (fun hb4 => ?_)
            · have hs1 : m1 ≥ 0 := of_decide_eq_true hb4
              refine zY <| zA <| zD <| zU <| zD <| zD <| zB <| g_u (zF rfl rfl wR rfl) <| g_u (zG rfl rfl rfl tA45 tS45 rfl rfl) <| g_u (zC rfl rfl) ?_
              refine g_u (zJ rfl rfl rfl Tryz.underlying45 tS51 (by omega) (ixC hk)) ?_
              refine g_u (zV rfl rfl fa51_0 rfl rfl) <| g_u (zT rfl rfl tA9 tS9 rfl rfl) <| g_u (xe rfl rfl Tryz.underlying9) <| g_u (zC rfl rfl) <| g_u (s_gtI rfl rfl rfl) <| g_u (zC rfl rfl) <| z0 (t := 50) rfl ?_
              rintro (hb5 | hb5)
              · rw [hb5]
                have hA : (((nthC (nthR b i).scopes k).name.size : Int) > m1) := of_decide_eq_true hb5
                refine zH rfl rfl rfl <| zH rfl rfl rfl <| zH rfl rfl rfl <| zH rfl rfl rfl <| zH rfl rfl rfl <| zH rfl rfl rfl <| zH rfl rfl rfl <| zH rfl rfl rfl <| zH rfl rfl rfl <| g_u (zQ rfl rfl rfl) <| zI <| zA <| zg rfl <| zD <| zB <| g_u (zE rfl rfl) <| zI <| zA <| zL <| zM <| zq <| zM <| zM <| zq <| zq <| zM <| zM <| zq <| zM ?_
                exact ⟨⟨(rfl : toAV (Al.look _ _) = some _).trans (congrArg some (by (exact congrArg iv (by first | (rw [h4, hfin]; done) | (rw [h4, xr hi (by omega), g4, leftC_out hk (by omega) (.inl hA), vG _ (by decide)]; done) | (rw [h4, xr hi (by omega), g4, leftC_out hk (by omega) (.inr hB), vG _ (by decide)]; done))))), rfl⟩, trivial⟩
              · rw [hb5]
                have hA : ¬ (((nthC (nthR b i).scopes k).name.size : Int) > m1) := of_decide_eq_false hb5
                refine zN rfl rfl (zF rfl rfl wR rfl) <| zN rfl rfl (zG rfl rfl rfl tA45 tS45 rfl rfl) <| zN rfl rfl (zC rfl rfl) ?_
                refine zN rfl rfl (zJ rfl rfl rfl Tryz.underlying45 tS51 (by omega) (ixC hk)) ?_
                refine zN rfl rfl (zV rfl rfl fa51_1 rfl rfl) <| zN rfl rfl (zT rfl rfl tA9 tS9 rfl rfl) <| zN rfl rfl (xe rfl rfl Tryz.underlying9) <| zN rfl rfl (zC rfl rfl) <| zN rfl rfl (s_gtI rfl rfl rfl) <| g_u (zh rfl rfl rfl) <| zI <| zA ?_
                refine zW rfl (fun hb6 => ?_) (fun hb6 => ?_)
                · have hB : (((nthC (nthR b i).scopes k).version.size : Int) > m1) := of_decide_eq_true hb6
                  refine zD <| zB <| g_u (zE rfl rfl) <| zI <| zA <| zL <| zM <| zq <| zM <| zM <| zq <| zq <| zM <| zM <| zq <| zM ?_
                  exact ⟨⟨(rfl : toAV (Al.look _ _) = some _).trans (congrArg some (by (exact congrArg iv (by first | (rw [h4, hfin]; done) | (rw [h4, xr hi (by omega), g4, leftC_out hk (by omega) (.inl hA), vG _ (by decide)]; done) | (rw [h4, xr hi (by omega), g4, leftC_out hk (by omega) (.inr hB), vG _ (by decide)]; done))))), rfl⟩, trivial⟩
                · have hB : ¬ (((nthC (nthR b i).scopes k).version.size : Int) > m1) := of_decide_eq_false hb6
                  refine zY <| zA <| zD <| yE yt <| g_u (zC rfl rfl) <| g_u (s_sub rfl rfl rfl) <| g_u (zF rfl rfl wR rfl) <| g_u (zG rfl rfl rfl tA45 tS45 rfl rfl) <| g_u (zC rfl rfl) ?_
                  refine g_u (zJ rfl rfl rfl Tryz.underlying45 tS51 (by omega) (ixC hk)) ?_
                  refine g_u (zV rfl rfl fa51_0 rfl rfl) <| g_u (zT rfl rfl tA9 tS9 rfl rfl) <| g_u (xe rfl rfl Tryz.underlying9) <| g_u (s_sub rfl rfl rfl) <| g_u (zF rfl rfl wR rfl) <| g_u (zG rfl rfl rfl tA45 tS45 rfl rfl) <| g_u (zC rfl rfl) ?_
                  refine g_u (zJ rfl rfl rfl Tryz.underlying45 tS51 (by omega) (ixC hk)) ?_
                  refine g_u (zV rfl rfl fa51_1 rfl rfl) <| g_u (zT rfl rfl tA9 tS9 rfl rfl) <| g_u (xe rfl rfl Tryz.underlying9) <| g_u (s_sub rfl rfl rfl) <| g_u (zE rfl rfl) ?_
                  refine zI ⟨by kernel_rfl, ?_⟩
                  refine zA <| zD <| zB <| g_u (zE rfl rfl) <| zI <| zA <| zU ?_
                  refine zp (fun j : Nat × Int => [(2, .ptr 1002 0), (1002, .box 24 (.imm (yK b))), (1, .imm (iv j.2)), (5, .imm (iv (i : Int))), (6, .ptr 1006 0), (1006, .box 47 (.imm (nthR b i).av)), (7, .imm (iv (k : Int))), (8, .imm (iv (j.1 : Int)))]) (fun j => j.1 ≤ (nthC (nthR b i).scopes k).spans.length ∧ (-1000000000000 ≤ j.2 ∧ j.2 ≤ 1000000000) ∧ ((j.1 : Int) ≤ (m1 - 1 - (nthC (nthR b i).scopes k).name.size - (nthC (nthR b i).scopes k).version.size) - j.2) ∧ wQ (nthC (nthR b i).scopes k).spans (m1 - 1 - (nthC (nthR b i).scopes k).name.size - (nthC (nthR b i).scopes k).version.size) = wQ ((nthC (nthR b i).scopes k).spans.drop j.1) j.2) (fun j => (nthC (nthR b i).scopes k).spans.length - j.1) (⟨0, (m1 - 1 - (nthC (nthR b i).scopes k).name.size - (nthC (nthR b i).scopes k).version.size)⟩) ?_ ⟨rfl, rfl, zZ rfl (by (try dsimp only); rw [ze (n := m1 - 1) (by omega) (by omega), ze (n := m1 - 1 - (nthC (nthR b i).scopes k).name.size) (by omega) (by omega), ze (by omega) (by omega)]), rfl, rfl, rfl, rfl, rfl, trivial⟩ ?_
                  · exact ⟨Nat.zero_le _, ⟨by dsimp only; omega, by dsimp only; omega⟩, by simp, rfl⟩
                  · rintro ⟨q, m2⟩ ⟨f1, f2, f3, f4⟩; dsimp only at f1 f2 f3 f4
                    refine zD <| zD <| zB <| g_u (zC rfl rfl) <| g_u (zF rfl rfl wR rfl) <| g_u (zG rfl rfl rfl tA45 tS45 rfl rfl) <| g_u (zC rfl rfl) ?_
                    refine g_u (zJ rfl rfl rfl Tryz.underlying45 tS51 (by omega) (ixC hk)) ?_
                    refine g_u (zV rfl rfl wm rfl rfl) <| g_u (zT rfl rfl tA49 tS49 rfl rfl) <| g_u (zw rfl rfl Tryz.underlying49) <| g_u (yb rfl rfl rfl) <| g_u (zC rfl rfl) <| z0 (t := 88) rfl ?_
                    rintro (hb7 | hb7)
                    · rw [hb7]
                      have hq : q < (nthC (nthR b i).scopes k).spans.length := by have := of_decide_eq_true hb7; (try simp only [List.length_map] at this); omega
                      refine zN rfl rfl (zC rfl rfl) <| zN rfl rfl (s_geI rfl rfl rfl) <| g_u (zQ rfl rfl rfl) <| zI <| zA ?_
                      refine zW rfl (fun hb8 => ?_) (fun hb8 => ?_)
                      · have hs2 : m2 ≥ 0 := of_decide_eq_true hb8
                        refine zY <| zA <| zD <| zU <| zB <| g_u (zF rfl rfl wR rfl) <| g_u (zG rfl rfl rfl tA45 tS45 rfl rfl) <| g_u (zC rfl rfl) ?_
                        refine g_u (zJ rfl rfl rfl Tryz.underlying45 tS51 (by omega) (ixC hk)) ?_
                        refine g_u (zV rfl rfl wm rfl rfl) <| g_u (zT rfl rfl tA49 tS49 rfl rfl) <| g_u (zC rfl rfl) ?_
                        refine g_u (zJ rfl rfl rfl Tryz.underlying49 tS63 (by omega) (ixS hq)) ?_
                        refine g_u (zT rfl rfl tA63 tS63 rfl (by first | exact xP (GSpan.width _) rfl | rfl)) ?_
                        refine g_u (zC rfl rfl) ?_
                        refine g_u (zP (leftS_c _ _ ⟨by omega, by omega⟩) rfl rfl) ?_
                        refine g_u (zE rfl rfl) <| zI <| zX <| zA <| zB <| g_u (zC rfl rfl) <| g_u (yG rfl rfl rfl) <| g_u (zE rfl rfl) <| zI <| zA ?_
                        have bs := leftS_bd (nthS (nthC (nthR b i).scopes k).spans q) (n := m2) (by omega)
                        have ed := leftSp_drop hq (m := m2) (by omega)
                        refine ⟨⟨q + 1, leftS (nthS (nthC (nthR b i).scopes k).spans q) m2⟩, ⟨hq, by dsimp only; omega, by dsimp only; omega, by dsimp only; rw [f4, ed]⟩, ⟨rfl, rfl, rfl, rfl, rfl, rfl, rfl, zZ rfl (by rw [ze (by omega) (by omega)]; rfl), trivial⟩, by dsimp only; omega⟩
                      · have hs2 : ¬ m2 ≥ 0 := of_decide_eq_false hb8
                        have hfin2 : wQ (nthC (nthR b i).scopes k).spans (m1 - 1 - (nthC (nthR b i).scopes k).name.size - (nthC (nthR b i).scopes k).version.size) = m2 := by rw [f4]; exact leftSp_neg _ (by omega)
                        refine zu <| zR <| zR <| zn <| zX <| zA <| zB <| g_u (zC rfl rfl) <| g_u (yG rfl rfl rfl) <| g_u (zE rfl rfl) <| zI <| zA ?_
                        have bp := leftSp_bd (nthC (nthR b i).scopes k).spans (m1 - 1 - (nthC (nthR b i).scopes k).name.size - (nthC (nthR b i).scopes k).version.size)
                        have ed := leftC_drop hk (m := m1) (by omega) hA hB
                        refine ⟨⟨k + 1, m2⟩, ⟨hk, by dsimp only; omega, by dsimp only; omega, by dsimp only; rw [g4, ed, hfin2]⟩, ⟨rfl, rfl, rfl, rfl, rfl, rfl, zZ rfl (by rw [ze (by omega) (by omega)]; rfl), trivial⟩, by dsimp only; omega⟩
                    · rw [hb7]
                      have hqn : q = (nthC (nthR b i).scopes k).spans.length := by have := of_decide_eq_false hb7; (try simp only [List.length_map] at this); omega
                      have hfin2 : wQ (nthC (nthR b i).scopes k).spans (m1 - 1 - (nthC (nthR b i).scopes k).name.size - (nthC (nthR b i).scopes k).version.size) = m2 := by rw [f4, hqn, List.drop_length]; rfl
                      refine zH rfl rfl rfl <| zH rfl rfl rfl <| g_u (zh rfl rfl rfl) <| zI <| zA <| yF rfl <| zu <| zR <| zR <| zn <| zX <| zA <| zB <| g_u (zC rfl rfl) <| g_u (yG rfl rfl rfl) <| g_u (zE rfl rfl) <| zI <| zA ?_
                      have bp := leftSp_bd (nthC (nthR b i).scopes k).spans (m1 - 1 - (nthC (nthR b i).scopes k).name.size - (nthC (nthR b i).scopes k).version.size)
                      have ed := leftC_drop hk (m := m1) (by omega) hA hB
                      refine ⟨⟨k + 1, m2⟩, ⟨hk, by dsimp only; omega, by dsimp only; omega, by dsimp only; rw [g4, ed, hfin2]⟩, ⟨rfl, rfl, rfl, rfl, rfl, rfl, zZ rfl (by rw [ze (by omega) (by omega)]; rfl), trivial⟩, by dsimp only; omega⟩
            · have hs1 : ¬ m1 ≥ 0 := of_decide_eq_false hb4
              have hfin1 : leftC (nthR b i).scopes (yT (nthR b i).attrs (m - 1)) = m1 := by rw [g4]; exact leftC_neg _ (by omega)
              refine zu <| zR <| zR <| zn <| zX <| zA <| zB <| g_u (zC rfl rfl) <| g_u (yG rfl rfl rfl) <| g_u (zE rfl rfl) <| zI <| zA ?_
              have bc := leftC_bd (nthR b i).scopes (yT (nthR b i).attrs (m - 1))
              have ed := xr hi (m := m) (by omega)
              refine ⟨⟨i + 1, m1⟩, ⟨hi, by dsimp only; omega, by dsimp only; omega, by dsimp only; rw [h4, ed, hfin1]⟩, ⟨rfl, rfl, rfl, zZ rfl (by rw [ze (by omega) (by omega)]; rfl), trivial⟩, by dsimp only; omega⟩
          · rw [hb3]
            have hkn : k = (nthR b i).scopes.length := by have := of_decide_eq_false hb3; (try simp only [List.length_map] at this); omega
            have hfin1 : leftC (nthR b i).scopes (yT (nthR b i).attrs (m - 1)) = m1 := by rw [g4, hkn, List.drop_length]; rfl
            refine zH rfl rfl rfl <| zH rfl rfl rfl <| g_u (zh rfl rfl rfl) <| zI <| zA <| yF rfl <| zu <| zR <| zR <| zn <| zX <| zA <| zB <| g_u (zC rfl rfl) <| g_u (yG rfl rfl rfl) <| g_u (zE rfl rfl) <| zI <| zA ?_
            have bc := leftC_bd (nthR b i).scopes (yT (nthR b i).attrs (m - 1))
            have ed := xr hi (m := m) (by omega)
            refine ⟨⟨i + 1, m1⟩, ⟨hi, by dsimp only; omega, by dsimp only; omega, by dsimp only; rw [h4, ed, hfin1]⟩, ⟨rfl, rfl, rfl, zZ rfl (by rw [ze (by omega) (by omega)]; rfl), trivial⟩, by dsimp only; omega⟩
      · have hs : ¬ m ≥ 0 := of_decide_eq_false hb2
        have hfin : leftR (b.drop i) m = m := vG _ (by omega)
        refine zu <| zR <| zR <| zn <| zA <| zD <| zB <| g_u (zC rfl rfl) <| g_u (zE rfl rfl) <| zI <| zA <| zL ?_
        exact ⟨⟨(rfl : toAV (Al.look _ _) = some _).trans (congrArg some (by (exact congrArg iv (by first | (rw [h4, hfin]; done) | (rw [h4, xr hi (by omega), g4, leftC_out hk (by omega) (.inl hA), vG _ (by decide)]; done) | (rw [h4, xr hi (by omega), g4, leftC_out hk (by omega) (.inr hB), vG _ (by decide)]; done))))), rfl⟩, trivial⟩
    · rw [hb1]
      have hin : i = b.length := by have := of_decide_eq_false hb1; (try simp only [List.length_map] at this); omega
      have hfin : leftR (b.drop i) m = m := by rw [hin, List.drop_length]; rfl
      refine zH rfl rfl rfl <| zH rfl rfl rfl <| g_u (zh rfl rfl rfl) <| zI <| zA <| yF rfl <| zu <| zR <| zR <| zn <| zA <| zD <| zB <| g_u (zC rfl rfl) <| g_u (zE rfl rfl) <| zI <| zA <| zL ?_
      exact ⟨⟨(rfl : toAV (Al.look _ _) = some _).trans (congrArg some (by (exact congrArg iv (by first | (rw [h4, hfin]; done) | (rw [h4, xr hi (by omega), g4, leftC_out hk (by omega) (.inl hA), vG _ (by decide)]; done) | (rw [h4, xr hi (by omega), g4, leftC_out hk (by omega) (.inr hB), vG _ (by decide)]; done))))), rfl⟩, trivial⟩
end Go.Proofs
namespace Go.Proofs
open Go Go.Al
set_option maxRecDepth 10000
attribute [local irreducible] runeM rRuneM
attribute [local irreducible] checkM countM cutM rCheckM rCountM rCutM
attribute [local irreducible] bytesM bytesP
end Go.Proofs
namespace Go.Proofs
open Go Go.Al
end Go.Proofs
namespace Go.Al
open Go.RowKit
theorem aw_cut' {C : Cx} {x y : Code} {st : St} {Q : Exit → St → Prop} {ι : Type} (Inv : ι → St) (ok : ι → Prop)
    (h1 : AW C x st (thn (fun st' => ∃ j, ok j ∧ sub st' (Inv j)) Q)) (h2 : ∀ j, ok j → AW C y (Inv j) Q) : AW C x st (thn (fun st' => AW C y st' Q) Q) := by
  refine h1.mono ?_
  intro e st' q
  cases e <;> simp only [thn] at q ⊢ <;> first | exact q | (obtain ⟨j, a, b⟩ := q; exact aw_weak _ b (h2 j a))
theorem aw_pack {C : Cx} {c : Code} {st : St} {Q : Exit → St → Prop} (g : Nat) {T : TypeId} {X : SV} {y : AV} (hg : look st g = .box T X) (hy : toAV X = some y) (h : AW C c ((g, .box T (.imm y)) :: st) Q) : AW C c st Q := by
  intro a w ⟨G, S⟩
  refine h a w ⟨G, S.os, S.tape, S.output, S.size, S.block, S.sub, S.rel, S.glob, S.new, S.val, S.nts, S.dfs, fun j => ?_, fun j j' b hj h1 h2 => ?_⟩
  · have e := xW (look st) g (.box T (.imm y)) j
    rw [x_] at e
    rw [show ((g, SV.box T (.imm y)) :: st) = [(g, SV.box T (.imm y))] ++ st from rfl, e]
    split
    · rename_i hjk; subst hjk
      have := S.holds j
      rw [hg] at this
      simp only [Holds, BoxS] at this ⊢
      obtain ⟨h1, ⟨cs, fr, hb, hr, hu⟩, h2⟩ := this
      exact ⟨h1, ⟨cs, fr, hb, by simp only [RepS]; exact vA X y _ hy hr, hu⟩, h2⟩
    · exact S.holds j
  · have conv : ∀ j b, zm G j b (look ((g, SV.box T (.imm y)) :: st) j) → zm G j b (look st j) := by
      intro j b hb
      have e := xW (look st) g (.box T (.imm y)) j
      rw [x_] at e
      rw [show ((g, SV.box T (.imm y)) :: st) = [(g, SV.box T (.imm y))] ++ st from rfl, e] at hb
      split at hb
      · rename_i hjk; subst hjk; rw [hg]; simp only [zm] at hb ⊢; exact hb
      · exact hb
    exact S.apart j j' b hj (conv j b h1) (conv j' b h2)
end Go.Al
namespace Go.Proofs
open Go Go.Al
set_option maxRecDepth 10000
end Go.Proofs
namespace Go.Al
open Go.RowKit
section
variable {C : Cx} {A : Nat → SV} {d : Nat} {ty : TypeId} {pos : String} {af : Array Edge} {gd : Option (Nat × Bool)} {x y : Operand} {T T' : TypeId}
theorem s_ixOsl {g n len cap : Nat} {el : TypeId} {i : Nat} {z : Int} {k : IntKind} (hN : Nat.blt d C.N = true) (hx : opS A x = .osl g 0 len cap) (hy : opV A y = some (.v (.int k z))) (hT : C.P.underlying T = some (.slice el)) (hn : yP C.P el = some n)
    (hz : z = i) (h : i < len) : zr C ⟨some d, .indexAddr T x y, ty, pos, af, gd⟩ (opR x ++ opR y) [] A [(d, .ptr g (i * n))] := by
  refine zr.value rfl hN fun A' G a w hR S => ?_
  obtain ⟨c, hc1, hc2⟩ := S.opS ((ye (fun k hk => hR k (List.mem_append_left _ hk))).trans hx) rfl
  simp only [RepS] at hc1
  have hev : a.eval x = .slice (some ⟨G.blk g, 0, none⟩) len cap := by rw [hc2, hc1]; rfl
  rw [← yX (fun k hk => hR k (List.mem_append_right _ hk))] at hy
  have hi := yY (S.opV hy)
  subst hz
  refine ⟨.pointer (some ⟨G.blk g, i * n, none⟩), ?_, [.pointer (some ⟨G.blk g, i * n, none⟩)], by simp only [RepS], rfl⟩
  have hb : (0 : Int) ≤ (i : Int) ∧ (i : Int) < (len : Int) := by omega
  simp only [execOp, Instr.indexAt, hi, hev, asIntOf, Instr.sureAddr, Sem.run_bind, Sem.run_pure, Result.andThen_ok, zd hT, hb, and_self, if_true, yJ hn, xS, Int.toNat_natCast, Nat.zero_add]
theorem s_slOsl {g n len cap : Nat} {el : TypeId} {lo : Nat} {z : Int} {k : IntKind} (hN : Nat.blt d C.N = true) (hx : opS A x = .osl g 0 len cap) (hy : opV A y = some (.v (.int k z))) (hT : C.P.underlying T = some (.slice el)) (hn : yP C.P el = some n)
    (hz : z = lo) (h : lo ≤ len) : zr C ⟨some d, .slice T x (some y) none none, ty, pos, af, gd⟩ (opR x ++ opR y) [] A [(d, .osl g (if cap = lo then 0 else lo * n) (len - lo) (cap - lo))] := by
  refine zr.value rfl hN fun A' G a w hR S => ?_
  obtain ⟨c, hc1, hc2⟩ := S.opS ((ye (fun k hk => hR k (List.mem_append_left _ hk))).trans hx) rfl
  simp only [RepS] at hc1
  have hev : a.eval x = .slice (some ⟨G.blk g, 0, none⟩) len cap := by rw [hc2, hc1]; rfl
  rw [← yX (fun k hk => hR k (List.mem_append_right _ hk))] at hy
  have hi := yY (S.opV hy)
  refine ⟨.slice (some ⟨G.blk g, if cap = lo then 0 else lo * n, none⟩) (len - lo) (cap - lo), ?_, [.slice (some ⟨G.blk g, if cap = lo then 0 else lo * n, none⟩) (len - lo) (cap - lo)], by simp only [RepS], rfl⟩
  have e3 : (Instr.sliceBounds true len cap (some (a.eval y)) none none).run C.P w = .ok (lo, len, cap) w := by
    simp only [Instr.sliceBounds, Sem.run_bind, Sem.run_pure, Result.andThen_ok, Option.isSome_none, Bool.false_eq_true, if_false, if_true, hi, run_bound hz h]
  simp only [execOp, Option.map_none, Option.map_some, Sem.run_bind, hev, Instr.sliceAt, zd hT, Result.andThen_ok, Instr.slice, e3, yJ hn, Sem.run_pure]
  by_cases hc : cap = lo
  · rw [if_pos hc, if_pos hc]
  · rw [if_neg hc, if_neg hc]; first | rfl | rw [xS, Nat.zero_add]
theorem s_storeElt {g n i : Nat} {xs : List AV} {v : AV} {T0 : TypeId} (h : opS A x = .ptr g (i * n)) (hg : A g = .box T0 (.imm (.agg xs))) (hy : opV A y = some v) (hn : yP C.P T = some n)
    (hw : ∀ x ∈ xs, x.width = n) (hv : v.width = n) (hi : i < xs.length) :
    zr C ⟨none, .store T x y, ty, pos, af, gd⟩ (g :: (opR x ++ opR y)) [] A [(g, .box T0 (.imm (.agg (xs.take i ++ v :: xs.drop (i + 1)))))] := by
  intro A' a w hR hF ⟨G, S⟩
  have hgA : A' g = .box T0 (.imm (.agg xs)) := (hR g List.mem_cons_self).trans hg
  obtain ⟨c, hc1, hc2⟩ := S.opS ((ye (fun k hk => hR k (List.mem_cons_of_mem _ (List.mem_append_left _ hk)))).trans h) rfl
  simp only [RepS] at hc1
  have hev : a.eval x = .pointer (some ⟨G.blk g, i * n, none⟩) := by rw [hc2, hc1]; rfl
  rw [← yX (fun k hk => hR k (List.mem_cons_of_mem _ (List.mem_append_right _ hk)))] at hy
  have hyR := S.opV hy
  obtain ⟨vc, hv1, hv2⟩ := hyR
  have hvc : (a.eval y).cells.toList = vc := by rw [hv2]; exact mkV_cells hv1
  have hvl := hv1.len
  have hb := S.holds g
  rw [hgA] at hb
  simp only [Holds] at hb
  obtain ⟨_, ⟨cs, fr, hb2, hb3, hb4⟩, _⟩ := hb
  simp only [RepS, RepC] at hb3
  have hE := (repCs_E hw).1 hb3
  have hcl := hE.len
  simp only [Array.length_toList] at hcl
  have hfit : i * n + vc.length ≤ cs.size := by
    have := xn (n := n) (show i + 1 ≤ xs.length from hi)
    rw [Nat.add_mul] at this; omega
  have hst := wD (P := C.P) (b := G.blk g) (o := i * n) vc w cs hb2 hb4 hfit hv1.plain
  have hnew : RepS w G (.imm (.agg (xs.take i ++ v :: xs.drop (i + 1)))) (yv cs (i * n) vc).toList := by
    simp only [RepS, RepC]
    refine (repCs_E (n := n) ?_).2 ?_
    · intro z hz
      rcases List.mem_append.1 hz with hz | hz
      · exact hw z (List.mem_of_mem_take hz)
      · rcases List.mem_cons.1 hz with rfl | hz
        · exact hv
        · exact hw z (List.mem_of_mem_drop hz)
    · rw [xI _ _ _ hfit, List.append_assoc]
      refine (hE.split i (by omega)).1.append ?_
      have h2 := (hE.split (i + 1) (by omega)).2
      have ev : vc.length = n := by rw [hvl, hv]
      rw [Nat.add_mul, Nat.one_mul] at h2
      simp only [RepE]
      exact ⟨vc, _, rfl, ev, hv1, by rw [ev]; exact h2⟩
  unfold Oper.wp
  have hrun : (storeVar T ⟨G.blk g, i * n, none⟩ (a.eval y)).run C.P w = .ok () (yU w (G.blk g) (.cells (yv cs (i * n) vc) T0 fr)) := by
    simp only [storeVar, Sem.run_bind, yJ hn, Result.andThen_ok, hvc]
    have e : (a.eval y).cells.size = n := by rw [← Array.length_toList, hvc, hvl, hv]
    rw [if_neg (by omega)]
    exact hst
  simp only [execOp, Instr.storeAt, Instr.sureAddr, hev, Sem.run_bind, Sem.run_pure, Result.andThen_ok, hrun]
  rw [Oper.upon_skip]
  exact S.storeBox hgA hb2 (wF _ _ _) hnew
theorem s_copy_at {g off len cap n o : Nat} {xs m : List AV} {el : TypeId} {T0 : TypeId} (hd' : ∀ d', d = d' → True) (hgN : Nat.ble C.N g = true) (hx : opS A x = .osl g off len cap) (hg : A g = .box T0 (.imm (.agg xs))) (hy : opV A y = some (.sl n m)) (hT : C.P.underlying T = some (.slice el)) (hn : yP C.P el = some n)
    (hN : Nat.blt d C.N = true) (ho : off = o * n) (hw : ∀ x ∈ xs, x.width = n) (hlen : o + len ≤ xs.length) :
    zr C ⟨some d, .call { callee := .builtin .copy, args := #[x, y], argTypes := #[T, T'] }, ty, pos, af, gd⟩ (g :: (opR x ++ opR y)) [] A
      [(g, .box T0 (.imm (.agg (xs.take o ++ (m.take (min m.length len) ++ xs.drop (o + min m.length len)))))), (d, .imm (.v (.int .i64 (min m.length len : Nat))))] := by
  intro A' a w hR hF ⟨G, S⟩
  have hgA : A' g = .box T0 (.imm (.agg xs)) := (hR g List.mem_cons_self).trans hg
  have hN' : d < C.N := by simpa [Nat.blt_eq] using hN
  have hgd : g ≠ d := by have := Nat.le_of_ble_eq_true hgN; omega
  obtain ⟨c, hc1, hc2⟩ := S.opS ((ye (fun k hk => hR k (List.mem_cons_of_mem _ (List.mem_append_left _ hk)))).trans hx) rfl
  simp only [RepS] at hc1
  have hev : a.eval x = .slice (some ⟨G.blk g, off, none⟩) len cap := by rw [hc2, hc1]; rfl
  rw [← yX (fun k hk => hR k (List.mem_cons_of_mem _ (List.mem_append_right _ hk)))] at hy
  have hyR := S.opV hy
  have hb := S.holds g
  rw [hgA] at hb
  simp only [Holds] at hb
  obtain ⟨how, ⟨cs, fr, hb2, hb3, hb4⟩, hni⟩ := hb
  simp only [RepS, RepC] at hb3
  have hE := (repCs_E hw).1 hb3
  obtain ⟨k, hk⟩ : ∃ k, k = min m.length len := ⟨_, rfl⟩
  rw [← hk]
  have hkm : k ≤ m.length := by omega
  have hkx : o + k ≤ xs.length := by omega
  obtain ⟨es, e1, e2, e3⟩ : ∃ es, RepE w G.I n (m.take k) es ∧ (Builtin.lenOf (a.eval y)).run C.P w = .ok m.length w ∧ (Builtin.firstCells n k (a.eval y)).run C.P w = .ok es.toArray w := by
    rcases rep_sl hyR with ⟨p, cap', h1, rfl, _, _⟩ | ⟨b, o, cap', h1, h2, h3, h4⟩
    · have hk0 : k = 0 := by rw [hk]; simp
      refine ⟨[], ?_, by rw [h1]; rfl, by rw [h1, hk0]; cases p <;> first | rfl | (simp only [Builtin.firstCells, Nat.zero_mul, Nat.mul_zero, loadCells, loadCellsFrom]; rfl)⟩
      simp [RepE]
    · obtain ⟨ds, q1, q2⟩ := h4.cells
      obtain ⟨q3, _⟩ := q1.split k hkm
      refine ⟨ds.take (k * n), q3, by rw [h1]; rfl, ?_⟩
      rw [h1]
      simp only [Builtin.firstCells]
      have hdl := q1.len
      have : (ds.take (k * n)).length = k * n := by
        have := xn (n := n) hkm
        rw [List.length_take]; omega
      have hld := xh (P := C.P) (w := w) (b := b) (o := o) (ds.take (k * n)) (fun j hj => by
        rw [this] at hj
        have := (q2 j (by have := xn (n := n) hkm; omega)).1
        simp only [List.getElem_take]
        exact this)
      rw [this] at hld
      exact hld
  have hel := e1.len
  rw [List.length_take, Nat.min_eq_left hkm] at hel
  have hcl := hE.len
  simp only [Array.length_toList] at hcl
  have hfit : off + es.length ≤ cs.size := by rw [hel, hcl, ho, ← Nat.add_mul]; exact xn hkx
  have hst := wD (P := C.P) (b := G.blk g) (o := off) es w cs hb2 hb4 (by omega) e1.plain
  have q5 := (hE.split o (by omega)).1
  have q4 := (hE.split (o + k) hkx).2
  have hnew : RepS w G (.imm (.agg (xs.take o ++ (m.take k ++ xs.drop (o + k))))) (yv cs off es).toList := by
    simp only [RepS, RepC]
    refine (repCs_E (n := n) ?_).2 ?_
    · intro z hz
      rcases List.mem_append.1 hz with hz | hz
      · exact hw z (List.mem_of_mem_take hz)
      rcases List.mem_append.1 hz with hz | hz
      · have : ∀ (l : List AV) (c : List Value), RepE w G.I n l c → ∀ z ∈ l, z.width = n := by
          intro l
          induction l with
          | nil => intro c _ z hz; cases hz
          | cons p l ih =>
            intro c h z hz
            simp only [RepE] at h
            obtain ⟨c1, c2, _, h1, h2, h3⟩ := h
            rcases List.mem_cons.1 hz with rfl | hz
            · rw [← RepC.len _ _ h2]; exact h1
            · exact ih c2 h3 z hz
        exact this _ _ e1 z hz
      · exact hw z (List.mem_of_mem_drop hz)
    · rw [xI _ _ _ hfit, List.append_assoc, hel, ho, ← Nat.add_mul]
      exact q5.append (e1.append q4)
  have S1 := S.storeBox hgA hb2 (wF _ _ _) hnew
  obtain ⟨G1, S1⟩ := S1
  have S2 := S1.put hN' (x := .imm (.v (.int .i64 (k : Nat)))) (v := .int .i64 k) (yh.2 (xd _ _ rfl))
  have eu : upd (upd A' [(g, .box T0 (.imm (.agg (xs.take o ++ (m.take k ++ xs.drop (o + k))))))]) [(d, .imm (.v (.int .i64 (k : Nat))))] = upd A' [(g, .box T0 (.imm (.agg (xs.take o ++ (m.take k ++ xs.drop (o + k)))))), (d, .imm (.v (.int .i64 (k : Nat))))] := by
    funext j
    simp only [upd]
    by_cases hkd : d = j
    · subst hkd; rw [zO hgd]; simp
    · rw [zO hkd]; simp
  rw [eu] at S2
  unfold Oper.wp
  have hrun : (execOp a.eval ⟨some d, .call { callee := .builtin .copy, args := #[x, y], argTypes := #[T, T'] }, ty, pos, af, gd⟩).run C.P w = .ok (.value (.int .i64 k)) (yU w (G.blk g) (.cells (yv cs off es) T0 fr)) := by
    simp only [execOp, resolve, Sem.run_bind, Sem.run_pure, Result.andThen_ok, invoke, builtin]
    have e0 : (#[x, y].map a.eval) = #[a.eval x, a.eval y] := by simp
    have f1 : (#[T, T'] : Array TypeId)[0]? = some T := rfl
    have f3 : (#[a.eval x, a.eval y] : Array Value)[0]? = some (a.eval x) := rfl
    have f4 : (#[a.eval x, a.eval y] : Array Value)[1]? = some (a.eval y) := rfl
    rw [e0]
    simp only [Builtin.copy_, f1, f3, f4]
    simp only [hev, Sem.run_bind, zd hT, Result.andThen_ok, e2, yJ hn]
    have : Nat.min m.length len = k := hk.symm
    simp only [this, e3, Result.andThen_ok, hst, Sem.run_pure, goInt]
  rw [hrun, Oper.upon_value]
  exact ⟨G1, S2⟩
end
theorem look_bagg {st : St} {k : Nat} {T : TypeId} {l m : List AV} (h : look st k = .box T (.imm (.agg l))) (e : l = m) : look st k = .box T (.imm (.agg m)) := by rw [h, e]
theorem row1 {m : List AV} {z : AV} {p r N : Nat} (hm : m.length = p) (hN : N = p + 1 + r) : m.take (min m.length N) ++ (List.replicate N z).drop (min m.length N) = m ++ List.replicate (1 + r) z := by
  rw [Nat.min_eq_left (by omega), List.take_length, List.drop_replicate, show N - m.length = 1 + r by omega]
theorem row2 {m : List AV} {z e : AV} {p r : Nat} (hm : m.length = p) : (m ++ List.replicate (1 + r) z).take p ++ e :: (m ++ List.replicate (1 + r) z).drop (p + 1) = m ++ e :: List.replicate r z := by
  rw [List.take_append_of_le_length (by omega), List.take_of_length_le (by omega), List.drop_append, List.drop_of_length_le (by omega), List.nil_append, List.drop_replicate, show 1 + r - (p + 1 - m.length) = r by omega]
theorem row3 {m R : List AV} {z e : AV} {p r N : Nat} (hm : m.length = p) (hR : R.length = r) (hN : N = p + 1 + r) :
    (m ++ e :: List.replicate r z).take (if N = p + 1 then 0 else p + 1) ++ (R.take (min R.length (N - (p + 1))) ++ (m ++ e :: List.replicate r z).drop ((if N = p + 1 then 0 else p + 1) + min R.length (N - (p + 1)))) = m ++ e :: R := by
  by_cases h : N = p + 1
  · have hr : r = 0 := by omega
    subst hr
    obtain rfl := List.eq_nil_of_length_eq_zero hR
    rw [if_pos h]; simp
  · rw [if_neg h, show N - (p + 1) = r by omega, hR, Nat.min_self, ← hR, List.take_length]
    have e1 : (m ++ e :: List.replicate R.length z).take (p + 1) = m ++ [e] := by
      rw [List.take_append, List.take_of_length_le (by omega), show p + 1 - m.length = 1 by omega]; rfl
    have e2 : (m ++ e :: List.replicate R.length z).drop (p + 1 + R.length) = [] := List.drop_of_length_le (by simp; omega)
    rw [e1, e2, List.append_nil, List.append_assoc]; rfl
theorem widths_mem {n : Nat} {l : List AV} (h : ∀ x ∈ l, x.width = n) {z : AV} (hz : z.width = n) (r : Nat) : ∀ x ∈ l ++ List.replicate r z, x.width = n := fun x hx => (List.mem_append.1 hx).elim (h x) fun hx => by rw [List.eq_of_mem_replicate hx]; exact hz
end Go.Al
namespace Go.Proofs
open Go Go.Al
def firstI {α : Type} (p : α → Bool) : List α → Nat → Int
  | [], _ => -1
  | x :: xs, n => if p x then n else firstI p xs (n + 1)
theorem firstI_any {α : Type} (p : α → Bool) : ∀ (l : List α) (n : Nat), decide (firstI p l n ≥ 0) = l.any p
  | [], n => by simp [firstI]
  | x :: xs, n => by
    rw [firstI, List.any_cons]
    cases h : p x
    · rw [if_neg (by simp), firstI_any p xs (n + 1)]; rfl
    · simp
theorem firstI_drop {α : Type} {p : α → Bool} {l : List α} {i : Nat} {d : α} (h : i < l.length) : firstI p (l.drop i) i = if p (nth l i d) then (i : Int) else firstI p (l.drop (i + 1)) (i + 1) := by
  rw [drop_nth (d := d) h, firstI]
theorem any_drop {α : Type} {p : α → Bool} {l : List α} {i : Nat} {d : α} (h : i < l.length) : (l.drop i).any p = (p (nth l i d) || (l.drop (i + 1)).any p) := by
  rw [drop_nth (d := d) h, List.any_cons]
theorem str_nth {l : List ByteArray} {i : Nat} (h : i < l.length) : (l.map fun x => sv x)[((i : Nat) : Int).toNat]? = some (sv (nth l i ⟨#[]⟩)) := vD (d := ⟨#[]⟩) h
theorem u8_nth {l : List Int} {i : Nat} (h : i < l.length) : (l.map fun x => cv x)[((i : Nat) : Int).toNat]? = some (cv (nth l i 0)) := vD (d := 0) h
theorem dropA_snoc (keys : List ByteArray) : ∀ (l : List GA) (x : GA), xE keys (l ++ [x]) = xE keys l ++ (if keys.any (fun k => decide (k = x.key)) then [] else [x])
  | [], x => by simp only [List.nil_append, xE]
  | y :: l, x => by
    simp only [List.cons_append, xE, dropA_snoc keys l x]
    split <;> simp
theorem dropA_take {keys : List ByteArray} {l : List GA} {i : Nat} (h : i < l.length) : xE keys (l.take (i + 1)) = xE keys (l.take i) ++ (if keys.any (fun k => decide (k = (nthA l i).key)) then [] else [nthA l i]) := by
  rw [zx (yZ (d := a0) h), dropA_snoc]; rfl
theorem dropA_len (keys : List ByteArray) : ∀ l : List GA, (xE keys l).length ≤ l.length
  | [] => Nat.le_refl _
  | x :: l => by rw [xE]; have := dropA_len keys l; split <;> simp <;> omega
theorem plain_take {kinds : List Int} {l : List GA} {i : Nat} (h : i < l.length) : (l.take (i + 1)).map (yl kinds) = (l.take i).map (yl kinds) ++ [yl kinds (nthA l i)] := by
  rw [zx (yZ (d := a0) h), List.map_append]; rfl
theorem wK {a b : GV} (h : a ≠ b) : sameV a b = false := by cases hs : sameV a b; rfl; exact absurd ((wB _ _).1 hs) h
theorem sameAs_ne {a b : List GA} (h : a ≠ b) : vK a b = false := by cases hs : vK a b; rfl; exact absurd ((ya _ _).1 hs) h
theorem zv {α : Type} {l m : List α} (d : α) (hl : l.length = m.length) (h : ∀ i, i < l.length → nth l i d = nth m i d) : l = m := by
  refine List.ext_getElem hl fun i h1 h2 => ?_
  have := h i h1
  unfold nth at this
  rwa [List.getD_eq_getElem?_getD, List.getD_eq_getElem?_getD, List.getElem?_eq_getElem h1, List.getElem?_eq_getElem h2] at this
theorem GA.ext' {a b : GA} (h1 : a.key = b.key) (h2 : a.val = b.val) : a = b := by cases a; cases b; simp only [GA.key_mk, GA.val_mk] at h1 h2; rw [h1, h2]
theorem GV.ext' {a b : GV} (h1 : a.kind = b.kind) (h2 : a.text = b.text) (h3 : a.num = b.num) (h4 : a.bits = b.bits) (h5 : a.list = b.list) (h6 : a.map = b.map) : a = b := by
  cases a; cases b
  simp only [GV.kind_mk, GV.text_mk, GV.num_mk, GV.bits_mk, GV.list_mk, GV.map_mk] at h1 h2 h3 h4 h5 h6
  rw [h1, h2, h3, h4, h5, h6]
theorem xc {a b : GV} (h1 : a.kind = b.kind) (h2 : a.text = b.text) (h3 : a.num = b.num) (h4 : a.bits = b.bits) (h5 : a.list = b.list) : vK a.map b.map = sameV a b := by
  rw [Bool.eq_iff_iff, ya, wB]
  exact ⟨fun h => GV.ext' h1 h2 h3 h4 h5 h, fun h => by rw [h]⟩
def restA (l : List GA) (k : ByteArray) : List GA := if hasA l k then l.drop (posA l k + 1) else l.drop (posA l k)
theorem restA_yes {l : List GA} {k : ByteArray} (h : hasA l k = true) : restA l k = l.drop (posA l k + 1) := by unfold restA; rw [if_pos h]
theorem restA_no {l : List GA} {k : ByteArray} (h : hasA l k = false) : restA l k = l.drop (posA l k) := by unfold restA; rw [if_neg (by rw [h]; decide)]
theorem restA_len (l : List GA) (k : ByteArray) : (restA l k).length ≤ l.length := by unfold restA; split <;> simp
theorem into_row {l : List GA} (k : ByteArray) (v : GV) : (l.take (posA l k)).map avA ++ (GA.mk k v).av :: (restA l k).map avA = (wv l (.mk k v)).map avA := by
  rw [wx]
  simp only [List.map_append, List.map_cons, List.map_nil, xX, List.append_assoc, List.cons_append, List.nil_append]
  rfl
theorem avA_w (l : List GA) : ∀ x ∈ l.map avA, x.width = 7 := fun x hx => by
  obtain ⟨y, _, rfl⟩ := List.mem_map.1 hx
  rw [xX]; rfl
theorem rowW {z : AV} (hz : z.width = 7) (l : List GA) (e : GA) (r : Nat) : ∀ x ∈ l.map avA ++ e.av :: List.replicate r z, x.width = 7 := fun x hx => by
  rcases List.mem_append.1 hx with hx | hx
  · exact avA_w l x hx
  · rcases List.mem_cons.1 hx with rfl | hx
    · rfl
    · rw [List.eq_of_mem_replicate hx]; exact hz
theorem rowW2 (l : List GA) (e : GA) (R : List GA) : ∀ x ∈ l.map avA ++ e.av :: R.map avA, x.width = 7 := fun x hx => by
  rcases List.mem_append.1 hx with hx | hx
  · exact avA_w l x hx
  · rcases List.mem_cons.1 hx with rfl | hx
    · rfl
    · exact avA_w R x hx
end Go.Proofs
namespace Go.Al
open Go.RowKit
section
variable {C : Cx} {A : Nat → SV} {d : Nat} {ty : TypeId} {pos : String} {af : Array Edge} {gd : Option (Nat × Bool)} {x y : Operand} {T T' : TypeId}
theorem look_bimm {st : St} {k : Nat} {T : TypeId} {l m : AV} (h : look st k = .box T (.imm l)) (e : l = m) : look st k = .box T (.imm m) := by rw [h, e]
end
end Go.Al
namespace Go.Proofs
open Go Go.Al
set_option maxRecDepth 10000
theorem vplain_c (v : GV) (ho : v.ok) (hw : v.wt ≤ 10000000) : zo Tryz.prog Γ0 83 [v.av] [(plainV v).av] := by
  refine z_ Tryz.func83 rfl Tryz.ntmps83 (by kernel_rfl) rfl fun w0 I0 G0 => ?_
  refine zD <| zB <| g_uG (zi 1001 rfl rfl rfl rfl) rfl <| g_uG (zl 1002 rfl rfl rfl tZ70) rfl <| zI <| zA <| zD <| zB <| g_u (zG rfl rfl rfl tA70 tS70 rfl rfl) <| g_u (zP (text_c v ho hw) rfl rfl) <| g_u (y_ rfl tU70 us70 pl70 rfl rfl rfl rfl) <| g_u (zK rfl rfl rfl tS70 rfl rfl) <| zI <| zA <| zL ?_
  exact ⟨⟨_, _, _, _, _, _, _, rfl, rfl, tA70, tS70, rfl, rfl, (rfl : toAV _ = some _).trans (congrArg some (by rfl))⟩, trivial⟩
theorem indexS_c (ks : List ByteArray) (k : ByteArray) (hk : ks.length ≤ 1000000000) : zo Tryz.prog Γ0 118 [(.sl 1 (ks.map fun x => sv x)), sv k] [iv (firstI (fun x => decide (x = k)) ks 0)] := by
  refine z_ Tryz.func118 rfl Tryz.ntmps118 (by kernel_rfl) rfl fun w0 I0 G0 => ?_
  refine zD <| zB <| g_u (zE rfl rfl) <| zI <| zA <| zD <| zD <| zB <| g_u (zC rfl rfl) <| g_u (zw rfl rfl Tryz.underlying27) <| g_u (zC rfl rfl) <| zI <| zA <| zU ?_
  refine zp (fun i : Nat => [(0, .imm (.sl 1 (ks.map fun x => sv x))), (1, .imm (sv k)), (7, .imm (iv (ks.length : Int))), (8, .imm (iv (i : Int)))]) (fun i => i ≤ ks.length ∧ firstI (fun x => decide (x = k)) ks 0 = firstI (fun x => decide (x = k)) (ks.drop i) i) (fun i => ks.length - i) (0) ?_ ⟨rfl, rfl, zZ rfl (by rw [List.length_map]), rfl, trivial⟩ ?_
  · exact ⟨Nat.zero_le _, rfl⟩
  · rintro i ⟨h1, h2⟩; (try dsimp only at h1 h2)
    refine zD <| zB <| g_u (yb rfl rfl rfl) <| zI <| zA <| zD ?_
    refine zW rfl (fun hb1 => ?_) (fun hb1 => ?_)
    · have hi : i < ks.length := by have := of_decide_eq_true hb1; (try simp only [List.length_map] at this); omega
      refine zY <| zA <| zD <| zU <| zD <| zB <| g_u (zC rfl rfl) <| g_u (zE rfl rfl) <| zI <| zA <| zD <| zB <| g_u (zC rfl rfl) <| g_u (zC rfl rfl) <| g_u (zC rfl rfl) ?_
      refine g_u (zJ rfl rfl rfl Tryz.underlying27 tS9 (by omega) (str_nth hi)) ?_
      refine g_u (zT rfl rfl tA9 tS9 rfl rfl) <| g_u (s_eqS rfl rfl rfl) <| zI <| zA ?_
      refine zW rfl (fun hb2 => ?_) (fun hb2 => ?_)
      · have q : decide (nth ks i ⟨#[]⟩ = k) = true := by have e := hb2; rw [yN] at e; exact decide_eq_true (of_decide_eq_true e).symm
        refine zD <| zB <| g_u (zC rfl rfl) <| g_u (zE rfl rfl) <| zI <| zA <| zL <| zq <| zM <| zM <| zq <| zM ?_
        exact ⟨⟨(rfl : toAV (Al.look _ _) = some _).trans (congrArg some (by (exact congrArg iv (by first | (rw [h2, hin, List.drop_length]; rfl) | rw [h2, firstI_drop (d := ⟨#[]⟩) hi, if_pos q])))), rfl⟩, trivial⟩
      · have q : decide (nth ks i ⟨#[]⟩ = k) = false := by have e := hb2; rw [yN] at e; exact decide_eq_false fun h => of_decide_eq_false e h.symm
        refine zY <| zX <| zA <| zB <| g_u (yG rfl rfl rfl) <| g_u (zC rfl rfl) <| zI <| zA ?_
        refine ⟨i + 1, ⟨hi, by (try dsimp only); rw [h2, firstI_drop (d := ⟨#[]⟩) hi, if_neg (by rw [q]; decide)]⟩, ⟨rfl, rfl, rfl, zZ rfl (by rw [ze (by omega) (by omega)]; rfl), trivial⟩, by (try dsimp only); omega⟩
    · have hin : i = ks.length := by have := of_decide_eq_false hb1; (try simp only [List.length_map] at this); omega
      refine zu <| zR <| zR <| zn <| zA <| zD <| zB <| g_u (zE rfl rfl) <| zI <| zA <| zL ?_
      exact ⟨⟨(rfl : toAV (Al.look _ _) = some _).trans (congrArg some (by (exact congrArg iv (by first | (rw [h2, hin, List.drop_length]; rfl) | rw [h2, firstI_drop (d := ⟨#[]⟩) hi, if_pos q])))), rfl⟩, trivial⟩
theorem containsS_c (ks : List ByteArray) (k : ByteArray) (hk : ks.length ≤ 1000000000) : zo Tryz.prog Γ0 84 [(.sl 1 (ks.map fun x => sv x)), sv k] [bv (ks.any (fun x => decide (x = k)))] := by
  refine z_ Tryz.func84 rfl Tryz.ntmps84 (by kernel_rfl) rfl fun w0 I0 G0 => ?_
  refine zD <| zB <| g_u (zE rfl rfl) <| zI <| zA <| zD <| zB <| g_u (zC rfl rfl) <| g_u (zC rfl rfl) ?_
  refine g_u (zP (indexS_c _ _ (by omega)) rfl rfl) ?_
  refine g_u (s_geI rfl rfl rfl) <| g_u (zE rfl rfl) <| zI <| zA <| zL ?_
  exact ⟨⟨(rfl : toAV (Al.look _ _) = some _).trans (congrArg some (by (exact congrArg bv (firstI_any _ _ 0)))), rfl⟩, trivial⟩
theorem indexU_c (ks : List Int) (k : Int) (hk : ks.length ≤ 1000000000) : zo Tryz.prog Γ0 117 [(.sl 1 (ks.map fun x => cv x)), cv k] [iv (firstI (fun x => x == k) ks 0)] := by
  refine z_ Tryz.func117 rfl Tryz.ntmps117 (by kernel_rfl) rfl fun w0 I0 G0 => ?_
  refine zD <| zB <| g_u (zE rfl rfl) <| zI <| zA <| zD <| zD <| zB <| g_u (zC rfl rfl) <| g_u (zw rfl rfl Tryz.underlying42) <| g_u (zC rfl rfl) <| zI <| zA <| zU ?_
  refine zp (fun i : Nat => [(0, .imm (.sl 1 (ks.map fun x => cv x))), (1, .imm (cv k)), (7, .imm (iv (ks.length : Int))), (8, .imm (iv (i : Int)))]) (fun i => i ≤ ks.length ∧ firstI (fun x => x == k) ks 0 = firstI (fun x => x == k) (ks.drop i) i) (fun i => ks.length - i) (0) ?_ ⟨rfl, rfl, zZ rfl (by rw [List.length_map]), rfl, trivial⟩ ?_
  · exact ⟨Nat.zero_le _, rfl⟩
  · rintro i ⟨h1, h2⟩; (try dsimp only at h1 h2)
    refine zD <| zB <| g_u (yb rfl rfl rfl) <| zI <| zA <| zD ?_
    refine zW rfl (fun hb1 => ?_) (fun hb1 => ?_)
    · have hi : i < ks.length := by have := of_decide_eq_true hb1; (try simp only [List.length_map] at this); omega
      refine zY <| zA <| zD <| zU <| zD <| zB <| g_u (zC rfl rfl) <| g_u (zE rfl rfl) <| zI <| zA <| zD <| zB <| g_u (zC rfl rfl) <| g_u (zC rfl rfl) <| g_u (zC rfl rfl) ?_
      refine g_u (zJ rfl rfl rfl Tryz.underlying42 tS5 (by omega) (u8_nth hi)) ?_
      refine g_u (zT rfl rfl tA5 tS5 rfl rfl) <| g_u (y6 rfl rfl rfl) <| zI <| zA ?_
      refine zW rfl (fun hb2 => ?_) (fun hb2 => ?_)
      · have q : (nth ks i 0 == k) = true := beq_iff_eq.2 (beq_iff_eq.1 hb2).symm
        refine zD <| zB <| g_u (zC rfl rfl) <| g_u (zE rfl rfl) <| zI <| zA <| zL <| zq <| zM <| zM <| zq <| zM ?_
        exact ⟨⟨(rfl : toAV (Al.look _ _) = some _).trans (congrArg some (by (exact congrArg iv (by first | (rw [h2, hin, List.drop_length]; rfl) | rw [h2, firstI_drop (d := 0) hi, if_pos q])))), rfl⟩, trivial⟩
      · have q : (nth ks i 0 == k) = false := qe.2 (Ne.symm (qe.1 hb2))
        refine zY <| zX <| zA <| zB <| g_u (yG rfl rfl rfl) <| g_u (zC rfl rfl) <| zI <| zA ?_
        refine ⟨i + 1, ⟨hi, by (try dsimp only); rw [h2, firstI_drop (d := 0) hi, if_neg (by rw [q]; decide)]⟩, ⟨rfl, rfl, rfl, zZ rfl (by rw [ze (by omega) (by omega)]; rfl), trivial⟩, by (try dsimp only); omega⟩
    · have hin : i = ks.length := by have := of_decide_eq_false hb1; (try simp only [List.length_map] at this); omega
      refine zu <| zR <| zR <| zn <| zA <| zD <| zB <| g_u (zE rfl rfl) <| zI <| zA <| zL ?_
      exact ⟨⟨(rfl : toAV (Al.look _ _) = some _).trans (congrArg some (by (exact congrArg iv (by first | (rw [h2, hin, List.drop_length]; rfl) | rw [h2, firstI_drop (d := 0) hi, if_pos q])))), rfl⟩, trivial⟩
theorem containsU_c (ks : List Int) (k : Int) (hk : ks.length ≤ 1000000000) : zo Tryz.prog Γ0 82 [(.sl 1 (ks.map fun x => cv x)), cv k] [bv (ks.any (fun x => x == k))] := by
  refine z_ Tryz.func82 rfl Tryz.ntmps82 (by kernel_rfl) rfl fun w0 I0 G0 => ?_
  refine zD <| zB <| g_u (zE rfl rfl) <| zI <| zA <| zD <| zB <| g_u (zC rfl rfl) <| g_u (zC rfl rfl) ?_
  refine g_u (zP (indexU_c _ _ (by omega)) rfl rfl) ?_
  refine g_u (s_geI rfl rfl rfl) <| g_u (zE rfl rfl) <| zI <| zA <| zL ?_
  exact ⟨⟨(rfl : toAV (Al.look _ _) = some _).trans (congrArg some (by (exact congrArg bv (firstI_any _ _ 0)))), rfl⟩, trivial⟩
theorem in_c (k : ByteArray) (ks : List ByteArray) (hk : ks.length ≤ 1000000000) : zo Tryz.prog Γ0 124 [sv k, (.sl 1 (ks.map fun x => sv x))] [bv (ks.any (fun x => decide (x = k)))] := by
  refine z_ Tryz.func124 rfl Tryz.ntmps124 (by kernel_rfl) rfl fun w0 I0 G0 => ?_
  refine zD <| zB <| g_u (zE rfl rfl) <| zI <| zA <| zD <| zD <| zB <| g_u (zE rfl rfl) <| zI <| zA <| zU ?_
  refine zp (fun i : Nat => [(0, .imm (sv k)), (1, .imm (.sl 1 (ks.map fun x => sv x))), (5, .imm (iv (i : Int)))]) (fun i => i ≤ ks.length ∧ ks.any (fun x => decide (x = k)) = (ks.drop i).any (fun x => decide (x = k))) (fun i => ks.length - i) (0) ?_ ⟨rfl, rfl, rfl, trivial⟩ ?_
  · exact ⟨Nat.zero_le _, rfl⟩
  · rintro i ⟨h1, h2⟩; (try dsimp only at h1 h2)
    refine zD <| zD <| zB <| g_u (zC rfl rfl) <| g_u (zC rfl rfl) <| g_u (zw rfl rfl Tryz.underlying27) <| g_u (yb rfl rfl rfl) <| zI <| zA ?_
    refine zW rfl (fun hb1 => ?_) (fun hb1 => ?_)
    · have hi : i < ks.length := by have := of_decide_eq_true hb1; (try simp only [List.length_map] at this); omega
      refine zY <| zA <| zD <| zU <| zD <| zB <| g_u (zC rfl rfl) <| g_u (zC rfl rfl) ?_
      refine g_u (zJ rfl rfl rfl Tryz.underlying27 tS9 (by omega) (str_nth hi)) ?_
      refine g_u (zT rfl rfl tA9 tS9 rfl rfl) <| g_u (zC rfl rfl) <| g_u (s_eqS rfl rfl rfl) <| zI <| zA ?_
      refine zW rfl (fun hb2 => ?_) (fun hb2 => ?_)
      · have q : decide (nth ks i ⟨#[]⟩ = k) = true := by have e := hb2; rw [yN] at e; exact e
        refine zD <| zB <| g_u (zE rfl rfl) <| zI <| zA <| zL <| zq <| zM <| zM <| zq <| zM ?_
        exact ⟨⟨(rfl : toAV (Al.look _ _) = some _).trans (congrArg some (by (exact congrArg bv (by first | (rw [h2, hin, List.drop_length]; rfl) | (rw [h2, any_drop (d := ⟨#[]⟩) hi, q]; rfl))))), rfl⟩, trivial⟩
      · have q : decide (nth ks i ⟨#[]⟩ = k) = false := by have e := hb2; rw [yN] at e; exact e
        refine zY <| zX <| zA <| zB <| g_u (zC rfl rfl) <| g_u (yG rfl rfl rfl) <| g_u (zE rfl rfl) <| zI <| zA ?_
        refine ⟨i + 1, ⟨hi, by (try dsimp only); rw [h2, any_drop (d := ⟨#[]⟩) hi, q]; rfl⟩, ⟨rfl, rfl, zZ rfl (by rw [ze (by omega) (by omega)]; rfl), trivial⟩, by (try dsimp only); omega⟩
    · have hin : i = ks.length := by have := of_decide_eq_false hb1; (try simp only [List.length_map] at this); omega
      refine zu <| zR <| zR <| zn <| zA <| zD <| zB <| g_u (zE rfl rfl) <| zI <| zA <| zL ?_
      exact ⟨⟨(rfl : toAV (Al.look _ _) = some _).trans (congrArg some (by (exact congrArg bv (by first | (rw [h2, hin, List.drop_length]; rfl) | (rw [h2, any_drop (d := ⟨#[]⟩) hi, q]; rfl))))), rfl⟩, trivial⟩
theorem drop_c (l : List GA) (ks : List ByteArray) (hl : l.length ≤ 10000000) (hk : ks.length ≤ 1000000000) : zo Tryz.prog Γ0 52 [(.sl 7 (l.map avA)), (.sl 1 (ks.map fun x => sv x))] [.sl 7 ((xE ks l).map avA)] := by
  refine z_ Tryz.func52 rfl Tryz.ntmps52 (by kernel_rfl) rfl fun w0 I0 G0 => ?_
  refine zD <| zB <| g_u (zE rfl rfl) <| zI <| zA <| zD <| zB <| g_u (zE rfl rfl) <| zI <| zA <| zD <| zD <| xJ 3005 5 7 rfl rfl rfl rfl <| zB <| g_u (zC rfl rfl) <| g_u (zw rfl rfl Tryz.underlying44) <| g_u (zC rfl rfl) <| zI <| zA <| zU ?_
  refine zp (fun i : Nat => [(1, .imm (.sl 1 (ks.map fun x => sv x))), (8, .imm (.sl 7 (l.map avA))), (9, .imm (iv (l.length : Int))), (5, .slg 3005 7 ((xE ks (l.take i)).map avA)), (3005, .tok 7 ((xE ks (l.take i)).map avA)), (10, .imm (iv (i : Int)))]) (fun i => i ≤ l.length) (fun i => l.length - i) (0) ?_ ⟨rfl, rfl, zZ rfl (by rw [List.length_map]), rfl, rfl, rfl, trivial⟩ ?_
  · exact Nat.zero_le _
  · rintro i h1; have h1 : i ≤ l.length := h1
    refine zD <| zB <| g_u (yb rfl rfl rfl) <| zI <| zA <| zD ?_
    refine zW rfl (fun hb1 => ?_) (fun hb1 => ?_)
    · have hi : i < l.length := by have := of_decide_eq_true hb1; (try simp only [List.length_map] at this); omega
      refine zY <| zA <| zD <| zU <| zD <| zB ?_
      refine g_u (zJ rfl rfl rfl Tryz.underlying44 tS72 (by omega) (ixA hi)) ?_
      refine g_u (zT rfl rfl tA72 tS72 rfl rfl) <| g_uG (zl 1007 rfl rfl rfl tZ72) rfl <| g_u (zK rfl rfl rfl tS72 rfl rfl) <| zI <| zA <| zD <| zB <| g_u (zC rfl rfl) <| g_u (zF rfl rfl wh rfl) <| g_u (zG rfl rfl rfl tA9 tS9 rfl rfl) ?_
      refine g_u (zP (containsS_c _ _ (by omega)) rfl rfl) ?_
      refine g_u (wZ rfl rfl) <| zI <| zA ?_
      refine zW rfl (fun hb2 => ?_) (fun hb2 => ?_)
      · have et : (xE ks (l.take (i + 1))).map avA = (xE ks (l.take i)).map avA ++ [(nthA l i).av] := by rw [dropA_take hi, if_neg (by have e := hb2; simp only [Bool.not_eq_true'] at e; rw [e]; decide)]; simp [xX]
        refine zB <| g_u (zy rfl rfl) <| g_u (zk rfl rfl rfl tA72 tS72 rfl rfl) <| g_u (za (X0 := z72) rfl Tryz.underlying44 tS72 tZ72 rfl rfl rfl rfl rfl rfl rfl rfl) ?_
        refine g_u (yA rfl rfl rfl rfl rfl Tryz.underlying44 Tryz.underlying44 tS72 zv72 rfl (by decide) by72 (by (try dsimp only); have hdl := dropA_len ks (l.take i); simp only [List.length_append, List.length_cons, List.length_nil, List.length_map, List.length_take] at *; omega) (by (try dsimp only); have hdl := dropA_len ks (l.take i); simp only [List.length_append, List.length_cons, List.length_nil, List.length_map, List.length_take] at *; omega)) ?_
        refine g_u (yB rfl rfl) <| zI <| zX <| zA <| zB <| g_u (yG rfl rfl rfl) <| g_u (zC rfl rfl) <| zI <| zA ?_
        refine ⟨i + 1, hi, ⟨rfl, rfl, rfl, yV rfl et.symm, z8 rfl et.symm, zZ rfl (by rw [ze (by omega) (by omega)]; rfl), trivial⟩, by (try dsimp only); omega⟩
      · have et : (xE ks (l.take (i + 1))).map avA = (xE ks (l.take i)).map avA := by rw [dropA_take hi, if_pos (by have e := hb2; simp only [Bool.not_eq_false'] at e; exact e)]; simp [xX]
        refine zY <| zX <| zA <| zB <| g_u (yG rfl rfl rfl) <| g_u (zC rfl rfl) <| zI <| zA ?_
        refine ⟨i + 1, hi, ⟨rfl, rfl, rfl, yV rfl et.symm, z8 rfl et.symm, zZ rfl (by rw [ze (by omega) (by omega)]; rfl), trivial⟩, by (try dsimp only); omega⟩
    · have hin : i = l.length := by have := of_decide_eq_false hb1; (try simp only [List.length_map] at this); omega
      refine zu <| zR <| zR <| zn <| zA <| zD <| zB <| g_u (zy rfl rfl) <| g_u (yB rfl rfl) <| zI <| zA <| zL ?_
      exact ⟨⟨(rfl : toAV (Al.look _ _) = some _).trans (congrArg some (by (rw [hin, List.take_length]))), rfl⟩, trivial⟩
theorem rdrop_c (l : List GA) (ks : List ByteArray) (hl : l.length ≤ 10000000) (hk : ks.length ≤ 1000000000) : zo Tryz.prog Γ0 93 [(.sl 7 (l.map avA)), (.sl 1 (ks.map fun x => sv x))] [.sl 7 ((xE ks l).map avA)] := by
  refine z_ Tryz.func93 rfl Tryz.ntmps93 (by kernel_rfl) rfl fun w0 I0 G0 => ?_
  refine zD <| zB <| g_u (zE rfl rfl) <| zI <| zA <| zD <| zB <| g_u (zE rfl rfl) <| zI <| zA <| zD <| zD <| xJ 3005 5 7 rfl rfl rfl rfl <| zB <| g_u (zE rfl rfl) <| zI <| zA <| zU ?_
  refine zp (fun i : Nat => [(0, .imm (.sl 7 (l.map avA))), (1, .imm (.sl 1 (ks.map fun x => sv x))), (5, .slg 3005 7 ((xE ks (l.take i)).map avA)), (3005, .tok 7 ((xE ks (l.take i)).map avA)), (6, .imm (iv (i : Int)))]) (fun i => i ≤ l.length) (fun i => l.length - i) (0) ?_ ⟨rfl, rfl, rfl, rfl, rfl, trivial⟩ ?_
  · exact Nat.zero_le _
  · rintro i h1; have h1 : i ≤ l.length := h1
    refine zD <| zD <| zB <| g_u (zC rfl rfl) <| g_u (zC rfl rfl) <| g_u (zw rfl rfl Tryz.underlying44) <| g_u (yb rfl rfl rfl) <| zI <| zA ?_
    refine zW rfl (fun hb1 => ?_) (fun hb1 => ?_)
    · have hi : i < l.length := by have := of_decide_eq_true hb1; (try simp only [List.length_map] at this); omega
      refine zY <| zA <| zD <| zU <| zD <| zB <| g_u (zC rfl rfl) <| g_u (zC rfl rfl) ?_
      refine g_u (zJ rfl rfl rfl Tryz.underlying44 tS72 (by omega) (ixA hi)) ?_
      refine g_u (zV rfl rfl wh rfl rfl) <| g_u (zT rfl rfl tA9 tS9 rfl rfl) <| g_u (zC rfl rfl) ?_
      refine g_u (zP (in_c _ _ (by omega)) rfl rfl) ?_
      refine g_u (wZ rfl rfl) <| zI <| zA ?_
      refine zW rfl (fun hb2 => ?_) (fun hb2 => ?_)
      · have et : (xE ks (l.take (i + 1))).map avA = (xE ks (l.take i)).map avA ++ [(nthA l i).av] := by rw [dropA_take hi, if_neg (by have e := hb2; simp only [Bool.not_eq_true'] at e; rw [e]; decide)]; simp [xX]
        refine zB <| g_u (zy rfl rfl) <| g_u (zC rfl rfl) <| g_u (zC rfl rfl) ?_
        refine g_u (zJ rfl rfl rfl Tryz.underlying44 tS72 (by omega) (ixA hi)) ?_
        refine g_u (zT rfl rfl tA72 tS72 rfl rfl) <| g_u (za (X0 := z72) rfl Tryz.underlying44 tS72 tZ72 rfl rfl rfl rfl rfl rfl rfl rfl) ?_
        refine g_u (yA rfl rfl rfl rfl rfl Tryz.underlying44 Tryz.underlying44 tS72 zv72 rfl (by decide) by72 (by (try dsimp only); have hdl := dropA_len ks (l.take i); simp only [List.length_append, List.length_cons, List.length_nil, List.length_map, List.length_take] at *; omega) (by (try dsimp only); have hdl := dropA_len ks (l.take i); simp only [List.length_append, List.length_cons, List.length_nil, List.length_map, List.length_take] at *; omega)) ?_
        refine g_u (yB rfl rfl) <| zI <| zX <| zA <| zB <| g_u (zC rfl rfl) <| g_u (yG rfl rfl rfl) <| g_u (zE rfl rfl) <| zI <| zA ?_
        refine ⟨i + 1, hi, ⟨rfl, rfl, yV rfl et.symm, z8 rfl et.symm, zZ rfl (by rw [ze (by omega) (by omega)]; rfl), trivial⟩, by (try dsimp only); omega⟩
      · have et : (xE ks (l.take (i + 1))).map avA = (xE ks (l.take i)).map avA := by rw [dropA_take hi, if_pos (by have e := hb2; simp only [Bool.not_eq_false'] at e; exact e)]; simp [xX]
        refine zY <| zX <| zA <| zB <| g_u (zC rfl rfl) <| g_u (yG rfl rfl rfl) <| g_u (zE rfl rfl) <| zI <| zA ?_
        refine ⟨i + 1, hi, ⟨rfl, rfl, yV rfl et.symm, z8 rfl et.symm, zZ rfl (by rw [ze (by omega) (by omega)]; rfl), trivial⟩, by (try dsimp only); omega⟩
    · have hin : i = l.length := by have := of_decide_eq_false hb1; (try simp only [List.length_map] at this); omega
      refine zu <| zR <| zR <| zn <| zA <| zD <| zB <| g_u (zy rfl rfl) <| g_u (yB rfl rfl) <| zI <| zA <| zL ?_
      exact ⟨⟨(rfl : toAV (Al.look _ _) = some _).trans (congrArg some (by (rw [hin, List.take_length]))), rfl⟩, trivial⟩
theorem plainAs_c (l : List GA) (ks : List Int) (ho : ∀ a ∈ l, a.ok) (hw : wtAs l ≤ 10000000) (hk : ks.length ≤ 1000000000) : zo Tryz.prog Γ0 51 [(.sl 7 (l.map avA)), (.sl 1 (ks.map fun x => cv x))] [.sl 7 ((l.map (yl ks)).map avA)] := by
  have hl := yi l
  refine z_ Tryz.func51 rfl Tryz.ntmps51 (by kernel_rfl) rfl fun w0 I0 G0 => ?_
  refine zD <| zB <| g_u (zE rfl rfl) <| zI <| zA <| zD <| zB <| g_u (zE rfl rfl) <| zI <| zA <| zD <| zD <| xJ 3005 5 7 rfl rfl rfl rfl <| zB <| g_u (zC rfl rfl) <| g_u (zw rfl rfl Tryz.underlying44) <| g_u (zC rfl rfl) <| zI <| zA <| zU ?_
  refine zp (fun i : Nat => [(1, .imm (.sl 1 (ks.map fun x => cv x))), (8, .imm (.sl 7 (l.map avA))), (9, .imm (iv (l.length : Int))), (5, .slg 3005 7 (((l.take i).map (yl ks)).map avA)), (3005, .tok 7 (((l.take i).map (yl ks)).map avA)), (10, .imm (iv (i : Int)))]) (fun i => i ≤ l.length) (fun i => l.length - i) (0) ?_ ⟨rfl, rfl, zZ rfl (by rw [List.length_map]), rfl, rfl, rfl, trivial⟩ ?_
  · exact Nat.zero_le _
  · rintro i h1; have h1 : i ≤ l.length := h1
    refine zD <| zB <| g_u (yb rfl rfl rfl) <| zI <| zA <| zD ?_
    refine zW rfl (fun hb1 => ?_) (fun hb1 => ?_)
    · have hi : i < l.length := by have := of_decide_eq_true hb1; (try simp only [List.length_map] at this); omega
      have gov : (nthA l i).val.ok := ((GA.ok_iff _).1 (ho _ (wL hi))).2
      have gow : (nthA l i).val.wt ≤ 10000000 := by have h1 := xa (wL hi); have h2 := (nthA l i).wt_eq; omega
      refine zY <| zA <| zD <| zU <| zD <| zB ?_
      refine g_u (zJ rfl rfl rfl Tryz.underlying44 tS72 (by omega) (ixA hi)) ?_
      refine g_u (zT rfl rfl tA72 tS72 rfl rfl) <| g_uG (zl 1007 rfl rfl rfl tZ72) rfl <| g_u (zK rfl rfl rfl tS72 rfl rfl) <| zI <| zA <| zD <| zD <| zB <| g_u (zC rfl rfl) <| g_u (zF rfl rfl fa72_1 rfl) <| g_u (zF rfl rfl xf rfl) <| g_u (zG rfl rfl rfl tA5 tS5 rfl rfl) ?_
      refine g_u (zP (containsU_c _ _ (by omega)) rfl rfl) ?_
      refine zI <| zA ?_
      refine zW rfl (fun hb2 => ?_) (fun hb2 => ?_)
      · have et : ((l.take (i + 1)).map (yl ks)).map avA = ((l.take i).map (yl ks)).map avA ++ [.agg [sv (nthA l i).key, (plainV (nthA l i).val).av]] := by rw [plain_take hi, List.map_append]; simp only [List.map_cons, List.map_nil, xX]; unfold yl; rw [if_pos hb2]; rfl
        refine zB <| g_u (zF rfl rfl fa72_1 rfl) <| g_u (zG rfl rfl rfl tA70 tS70 rfl rfl) <| g_u (zP (vplain_c _ gov gow) rfl rfl) <| g_u (zF rfl rfl fa72_1 rfl) <| g_u (zK rfl rfl rfl tS70 rfl rfl) <| zI <| zA <| zB <| g_u (zy rfl rfl) <| g_u (zk rfl rfl rfl tA72 tS72 rfl rfl) <| g_u (za (X0 := z72) rfl Tryz.underlying44 tS72 tZ72 rfl rfl rfl rfl rfl rfl rfl rfl) ?_
        refine g_u (yA rfl rfl rfl rfl rfl Tryz.underlying44 Tryz.underlying44 tS72 zv72 rfl (by decide) by72 (by (try dsimp only); simp only [List.length_append, List.length_cons, List.length_nil, List.length_map, List.length_take, List.length_drop]; omega) (by (try dsimp only); simp only [List.length_append, List.length_cons, List.length_nil, List.length_map, List.length_take, List.length_drop]; omega)) ?_
        refine g_u (yB rfl rfl) <| zI <| zX <| zA <| zB <| g_u (yG rfl rfl rfl) <| g_u (zC rfl rfl) <| zI <| zA ?_
        refine ⟨i + 1, hi, ⟨rfl, rfl, rfl, yV rfl et.symm, z8 rfl et.symm, zZ rfl (by rw [ze (by omega) (by omega)]; rfl), trivial⟩, by (try dsimp only); omega⟩
      · have et : ((l.take (i + 1)).map (yl ks)).map avA = ((l.take i).map (yl ks)).map avA ++ [(nthA l i).av] := by rw [plain_take hi, List.map_append]; simp only [List.map_cons, List.map_nil, xX]; unfold yl; rw [if_neg (by rw [hb2]; decide)]
        refine zY <| zA <| zB <| g_u (zy rfl rfl) <| g_u (zk rfl rfl rfl tA72 tS72 rfl rfl) <| g_u (za (X0 := z72) rfl Tryz.underlying44 tS72 tZ72 rfl rfl rfl rfl rfl rfl rfl rfl) ?_
        refine g_u (yA rfl rfl rfl rfl rfl Tryz.underlying44 Tryz.underlying44 tS72 zv72 rfl (by decide) by72 (by (try dsimp only); simp only [List.length_append, List.length_cons, List.length_nil, List.length_map, List.length_take, List.length_drop]; omega) (by (try dsimp only); simp only [List.length_append, List.length_cons, List.length_nil, List.length_map, List.length_take, List.length_drop]; omega)) ?_
        refine g_u (yB rfl rfl) <| zI <| zX <| zA <| zB <| g_u (yG rfl rfl rfl) <| g_u (zC rfl rfl) <| zI <| zA ?_
        refine ⟨i + 1, hi, ⟨rfl, rfl, rfl, yV rfl et.symm, z8 rfl et.symm, zZ rfl (by rw [ze (by omega) (by omega)]; rfl), trivial⟩, by (try dsimp only); omega⟩
    · have hin : i = l.length := by have := of_decide_eq_false hb1; (try simp only [List.length_map] at this); omega
      refine zu <| zR <| zR <| zn <| zA <| zD <| zB <| g_u (zy rfl rfl) <| g_u (yB rfl rfl) <| zI <| zA <| zL ?_
      exact ⟨⟨(rfl : toAV (Al.look _ _) = some _).trans (congrArg some (by (rw [hin, List.take_length]))), rfl⟩, trivial⟩
theorem plainA_yes {ks : List Int} {a : GA} {k : Nat} (h : k < ks.length) (q : (nth ks k 0 == a.val.kind) = true) : (GA.av (yl (ks.take (k + 1)) a)) = .agg [sv (yl (ks.take k) a).key, (plainV a.val).av] := by
  have e : (ks.take (k + 1)).any (fun x => x == a.val.kind) = true := by rw [zx (yZ (d := 0) h), List.any_append]; simp [q]
  have hk : (yl (ks.take k) a).key = a.key := by unfold yl; split <;> rfl
  rw [hk]; unfold yl; rw [if_pos e]; rfl
theorem plainA_no {ks : List Int} {a : GA} {k : Nat} (h : k < ks.length) (q : (nth ks k 0 == a.val.kind) = false) : yl (ks.take (k + 1)) a = yl (ks.take k) a := by
  have e : (ks.take (k + 1)).any (fun x => x == a.val.kind) = (ks.take k).any (fun x => x == a.val.kind) := by rw [zx (yZ (d := 0) h), List.any_append]; simp [q]
  unfold yl; rw [e]
set_option maxHeartbeats 1000000 in
theorem rplainAs_c (l : List GA) (ks : List Int) (ho : ∀ a ∈ l, a.ok) (hw : wtAs l ≤ 10000000) (hk : ks.length ≤ 1000000000) : zo Tryz.prog Γ0 94 [(.sl 7 (l.map avA)), (.sl 1 (ks.map fun x => cv x))] [.sl 7 ((l.map (yl ks)).map avA)] := by
  have hl := yi l
  refine z_ Tryz.func94 rfl Tryz.ntmps94 (by kernel_rfl) rfl fun w0 I0 G0 => ?_
  refine zD <| zB <| g_u (zE rfl rfl) <| zI <| zA <| zD <| zB <| g_u (zE rfl rfl) <| zI <| zA <| zD <| zD <| xJ 3005 5 7 rfl rfl rfl rfl <| zB <| g_u (zE rfl rfl) <| zI <| zA <| zU ?_
  refine zp (fun i : Nat => [(0, .imm (.sl 7 (l.map avA))), (1, .imm (.sl 1 (ks.map fun x => cv x))), (5, .slg 3005 7 (((l.take i).map (yl ks)).map avA)), (3005, .tok 7 (((l.take i).map (yl ks)).map avA)), (6, .imm (iv (i : Int)))]) (fun i => i ≤ l.length) (fun i => l.length - i) (0) ?_ ⟨rfl, rfl, rfl, rfl, rfl, trivial⟩ ?_
  · exact Nat.zero_le _
  · rintro i h1; have h1 : i ≤ l.length := h1
    refine zD <| zD <| zB <| g_u (zC rfl rfl) <| g_u (zC rfl rfl) <| g_u (zw rfl rfl Tryz.underlying44) <| g_u (yb rfl rfl rfl) <| zI <| zA ?_
    refine zW rfl (fun hb1 => ?_) (fun hb1 => ?_)
    · have hi : i < l.length := by have := of_decide_eq_true hb1; (try simp only [List.length_map] at this); omega
      have gov : (nthA l i).val.ok := ((GA.ok_iff _).1 (ho _ (wL hi))).2
      have gow : (nthA l i).val.wt ≤ 10000000 := by have h1 := xa (wL hi); have h2 := (nthA l i).wt_eq; omega
      refine zY <| zA <| zD <| zU <| zD <| zB <| g_u (zC rfl rfl) <| g_u (zC rfl rfl) ?_
      refine g_u (zJ rfl rfl rfl Tryz.underlying44 tS72 (by omega) (ixA hi)) ?_
      refine g_u (zT rfl rfl tA72 tS72 rfl rfl) <| g_uG (zl 1007 rfl rfl rfl tZ72) rfl <| g_u (zK rfl rfl rfl tS72 rfl rfl) <| zI <| zA <| zD <| zD <| zB <| g_u (zE rfl rfl) <| zI <| zA <| zU ?_
      refine zp (fun k : Nat => [(0, .imm (.sl 7 (l.map avA))), (1, .imm (.sl 1 (ks.map fun x => cv x))), (5, .slg 3005 7 (((l.take i).map (yl ks)).map avA)), (3005, .tok 7 (((l.take i).map (yl ks)).map avA)), (6, .imm (iv (i : Int))), (7, .ptr 1007 0), (1007, .box 72 (.imm (GA.av (yl (ks.take k) (nthA l i))))), (8, .imm (iv (k : Int)))]) (fun k => k ≤ ks.length) (fun k => ks.length - k) (0) ?_ ⟨rfl, rfl, rfl, rfl, rfl, rfl, rfl, rfl, trivial⟩ ?_
      · exact Nat.zero_le _
      · rintro k g1; have g1 : k ≤ ks.length := g1
        refine zD <| zD <| zB <| g_u (zC rfl rfl) <| g_u (zC rfl rfl) <| g_u (zw rfl rfl Tryz.underlying42) <| g_u (yb rfl rfl rfl) <| zI <| zA ?_
        refine zW rfl (fun hb2 => ?_) (fun hb2 => ?_)
        · have hk2 : k < ks.length := by have := of_decide_eq_true hb2; (try simp only [List.length_map] at this); omega
          refine zY <| zA <| zD <| zU <| zD <| yE yt <| g_u (zC rfl rfl) <| g_u (zC rfl rfl) ?_
          refine g_u (zJ rfl rfl rfl Tryz.underlying42 tS5 (by omega) (u8_nth hk2)) ?_
          refine g_u (zT rfl rfl tA5 tS5 rfl rfl) <| g_u (zC rfl rfl) <| g_u (zC rfl rfl) ?_
          refine g_u (zJ rfl rfl rfl Tryz.underlying44 tS72 (by omega) (ixA hi)) ?_
          refine g_u (zV rfl rfl fa72_1 rfl rfl) <| g_u (zV rfl rfl xf rfl rfl) <| g_u (zT rfl rfl tA5 tS5 rfl rfl) <| g_u (y6 rfl rfl rfl) ?_
          refine zI ⟨by kernel_rfl, ?_⟩
          refine zA ?_
          refine zW rfl (fun hb3 => ?_) (fun hb3 => ?_)
          · have ea := (plainA_yes hk2 hb3).symm
            refine zB <| g_u (zC rfl rfl) <| g_u (zC rfl rfl) ?_
            refine g_u (zJ rfl rfl rfl Tryz.underlying44 tS72 (by omega) (ixA hi)) ?_
            refine g_u (zV rfl rfl fa72_1 rfl rfl) <| g_u (zT rfl rfl tA70 tS70 rfl rfl) <| g_u (zP (rplain_c _ gov gow) rfl rfl) <| g_u (zF rfl rfl fa72_1 rfl) <| g_u (zK rfl rfl rfl tS70 rfl rfl) <| zI <| zX <| zA <| aw_pack 1007 rfl rfl <| zB <| g_u (zC rfl rfl) <| g_u (yG rfl rfl rfl) <| g_u (zE rfl rfl) <| zI <| zA ?_
            refine ⟨k + 1, hk2, ⟨rfl, rfl, rfl, rfl, rfl, rfl, look_bimm rfl ea, zZ rfl (by rw [ze (by omega) (by omega)]; rfl), trivial⟩, by (try dsimp only); omega⟩
          · have ea := congrArg GA.av (plainA_no hk2 hb3).symm
            refine zY <| zX <| zA <| zB <| g_u (zC rfl rfl) <| g_u (yG rfl rfl rfl) <| g_u (zE rfl rfl) <| zI <| zA ?_
            refine ⟨k + 1, hk2, ⟨rfl, rfl, rfl, rfl, rfl, rfl, look_bimm rfl ea, zZ rfl (by rw [ze (by omega) (by omega)]; rfl), trivial⟩, by (try dsimp only); omega⟩
        · have hkn : k = ks.length := by have := of_decide_eq_false hb2; (try simp only [List.length_map] at this); omega
          have et : ((l.take (i + 1)).map (yl ks)).map avA = ((l.take i).map (yl ks)).map avA ++ [GA.av (yl (ks.take k) (nthA l i))] := by rw [plain_take hi, List.map_append]; simp only [List.map_cons, List.map_nil, xX]; rw [hkn, List.take_length]
          refine zu <| zR <| zR <| zn <| zA <| zB <| g_u (zy rfl rfl) <| g_u (zG rfl rfl rfl tA72 tS72 rfl rfl) <| g_u (za (X0 := z72) rfl Tryz.underlying44 tS72 tZ72 rfl rfl rfl rfl rfl rfl rfl rfl) ?_
          refine g_u (yA rfl rfl rfl rfl rfl Tryz.underlying44 Tryz.underlying44 tS72 zv72 rfl (by decide) by72 (by (try dsimp only); simp only [List.length_append, List.length_cons, List.length_nil, List.length_map, List.length_take, List.length_drop]; omega) (by (try dsimp only); simp only [List.length_append, List.length_cons, List.length_nil, List.length_map, List.length_take, List.length_drop]; omega)) ?_
          refine g_u (yB rfl rfl) <| zI <| zX <| zA <| zB <| g_u (zC rfl rfl) <| g_u (yG rfl rfl rfl) <| g_u (zE rfl rfl) <| zI <| zA ?_
          refine ⟨i + 1, hi, ⟨rfl, rfl, yV rfl et.symm, z8 rfl et.symm, zZ rfl (by rw [ze (by omega) (by omega)]; rfl), trivial⟩, by (try dsimp only); omega⟩
    · have hin : i = l.length := by have := of_decide_eq_false hb1; (try simp only [List.length_map] at this); omega
      refine zu <| zR <| zR <| zn <| zA <| zD <| zB <| g_u (zy rfl rfl) <| g_u (yB rfl rfl) <| zI <| zA <| zL ?_
      exact ⟨⟨(rfl : toAV (Al.look _ _) = some _).trans (congrArg some (by (rw [hin, List.take_length]))), rfl⟩, trivial⟩
end Go.Proofs
namespace Go.Proofs
open Go Go.Al
set_option maxRecDepth 10000
set_option maxHeartbeats 1000000 in
theorem rsameAs_st (a b : List GA) (hl : a.length ≤ 1000000000) (ih : ∀ x ∈ a, ∀ y : GV, zo Tryz.prog Γ0 68 [x.val.av, y.av] [bv (sameV x.val y)]) : zo Tryz.prog Γ0 39 [.sl 7 (a.map avA), .sl 7 (b.map avA)] [bv (vK a b)] := by
  refine z_ Tryz.func39 rfl Tryz.ntmps39 (by kernel_rfl) rfl fun w0 I0 G0 => ?_
  refine zD <| zB <| g_u (zE rfl rfl) <| zI <| zA <| zD <| zD <| zB <| g_u (zC rfl rfl) <| g_u (zw rfl rfl Tryz.underlying44) <| g_u (zC rfl rfl) <| g_u (zw rfl rfl Tryz.underlying44) <| g_u (wM rfl rfl rfl) <| zI <| zA ?_
  refine zW rfl (fun hb1 => ?_) (fun hb1 => ?_)
  · have q : ¬ a.length = b.length := by have e := bne_iff_ne.1 hb1; simp only [List.length_map] at e; omega
    refine zD <| zB <| g_u (zE rfl rfl) <| zI <| zA <| zL <| zM ?_
    exact ⟨⟨(rfl : toAV (Al.look _ _) = some _).trans (congrArg some (by (exact congrArg bv (by first | exact (sameAs_ne (fun e => q (by rw [e]))).symm | exact ((ya _ _).2 (zv a0 el (fun j hj => h2 j (by omega)))).symm)))), rfl⟩, trivial⟩
  · have el : a.length = b.length := by have e := qd.1 hb1; simp only [List.length_map] at e; omega
    refine zY <| zA <| zD <| zD <| zB <| g_u (zE rfl rfl) <| zI <| zA <| zU ?_
    refine zp (fun i : Nat => [(0, .imm (.sl 7 (a.map avA))), (1, .imm (.sl 7 (b.map avA))), (5, .imm (iv (i : Int)))]) (fun i => i ≤ a.length ∧ ∀ j, j < i → nth a j a0 = nth b j a0) (fun i => a.length - i) (0) ?_ ⟨rfl, rfl, rfl, trivial⟩ ?_
    · exact ⟨Nat.zero_le _, fun j h => absurd h (Nat.not_lt_zero _)⟩
    · rintro i ⟨h1, h2⟩; (try dsimp only at h1 h2)
      refine zD <| zD <| zB <| g_u (zC rfl rfl) <| g_u (zC rfl rfl) <| g_u (zw rfl rfl Tryz.underlying44) <| g_u (yb rfl rfl rfl) <| zI <| zA ?_
      refine zW rfl (fun hb2 => ?_) (fun hb2 => ?_)
      · have hi : i < a.length := by have := of_decide_eq_true hb2; (try simp only [List.length_map] at this); omega
        have hib : i < b.length := by omega
        refine zY <| zA <| zD <| zU <| zD <| yE yt <| g_u (zC rfl rfl) <| g_u (zC rfl rfl) ?_
        refine g_u (zJ rfl rfl rfl Tryz.underlying44 tS72 (by omega) (ixA hi)) ?_
        refine g_u (zV rfl rfl wh rfl rfl) <| g_u (zT rfl rfl tA9 tS9 rfl rfl) <| g_u (zC rfl rfl) <| g_u (zC rfl rfl) ?_
        refine g_u (zJ rfl rfl rfl Tryz.underlying44 tS72 (by omega) (ixA hib)) ?_
        refine g_u (zV rfl rfl wh rfl rfl) <| g_u (zT rfl rfl tA9 tS9 rfl rfl) <| g_u (s_neS rfl rfl rfl) <| g_u (zC rfl rfl) <| z0 (t := 28) rfl ?_
        rintro (hb3 | hb3)
        · rw [hb3]
          have q : ¬ (nthA a i).key = (nthA b i).key := by have e := hb3; rw [yN] at e; simpa using e
          refine zH rfl rfl rfl <| zH rfl rfl rfl <| zH rfl rfl rfl <| zH rfl rfl rfl <| zH rfl rfl rfl <| zH rfl rfl rfl <| zH rfl rfl rfl <| zH rfl rfl rfl <| zH rfl rfl rfl <| zH rfl rfl rfl <| zH rfl rfl rfl <| zH rfl rfl rfl <| g_u (zQ rfl rfl rfl) ?_
          refine zI ⟨by kernel_rfl, ?_⟩
          refine zA <| zg rfl <| zD <| zB <| g_u (zE rfl rfl) <| zI <| zA <| zL <| zq <| zM <| zM <| zq <| zM ?_
          exact ⟨⟨(rfl : toAV (Al.look _ _) = some _).trans (congrArg some (by (exact congrArg bv (by first | exact (sameAs_ne (fun e => q (by rw [e]))).symm | exact ((ya _ _).2 (zv a0 el (fun j hj => h2 j (by omega)))).symm)))), rfl⟩, trivial⟩
        · rw [hb3]
          have ek : (nthA a i).key = (nthA b i).key := by have e := hb3; rw [yN] at e; simpa using e
          refine zN rfl rfl (zC rfl rfl) <| zN rfl rfl (zC rfl rfl) ?_
          refine zN rfl rfl (zJ rfl rfl rfl Tryz.underlying44 tS72 (by omega) (ixA hi)) ?_
          refine zN rfl rfl (zV rfl rfl fa72_1 rfl rfl) <| zN rfl rfl (zT rfl rfl tA70 tS70 rfl rfl) <| zN rfl rfl (zC rfl rfl) <| zN rfl rfl (zC rfl rfl) ?_
          refine zN rfl rfl (zJ rfl rfl rfl Tryz.underlying44 tS72 (by omega) (ixA hib)) ?_
          refine zN rfl rfl (zV rfl rfl fa72_1 rfl rfl) <| zN rfl rfl (zT rfl rfl tA70 tS70 rfl rfl) <| zN rfl rfl (zP (ih _ (wL hi) _) rfl rfl) <| zN rfl rfl (wZ rfl rfl) <| g_u (zh rfl rfl rfl) ?_
          refine zI ⟨by kernel_rfl, ?_⟩
          refine zA ?_
          refine zW rfl (fun hb4 => ?_) (fun hb4 => ?_)
          · have q : ¬ (nthA a i).val = (nthA b i).val := fun h => by have e := hb4; rw [h, sameV_refl] at e; cases e
            refine zD <| zB <| g_u (zE rfl rfl) <| zI <| zA <| zL <| zq <| zM <| zM <| zq <| zM ?_
            exact ⟨⟨(rfl : toAV (Al.look _ _) = some _).trans (congrArg some (by (exact congrArg bv (by first | exact (sameAs_ne (fun e => q (by rw [e]))).symm | exact ((ya _ _).2 (zv a0 el (fun j hj => h2 j (by omega)))).symm)))), rfl⟩, trivial⟩
          · have ev : (nthA a i).val = (nthA b i).val := (wB _ _).1 (by have e := hb4; simpa using e)
            refine zY <| zX <| zA <| zB <| g_u (zC rfl rfl) <| g_u (yG rfl rfl rfl) <| g_u (zE rfl rfl) <| zI <| zA ?_
            refine ⟨i + 1, ⟨hi, fun j hj => by rcases Nat.lt_or_ge j i with h | h; exact h2 j h; rw [show j = i by omega]; exact GA.ext' ek ev⟩, ⟨rfl, rfl, zZ rfl (by rw [ze (by omega) (by omega)]; rfl), trivial⟩, by (try dsimp only); omega⟩
      · have hin : i = a.length := by have := of_decide_eq_false hb2; (try simp only [List.length_map] at this); omega
        refine zu <| zR <| zR <| zn <| zA <| zD <| zB <| g_u (zE rfl rfl) <| zI <| zA <| zL ?_
        exact ⟨⟨(rfl : toAV (Al.look _ _) = some _).trans (congrArg some (by (exact congrArg bv (by first | exact (sameAs_ne (fun e => q (by rw [e]))).symm | exact ((ya _ _).2 (zv a0 el (fun j hj => h2 j (by omega)))).symm)))), rfl⟩, trivial⟩
set_option maxHeartbeats 2000000 in
theorem rsameV_st (a b : GV) (hl : a.list.length ≤ 1000000000) (ih : ∀ x ∈ a.list, ∀ y : GV, zo Tryz.prog Γ0 68 [x.av, y.av] [bv (sameV x y)]) (ihm : zo Tryz.prog Γ0 39 [.sl 7 (a.map.map avA), .sl 7 (b.map.map avA)] [bv (vK a.map b.map)]) : zo Tryz.prog Γ0 68 [a.av, b.av] [bv (sameV a b)] := by
  refine z_ Tryz.func68 rfl Tryz.ntmps68 (by kernel_rfl) rfl fun w0 I0 G0 => ?_
  refine zD <| zB <| g_uG (zi 1002 rfl rfl rfl rfl) rfl <| g_uG (zi 1003 rfl rfl rfl rfl) rfl <| g_u (zE rfl rfl) <| zI <| zA <| zD <| zD <| zB <| g_u (zF rfl rfl xf rfl) <| g_u (zG rfl rfl rfl tA5 tS5 rfl rfl) <| g_u (zF rfl rfl xf rfl) <| g_u (zG rfl rfl rfl tA5 tS5 rfl rfl) <| g_u (wM rfl rfl rfl) <| g_u (zC rfl rfl) <| z0 (t := 11) rfl ?_
  rintro (hb1 | hb1)
  · rw [hb1]
    have q : ¬ a.kind = b.kind := bne_iff_ne.1 hb1
    refine zH rfl rfl rfl <| zH rfl rfl rfl <| zH rfl rfl rfl <| zH rfl rfl rfl <| zH rfl rfl rfl <| g_u (zQ rfl rfl rfl) <| g_u (zC rfl rfl) <| zH rfl rfl rfl <| zH rfl rfl rfl <| zH rfl rfl rfl <| zH rfl rfl rfl <| zH rfl rfl rfl <| g_u (zQ rfl rfl rfl) <| g_u (zC rfl rfl) <| zH rfl rfl rfl <| zH rfl rfl rfl <| zH rfl rfl rfl <| zH rfl rfl rfl <| zH rfl rfl rfl <| g_u (zQ rfl rfl rfl) <| g_u (zC rfl rfl) <| zH rfl rfl rfl <| zH rfl rfl rfl <| zH rfl rfl rfl <| zH rfl rfl rfl <| zH rfl rfl rfl <| zH rfl rfl rfl <| zH rfl rfl rfl <| g_u (zQ rfl rfl rfl) <| zI <| zA <| zg rfl <| zD <| zB <| g_u (zE rfl rfl) <| zI <| zA <| zL <| zM ?_
    exact ⟨⟨(rfl : toAV (Al.look _ _) = some _).trans (congrArg some (by (exact congrArg bv (by first | exact (wK (fun e => q (by rw [e]))).symm | exact xc e1 e2 e3 e4 (zv v0 e5 (fun j hj => h2 j (by omega))))))), rfl⟩, trivial⟩
  · rw [hb1]
    have e1 : a.kind = b.kind := qd.1 hb1
    refine zN rfl rfl (zF rfl rfl fa70_1 rfl) <| zN rfl rfl (zG rfl rfl rfl tA9 tS9 rfl rfl) <| zN rfl rfl (zF rfl rfl fa70_1 rfl) <| zN rfl rfl (zG rfl rfl rfl tA9 tS9 rfl rfl) <| zN rfl rfl (s_neS rfl rfl rfl) <| g_u (zh rfl rfl rfl) <| g_u (zC rfl rfl) <| z0 (t := 18) rfl ?_
    rintro (hb2 | hb2)
    · rw [hb2]
      have q : ¬ a.text = b.text := by have e := hb2; rw [yN] at e; simpa using e
      refine zH rfl rfl rfl <| zH rfl rfl rfl <| zH rfl rfl rfl <| zH rfl rfl rfl <| zH rfl rfl rfl <| g_u (zQ rfl rfl rfl) <| g_u (zC rfl rfl) <| zH rfl rfl rfl <| zH rfl rfl rfl <| zH rfl rfl rfl <| zH rfl rfl rfl <| zH rfl rfl rfl <| g_u (zQ rfl rfl rfl) <| g_u (zC rfl rfl) <| zH rfl rfl rfl <| zH rfl rfl rfl <| zH rfl rfl rfl <| zH rfl rfl rfl <| zH rfl rfl rfl <| zH rfl rfl rfl <| zH rfl rfl rfl <| g_u (zQ rfl rfl rfl) <| zI <| zA <| zg rfl <| zD <| zB <| g_u (zE rfl rfl) <| zI <| zA <| zL <| zM ?_
      exact ⟨⟨(rfl : toAV (Al.look _ _) = some _).trans (congrArg some (by (exact congrArg bv (by first | exact (wK (fun e => q (by rw [e]))).symm | exact xc e1 e2 e3 e4 (zv v0 e5 (fun j hj => h2 j (by omega))))))), rfl⟩, trivial⟩
    · rw [hb2]
      have e2 : a.text = b.text := by have e := hb2; rw [yN] at e; simpa using e
      refine zN rfl rfl (zF rfl rfl fa70_2 rfl) <| zN rfl rfl (zG rfl rfl rfl tA3 tS3 rfl rfl) <| zN rfl rfl (zF rfl rfl fa70_2 rfl) <| zN rfl rfl (zG rfl rfl rfl tA3 tS3 rfl rfl) <| zN rfl rfl (wM rfl rfl rfl) <| g_u (zh rfl rfl rfl) <| g_u (zC rfl rfl) <| z0 (t := 25) rfl ?_
      rintro (hb3 | hb3)
      · rw [hb3]
        have q : ¬ a.num = b.num := bne_iff_ne.1 hb3
        refine zH rfl rfl rfl <| zH rfl rfl rfl <| zH rfl rfl rfl <| zH rfl rfl rfl <| zH rfl rfl rfl <| g_u (zQ rfl rfl rfl) <| g_u (zC rfl rfl) <| zH rfl rfl rfl <| zH rfl rfl rfl <| zH rfl rfl rfl <| zH rfl rfl rfl <| zH rfl rfl rfl <| zH rfl rfl rfl <| zH rfl rfl rfl <| g_u (zQ rfl rfl rfl) <| zI <| zA <| zg rfl <| zD <| zB <| g_u (zE rfl rfl) <| zI <| zA <| zL <| zM ?_
        exact ⟨⟨(rfl : toAV (Al.look _ _) = some _).trans (congrArg some (by (exact congrArg bv (by first | exact (wK (fun e => q (by rw [e]))).symm | exact xc e1 e2 e3 e4 (zv v0 e5 (fun j hj => h2 j (by omega))))))), rfl⟩, trivial⟩
      · rw [hb3]
        have e3 : a.num = b.num := qd.1 hb3
        refine zN rfl rfl (zF rfl rfl fa70_3 rfl) <| zN rfl rfl (zG rfl rfl rfl tA57 tS57 rfl rfl) <| zN rfl rfl (zF rfl rfl fa70_3 rfl) <| zN rfl rfl (zG rfl rfl rfl tA57 tS57 rfl rfl) <| zN rfl rfl (wM rfl rfl rfl) <| g_u (zh rfl rfl rfl) <| g_u (zC rfl rfl) <| z0 (t := 32) rfl ?_
        rintro (hb4 | hb4)
        · rw [hb4]
          have q : ¬ a.bits = b.bits := bne_iff_ne.1 hb4
          refine zH rfl rfl rfl <| zH rfl rfl rfl <| zH rfl rfl rfl <| zH rfl rfl rfl <| zH rfl rfl rfl <| zH rfl rfl rfl <| zH rfl rfl rfl <| g_u (zQ rfl rfl rfl) <| zI <| zA <| zg rfl <| zD <| zB <| g_u (zE rfl rfl) <| zI <| zA <| zL <| zM ?_
          exact ⟨⟨(rfl : toAV (Al.look _ _) = some _).trans (congrArg some (by (exact congrArg bv (by first | exact (wK (fun e => q (by rw [e]))).symm | exact xc e1 e2 e3 e4 (zv v0 e5 (fun j hj => h2 j (by omega))))))), rfl⟩, trivial⟩
        · rw [hb4]
          have e4 : a.bits = b.bits := qd.1 hb4
          refine zN rfl rfl (zF rfl rfl fa70_4 rfl) <| zN rfl rfl (zG rfl rfl rfl tA68 tS68 rfl rfl) <| zN rfl rfl (zw rfl rfl Tryz.underlying68) <| zN rfl rfl (zF rfl rfl fa70_4 rfl) <| zN rfl rfl (zG rfl rfl rfl tA68 tS68 rfl rfl) <| zN rfl rfl (zw rfl rfl Tryz.underlying68) <| zN rfl rfl (wM rfl rfl rfl) <| g_u (zh rfl rfl rfl) <| zI <| zA ?_
          refine zW rfl (fun hb5 => ?_) (fun hb5 => ?_)
          · have q : ¬ a.list.length = b.list.length := by have e := bne_iff_ne.1 hb5; simp only [List.length_map] at e; omega
            refine zD <| zB <| g_u (zE rfl rfl) <| zI <| zA <| zL <| zM ?_
            exact ⟨⟨(rfl : toAV (Al.look _ _) = some _).trans (congrArg some (by (exact congrArg bv (by first | exact (wK (fun e => q (by rw [e]))).symm | exact xc e1 e2 e3 e4 (zv v0 e5 (fun j hj => h2 j (by omega))))))), rfl⟩, trivial⟩
          · have e5 : a.list.length = b.list.length := by have e := qd.1 hb5; simp only [List.length_map] at e; omega
            refine zY <| zA <| zD <| zD <| zB <| g_u (zE rfl rfl) <| zI <| zA <| zU ?_
            refine zp (fun i : Nat => [(2, .ptr 1002 0), (1002, .box 70 (.imm a.av)), (3, .ptr 1003 0), (1003, .box 70 (.imm b.av)), (5, .imm (iv (i : Int)))]) (fun i => i ≤ a.list.length ∧ ∀ j, j < i → nth a.list j v0 = nth b.list j v0) (fun i => a.list.length - i) (0) ?_ ⟨rfl, rfl, rfl, rfl, rfl, trivial⟩ ?_
            · exact ⟨Nat.zero_le _, fun j h => absurd h (Nat.not_lt_zero _)⟩
            · rintro i ⟨h1, h2⟩; (try dsimp only at h1 h2)
              refine zD <| zD <| zB <| g_u (zC rfl rfl) <| g_u (zF rfl rfl fa70_4 rfl) <| g_u (zG rfl rfl rfl tA68 tS68 rfl rfl) <| g_u (zw rfl rfl Tryz.underlying68) <| g_u (yb rfl rfl rfl) <| zI <| zA ?_
              refine zW rfl (fun hb6 => ?_) (fun hb6 => ?_)
              · have hi : i < a.list.length := by have := of_decide_eq_true hb6; (try simp only [List.length_map] at this); omega
                have hib : i < b.list.length := by omega
                refine zY <| zA <| zD <| zU <| zD <| yE yt <| g_u (zF rfl rfl fa70_4 rfl) <| g_u (zG rfl rfl rfl tA68 tS68 rfl rfl) <| g_u (zC rfl rfl) ?_
                refine g_u (zJ rfl rfl rfl Tryz.underlying68 tS70 (by omega) (ixV hi)) ?_
                refine g_u (zT rfl rfl tA70 tS70 rfl rfl) <| g_u (zF rfl rfl fa70_4 rfl) <| g_u (zG rfl rfl rfl tA68 tS68 rfl rfl) <| g_u (zC rfl rfl) ?_
                refine g_u (zJ rfl rfl rfl Tryz.underlying68 tS70 (by omega) (ixV hib)) ?_
                refine g_u (zT rfl rfl tA70 tS70 rfl rfl) <| g_u (zP (ih _ (nthV_mem hi) _) rfl rfl) <| g_u (wZ rfl rfl) ?_
                refine zI ⟨by kernel_rfl, ?_⟩
                refine zA ?_
                refine zW rfl (fun hb7 => ?_) (fun hb7 => ?_)
                · have q : ¬ nthV a.list i = nthV b.list i := fun h => by have e := hb7; rw [h, sameV_refl] at e; cases e
                  refine zD <| zB <| g_u (zE rfl rfl) <| zI <| zA <| zL <| zq <| zM <| zM <| zq <| zM ?_
                  exact ⟨⟨(rfl : toAV (Al.look _ _) = some _).trans (congrArg some (by (exact congrArg bv (by first | exact (wK (fun e => q (by rw [e]))).symm | exact xc e1 e2 e3 e4 (zv v0 e5 (fun j hj => h2 j (by omega))))))), rfl⟩, trivial⟩
                · have ev : nthV a.list i = nthV b.list i := (wB _ _).1 (by have e := hb7; simpa using e)
                  refine zY <| zX <| zA <| zB <| g_u (zC rfl rfl) <| g_u (yG rfl rfl rfl) <| g_u (zE rfl rfl) <| zI <| zA ?_
                  refine ⟨i + 1, ⟨hi, fun j hj => by rcases Nat.lt_or_ge j i with h | h; exact h2 j h; rw [show j = i by omega]; exact ev⟩, ⟨rfl, rfl, rfl, rfl, zZ rfl (by rw [ze (by omega) (by omega)]; rfl), trivial⟩, by (try dsimp only); omega⟩
              · have hin : i = a.list.length := by have := of_decide_eq_false hb6; (try simp only [List.length_map] at this); omega
                refine zu <| zR <| zR <| zn <| zA <| zD <| zB <| g_u (zF rfl rfl fa70_5 rfl) <| g_u (zG rfl rfl rfl tA44 tS44 rfl rfl) <| g_u (zF rfl rfl fa70_5 rfl) <| g_u (zG rfl rfl rfl tA44 tS44 rfl rfl) <| g_u (zP (ihm) rfl rfl) <| g_u (zE rfl rfl) <| zI <| zA <| zL ?_
                exact ⟨⟨(rfl : toAV (Al.look _ _) = some _).trans (congrArg some (by (exact congrArg bv (by first | exact (wK (fun e => q (by rw [e]))).symm | exact xc e1 e2 e3 e4 (zv v0 e5 (fun j hj => h2 j (by omega))))))), rfl⟩, trivial⟩
theorem rsameV_c (a : GV) : a.wt ≤ 1000000000 → ∀ b : GV, zo Tryz.prog Γ0 68 [a.av, b.av] [bv (sameV a b)] := by
  refine GV.ind (P := fun a => a.wt ≤ 1000000000 → ∀ b : GV, zo Tryz.prog Γ0 68 [a.av, b.av] [bv (sameV a b)]) ?_ a
  intro a h1 h2 hw b
  have ek := a.wt_eq
  have la := yi a.map
  have lv := xR a.list
  exact rsameV_st a b (by omega) (fun x hx => h1 x hx (by have := wtVs_mem hx; omega)) (rsameAs_st a.map b.map (by omega) fun x hx => h2 x hx (by have := xa hx; have := x.wt_eq; omega))
theorem rsameAs_c (a b : List GA) (hw : wtAs a ≤ 1000000000) : zo Tryz.prog Γ0 39 [.sl 7 (a.map avA), .sl 7 (b.map avA)] [bv (vK a b)] := by
  have la := yi a
  exact rsameAs_st a b (by omega) fun x hx => rsameV_c x.val (by have := xa hx; have := x.wt_eq; omega)
set_option maxHeartbeats 2000000 in
theorem putA_c (l : List GA) (k : ByteArray) (v : GV) (hr : risA none l) (hl : l.length ≤ 10000000) : zo Tryz.prog Γ0 113 [(.sl 7 (l.map avA)), sv k, v.av] [.sl 7 ((wv l (.mk k v)).map avA)] := by
  have hp := posA_le l k
  have hML : ((l.take (posA l k)).map avA).length = posA l k := by rw [List.length_map, List.length_take]; omega
  have hRL := restA_len l k
  refine z_ Tryz.func113 rfl Tryz.ntmps113 (by kernel_rfl) rfl fun w0 I0 G0 => ?_
  refine zD <| zB <| g_uG (zi 1005 rfl rfl rfl rfl) rfl <| g_u (zE rfl rfl) <| zI <| zA <| zD <| zB <| g_u (zC rfl rfl) <| g_u (zC rfl rfl) ?_
  refine g_u (xu (find_c l k hr (by omega)) rfl rfl) ?_
  refine g_u (y8 rfl rfl) <| g_u (zj rfl rfl rfl rfl) <| g_u (zj rfl rfl rfl rfl) <| g_u (zE rfl rfl) <| g_u (zE rfl rfl) <| zI <| zA <| zD <| zB <| g_u (zC rfl rfl) <| g_u (zC rfl rfl) ?_
  refine g_u (s_slL_l (posA l k) rfl rfl rfl Tryz.underlying44 tS72 rfl (by rw [List.length_map]; omega)) ?_
  refine g_u (zE rfl rfl) <| zI <| zA <| zD <| zD <| zB <| g_u (zC rfl rfl) <| zI <| zA ?_
  refine aw_cut' (fun _ : Unit => [(0, .imm (.sl 7 (l.map avA))), (1, .imm (sv k)), (5, .ptr 1005 0), (1005, .box 70 (.imm v.av)), (7, .imm (iv (posA l k : Nat))), (9, .imm (.sl 7 ((restA l k).map avA)))]) (fun _ => True) ?_ ?_
  · refine zW rfl (fun hb1 => ?_) (fun hb1 => ?_)
    · have hh : hasA l k = true := hb1
      have hpl : posA l k < l.length := by unfold hasA at hh; simp at hh; exact hh.1
      refine zB <| g_u (zC rfl rfl) <| g_u (zC rfl rfl) <| g_u (yG rfl rfl rfl) ?_
      refine g_u (s_slL_l (posA l k + 1) rfl rfl rfl Tryz.underlying44 tS72 (by rw [ze (by omega) (by omega)]; omega) (by rw [List.length_map]; omega)) ?_
      refine g_u (zE rfl rfl) <| zI <| zA ?_
      exact ⟨(), trivial, ⟨rfl, rfl, rfl, rfl, rfl, look_imm rfl (by first | (rw [restA_yes hh]; simp only [List.take_length, List.map_drop]; done) | (rw [restA_no hh]; simp only [List.take_length, List.map_drop]; done)), trivial⟩⟩
    · have hh : hasA l k = false := hb1
      refine zY <| zA ?_
      exact ⟨(), trivial, ⟨rfl, rfl, rfl, rfl, rfl, look_imm rfl (by first | (rw [restA_yes hh]; simp only [List.take_length, List.map_drop]; done) | (rw [restA_no hh]; simp only [List.take_length, List.map_drop]; done)), trivial⟩⟩
  · rintro _ hc
    refine zD <| zB <| g_u (zC rfl rfl) <| g_u (yG rfl rfl rfl) <| g_u (zC rfl rfl) <| g_u (zw rfl rfl Tryz.underlying44) <| g_u (yG rfl rfl rfl) ?_
    refine g_uG (s_makeSlice 1030 (X0 := z72) (len := (posA l k + 1 + (restA l k).length)) (cap := (posA l k + 1 + (restA l k).length)) rfl rfl rfl rfl rfl (by rw [List.length_map, ze (n := (posA l k : Int) + 1) (by omega) (by omega), ze (by omega) (by omega)]; omega) (by rw [List.length_map, ze (n := (posA l k : Int) + 1) (by omega) (by omega), ze (by omega) (by omega)]; omega) Tryz.underlying44 tS72 tZ72 rfl rfl by72 (Nat.le_refl _) (by omega) (by omega)) rfl ?_
    refine g_u (s_as_osl rfl rfl) <| zI <| zA <| zD ?_
    refine aw_cut' (fun _ : Unit => [(0, .imm (.sl 7 (l.map avA))), (1, .imm (sv k)), (5, .ptr 1005 0), (1005, .box 70 (.imm v.av)), (7, .imm (iv (posA l k : Nat))), (9, .imm (.sl 7 ((restA l k).map avA))), (10, .osl 1030 0 (posA l k + 1 + (restA l k).length) (posA l k + 1 + (restA l k).length)), (1030, .box 72 (.imm (.agg (((l.take (posA l k)).map avA) ++ (List.replicate (1 + (restA l k).length) z72)))))]) (fun _ => True) ?_ ?_
    · refine zB ?_
      refine g_u (s_mv_osl rfl rfl) <| g_u (zC rfl rfl) <| g_u (zC rfl rfl) ?_
      refine g_u (s_slL_h (posA l k) rfl rfl rfl Tryz.underlying44 tS72 rfl (by rw [List.length_map]; omega)) ?_
      refine g_u (s_copy_in (el := 72) (el' := 0) (T1 := 0) rfl rfl rfl rfl rfl Tryz.underlying44 tS72 (by intro x hx; rw [List.eq_of_mem_replicate hx]; rfl) (by rw [List.length_replicate]; omega)) ?_
      refine zI <| zA ?_
      exact ⟨(), trivial, ⟨rfl, rfl, rfl, rfl, rfl, rfl, rfl, look_bagg rfl ((row1 (p := posA l k) (r := (restA l k).length) (by simp only [List.length_drop, List.length_take, List.length_map]; omega) rfl).trans (by rw [List.drop_zero, ← List.map_take])), trivial⟩⟩
    · rintro _ hc
      refine zD ?_
      refine aw_cut' (fun _ : Unit => [(0, .imm (.sl 7 (l.map avA))), (1, .imm (sv k)), (5, .ptr 1005 0), (1005, .box 70 (.imm v.av)), (7, .imm (iv (posA l k : Nat))), (9, .imm (.sl 7 ((restA l k).map avA))), (10, .osl 1030 0 (posA l k + 1 + (restA l k).length) (posA l k + 1 + (restA l k).length)), (1030, .box 72 (.imm (.agg (((l.take (posA l k)).map avA) ++ (GA.mk k v).av :: (List.replicate (restA l k).length z72)))))]) (fun _ => True) ?_ ?_
      · refine zB ?_
        refine g_u (s_mv_osl rfl rfl) <| g_u (zC rfl rfl) <| g_u (zC rfl rfl) <| g_u (zG rfl rfl rfl tA70 tS70 rfl rfl) <| g_u (y_ rfl tU72 us72 pl72 rfl rfl rfl rfl) ?_
        refine g_u (s_ixOsl (i := (posA l k)) rfl rfl rfl Tryz.underlying44 tS72 rfl (by omega)) ?_
        refine g_u (s_storeElt rfl rfl rfl tS72 (widths_mem (avA_w _) rfl _) rfl (by simp only [List.length_append, List.length_replicate, hML]; omega)) ?_
        refine zI <| zA ?_
        exact ⟨(), trivial, ⟨rfl, rfl, rfl, rfl, rfl, rfl, rfl, look_bagg rfl (row2 hML), trivial⟩⟩
      · rintro _ hc
        refine zD <| zB <| g_u (s_mv_osl rfl rfl) <| g_u (zC rfl rfl) <| g_u (yG rfl rfl rfl) ?_
        refine g_u (s_slOsl (lo := (posA l k + 1)) rfl rfl rfl Tryz.underlying44 tS72 (by rw [ze (by omega) (by omega)]; omega) (by omega)) ?_
        refine g_u (zC rfl rfl) ?_
        refine g_u (s_copy_at (el := 72) (o := (if (posA l k + 1 + (restA l k).length) = posA l k + 1 then 0 else posA l k + 1)) (fun _ _ => trivial) rfl rfl rfl rfl Tryz.underlying44 tS72 rfl (by split <;> simp) (rowW rfl _ _ _) (by simp only [List.length_append, List.length_cons, List.length_replicate, hML]; split <;> omega)) ?_
        refine zI <| zA ?_
        refine aw_freezeW 1030 3030 7 (((l.take (posA l k)).map avA) ++ (GA.mk k v).av :: (restA l k).map avA) [(10, .slg 3030 7 (((l.take (posA l k)).map avA) ++ (GA.mk k v).av :: (restA l k).map avA))] rfl rfl rfl rfl rfl rfl rfl ⟨.inr (.inl ⟨rfl, rfl⟩), trivial⟩ ?_ ?_ (Nat.le_refl _) (by unfold maxLen; omega) ?_ ?_
        · rw [row3 hML (List.length_map _) rfl]; exact rowW2 _ _ _
        · rw [row3 hML (List.length_map _) rfl]; simp only [List.length_append, List.length_cons, hML, List.length_map]; omega
        · rw [row3 hML (List.length_map _) rfl]; exact List.take_of_length_le (by simp only [List.length_append, List.length_cons, hML, List.length_map]; omega)
        refine zD <| zB <| g_u (zy rfl rfl) <| g_u (yB rfl rfl) <| zI <| zA <| zL ?_
        exact ⟨⟨(rfl : toAV (Al.look _ _) = some _).trans (congrArg some (by (exact congrArg (AV.sl 7) (into_row k v)))), rfl⟩, trivial⟩
end Go.Proofs
namespace Go.Proofs
open Go Go.Al
set_option maxRecDepth 10000
theorem dropA_wt (ks : List ByteArray) : ∀ l : List GA, wtAs (xE ks l) ≤ wtAs l
  | [] => Nat.le_refl _
  | x :: l => by rw [xE]; have := dropA_wt ks l; split <;> simp only [wtAs] <;> omega
theorem plainA_ok {ks : List Int} {a : GA} (ho : a.ok) (hw : a.wt ≤ 1000000) : (yl ks a).ok := by
  unfold yl
  have ha := (GA.ok_iff a).1 ho
  have := a.wt_eq
  split
  · exact (GA.ok_iff _).2 ⟨ha.1, plainV_ok ha.2 (by omega)⟩
  · exact ho
end Go.Proofs
namespace Go.Proofs
open Go Go.Al
structure Rg where
  lo : Int
  hi : Int
def Rg.av (r : Rg) : AV := .agg [.v (.int .u64 r.lo), .v (.int .u64 r.hi)]
def rgCheckM (r : Rg) : Int := if r.hi > 9223372036854775807 ∨ r.lo > r.hi then 11 else 0
def begunM (r : Rg) : Int := IntKind.u64.wrap (r.lo.tdiv 1000)
def lastsM (r : Rg) : Int := IntKind.u64.wrap ((IntKind.u64.wrap (r.hi - r.lo)).tdiv 1000)
def microsM (m : Int) (r : Rg) : Int := if rgCheckM r = 0 then IntKind.i64.wrap m else 0
def nanoV (us : Int) : Int := if us < 0 ∨ us > 9223372036854775 then 0 else IntKind.u64.wrap (IntKind.u64.wrap us * 1000)
def nanoC (us : Int) : Int := if us < 0 ∨ us > 9223372036854775 then 11 else 0
def microM (ns : Int) : Int := IntKind.i64.wrap (IntKind.u64.wrap (ns.tdiv 1000))
def xM (b l : Int) : Prop := nanoC b ≠ 0 ∨ nanoC l ≠ 0 ∨ nanoV l > IntKind.u64.wrap (9223372036854775807 - nanoV b)
instance (b l : Int) : Decidable (xM b l) := by unfold xM; infer_instance
def ofR (b l : Int) : Rg := if xM b l then ⟨0, 0⟩ else ⟨nanoV b, IntKind.u64.wrap (nanoV b + nanoV l)⟩
def ofC (b l : Int) : Int := if xM b l then 11 else 0
def BegunM (r : Rg) : Int := microsM (begunM r) r
def LastsM (r : Rg) : Int := microsM (lastsM r) r
def xH (r : Rg) : Rg := ofR (BegunM r) (LastsM r)
-- the reference
def wC (us : Int) : Int := if us < 0 ∨ us > 9223372036854775 then 0 else IntKind.u64.wrap (1000 * IntKind.u64.wrap us)
def rFine (s e : Int) : Bool := decide (s ≤ e) && decide (e ≤ 9223372036854775807)
def rLasts (s e : Int) : Int := if rFine s e then microM (IntKind.u64.wrap (e - s)) else 0
def rBegun (s e : Int) : Int := if rFine s e then microM s else 0
def rBad (b l : Int) : Prop := nanoC b ≠ 0 ∨ nanoC l ≠ 0 ∨ wC b > IntKind.u64.wrap (9223372036854775807 - wC l)
instance (b l : Int) : Decidable (rBad b l) := by unfold rBad; infer_instance
def rOfA (b l : Int) : Int := if rBad b l then 0 else wC b
def rOfB (b l : Int) : Int := if rBad b l then 0 else IntKind.u64.wrap (wC b + wC l)
def rOfC (b l : Int) : Int := if rBad b l then 11 else 0
end Go.Proofs
namespace Go.Proofs
open Go Go.Al
theorem nano_ok {us : Int} (h0 : 0 ≤ us) (h1 : us ≤ 9223372036854775) : nanoV us = us * 1000 ∧ wC us = us * 1000 ∧ nanoC us = 0 := by
  have e1 : IntKind.u64.wrap us = us := wg h0 (by omega)
  have e2 : IntKind.u64.wrap (us * 1000) = us * 1000 := wg (by omega) (by omega)
  have e3 : IntKind.u64.wrap (1000 * us) = us * 1000 := by rw [Int.mul_comm]; exact e2
  refine ⟨?_, ?_, ?_⟩
  · rw [nanoV, if_neg (by omega), e1, e2]
  · rw [wC, if_neg (by omega), e1, e3]
  · rw [nanoC, if_neg (by omega)]
theorem nano_bad {us : Int} (h : us < 0 ∨ us > 9223372036854775) : nanoV us = 0 ∧ wC us = 0 ∧ nanoC us = 11 := by
  refine ⟨?_, ?_, ?_⟩
  · rw [nanoV, if_pos h]
  · rw [wC, if_pos h]
  · rw [nanoC, if_pos h]
theorem nano_same (us : Int) : nanoV us = wC us := by
  by_cases h : us < 0 ∨ us > 9223372036854775
  · rw [(nano_bad h).1, (nano_bad h).2.1]
  · rw [(nano_ok (us := us) (by omega) (by omega)).1, (nano_ok (us := us) (by omega) (by omega)).2.1]
theorem nano_rg (us : Int) : 0 ≤ nanoV us ∧ nanoV us ≤ 9223372036854775000 := by
  by_cases h : us < 0 ∨ us > 9223372036854775
  · rw [(nano_bad h).1]; omega
  · rw [(nano_ok (us := us) (by omega) (by omega)).1]; omega
theorem bad_same (b l : Int) : xM b l ↔ rBad b l := by
  have hb := nano_rg b
  have hl := nano_rg l
  unfold xM rBad
  rw [← nano_same b, ← nano_same l, wg (by omega) (by omega), wg (by omega) (by omega)]
  constructor <;> intro h <;> omega
theorem of_same (b l : Int) : (ofR b l).lo = rOfA b l ∧ (ofR b l).hi = rOfB b l ∧ ofC b l = rOfC b l := by
  have h := bad_same b l
  by_cases hb : xM b l
  · simp only [ofR, rOfA, rOfB, ofC, rOfC, if_pos hb, if_pos (h.1 hb), and_self]
  · have : ¬ rBad b l := fun k => hb (h.2 k)
    simp only [ofR, rOfA, rOfB, ofC, rOfC, if_neg hb, if_neg this, nano_same, and_self]
theorem fine_iff (s e : Int) : rFine s e = true ↔ (s ≤ e ∧ e ≤ 9223372036854775807) := by simp [rFine]
theorem tells1 (s e : Int) : (rgCheckM ⟨s, e⟩ == 0) = rFine s e := by
  rw [Bool.eq_iff_iff, fine_iff]
  unfold rgCheckM
  by_cases h : e > 9223372036854775807 ∨ s > e
  · rw [if_pos h]; simp; omega
  · rw [if_neg h]; simp; omega
theorem rgCheck_fine {s e : Int} (h : rFine s e = true) : rgCheckM ⟨s, e⟩ = 0 := by have := tells1 s e; rw [h] at this; simpa using this
theorem rgCheck_bad {s e : Int} (h : rFine s e = false) : rgCheckM ⟨s, e⟩ = 11 := by
  have := tells1 s e; rw [h] at this
  unfold rgCheckM at this ⊢
  split
  · rfl
  · rename_i h'; rw [if_neg h'] at this; simp at this
theorem tells3 (s e : Int) : BegunM ⟨s, e⟩ = rBegun s e := by
  unfold BegunM microsM rBegun microM begunM
  cases h : rFine s e
  · rw [rgCheck_bad h]; simp
  · rw [rgCheck_fine h]; simp
theorem tells4 (s e : Int) : LastsM ⟨s, e⟩ = rLasts s e := by
  unfold LastsM microsM rLasts microM lastsM
  cases h : rFine s e
  · rw [rgCheck_bad h]; simp
  · rw [rgCheck_fine h]; simp
theorem tells5 (s e : Int) : (xH ⟨s, e⟩).lo = rOfA (rBegun s e) (rLasts s e) ∧ (xH ⟨s, e⟩).hi = rOfB (rBegun s e) (rLasts s e) := by
  unfold xH
  rw [tells3, tells4]
  exact ⟨(of_same _ _).1, (of_same _ _).2.1⟩
-- what a range that may be comes to
end Go.Proofs
namespace Go.Proofs
open Go Go.Al
instance : DecidableEq GV := fun a b => decidable_of_iff (sameV a b = true) (wB a b)
instance : DecidableEq GA := fun a b => decidable_of_iff (sameA a b = true) (sameA_iff a b)
theorem GE.ext' {a b : GE} (h1 : a.time = b.time) (h2 : a.name = b.name) (h3 : a.attrs = b.attrs) : a = b := by cases a; cases b; simp_all
theorem GL.ext' {a b : GL} (h1 : a.trace = b.trace) (h2 : a.span = b.span) (h3 : a.state = b.state) (h4 : a.attrs = b.attrs) : a = b := by cases a; cases b; simp_all
theorem GSpan.ext' {a b : GSpan} (h1 : a.trace = b.trace) (h2 : a.id = b.id) (h3 : a.parent = b.parent) (h4 : a.state = b.state) (h5 : a.name = b.name) (h6 : a.kind = b.kind) (h7 : a.start = b.start) (h8 : a.fin = b.fin) (h9 : a.attrs = b.attrs) (h10 : a.events = b.events) (h11 : a.links = b.links) (h12 : a.code = b.code) (h13 : a.note = b.note) : a = b := by
  cases a; cases b; simp_all
theorem GScope.ext' {a b : GScope} (h1 : a.name = b.name) (h2 : a.version = b.version) (h3 : a.spans = b.spans) : a = b := by cases a; cases b; simp_all
theorem GRes.ext' {a b : GRes} (h1 : a.attrs = b.attrs) (h2 : a.scopes = b.scopes) : a = b := by cases a; cases b; simp_all
instance : DecidableEq GE := fun a b => decidable_of_iff (a.time = b.time ∧ a.name = b.name ∧ a.attrs = b.attrs) ⟨fun h => GE.ext' h.1 h.2.1 h.2.2, fun h => by rw [h]; exact ⟨rfl, rfl, rfl⟩⟩
instance : DecidableEq GL := fun a b => decidable_of_iff (a.trace = b.trace ∧ a.span = b.span ∧ a.state = b.state ∧ a.attrs = b.attrs) ⟨fun h => GL.ext' h.1 h.2.1 h.2.2.1 h.2.2.2, fun h => by rw [h]; exact ⟨rfl, rfl, rfl, rfl⟩⟩
instance : DecidableEq GSpan := fun a b => decidable_of_iff ((a.trace = b.trace ∧ a.id = b.id ∧ a.parent = b.parent ∧ a.state = b.state) ∧ (a.name = b.name ∧ a.kind = b.kind ∧ a.start = b.start ∧ a.fin = b.fin) ∧ (a.attrs = b.attrs ∧ a.events = b.events ∧ a.links = b.links) ∧ a.code = b.code ∧ a.note = b.note)
  ⟨fun h => GSpan.ext' h.1.1 h.1.2.1 h.1.2.2.1 h.1.2.2.2 h.2.1.1 h.2.1.2.1 h.2.1.2.2.1 h.2.1.2.2.2 h.2.2.1.1 h.2.2.1.2.1 h.2.2.1.2.2 h.2.2.2.1 h.2.2.2.2, fun h => by rw [h]; exact ⟨⟨rfl, rfl, rfl, rfl⟩, ⟨rfl, rfl, rfl, rfl⟩, ⟨rfl, rfl, rfl⟩, rfl, rfl⟩⟩
instance : DecidableEq GScope := fun a b => decidable_of_iff (a.name = b.name ∧ a.version = b.version ∧ a.spans = b.spans) ⟨fun h => GScope.ext' h.1 h.2.1 h.2.2, fun h => by rw [h]; exact ⟨rfl, rfl, rfl⟩⟩
instance : DecidableEq GRes := fun a b => decidable_of_iff (a.attrs = b.attrs ∧ a.scopes = b.scopes) ⟨fun h => GRes.ext' h.1 h.2, fun h => by rw [h]; exact ⟨rfl, rfl⟩⟩
def wholeN (ns : Int) : Int := nanoV (microM ns)
def nJ : List Int := [0, 6, 7]
def vI (but : List ByteArray) (l : List GA) : List GA := xE but (l.map (yl nJ))
def k_event : ByteArray := ⟨#[101, 118, 101, 110, 116]⟩
def k_kind : ByteArray := ⟨#[115, 112, 97, 110, 46, 107, 105, 110, 100]⟩
def k_error : ByteArray := ⟨#[101, 114, 114, 111, 114]⟩
def k_code : ByteArray := ⟨#[111, 116, 101, 108, 46, 115, 116, 97, 116, 117, 115, 95, 99, 111, 100, 101]⟩
def k_note : ByteArray := ⟨#[111, 116, 101, 108, 46, 115, 116, 97, 116, 117, 115, 95, 100, 101, 115, 99, 114, 105, 112, 116, 105, 111, 110]⟩
def k4 : List ByteArray := [k_kind, k_error, k_code, k_note]
def njE (e : GE) : GE := ⟨wholeN e.time, e.name, vI [k_event] e.attrs⟩
def njL (x : GL) : GL := ⟨x.trace, x.span, ⟨#[]⟩, []⟩
def njS (s : GSpan) : GSpan := { s with state := ⟨#[]⟩, start := (xH ⟨s.start, s.fin⟩).lo, fin := (xH ⟨s.start, s.fin⟩).hi, attrs := vI k4 s.attrs, events := s.events.map njE, links := s.links.map njL }
def tv (t : ByteArray) : GV := .mk 1 t 0 0 [] []
def wP (l : List GA) (t : ByteArray) : List GA := if t = ⟨#[]⟩ then xE [skey] l else wv l (.mk skey (tv t))
def zz : List GScope → List GSpan
  | [] => []
  | c :: cs => c.spans ++ zz cs
def scopeJ (l : List GSpan) : List GScope := if l.length > 0 then [⟨⟨#[]⟩, ⟨#[]⟩, l⟩] else []
def njR (r : GRes) : GRes := ⟨wP (vI [] r.attrs) (yg r), scopeJ ((zz r.scopes).map njS)⟩
def njB (b : List GRes) : List GRes := b.map njR
theorem spansOf_append : ∀ a b : List GScope, zz (a ++ b) = zz a ++ zz b
  | [], b => rfl
  | x :: a, b => by rw [List.cons_append, zz, zz, spansOf_append a b, List.append_assoc]
theorem spansOf_take {l : List GScope} {i : Nat} (h : i < l.length) : zz (l.take (i + 1)) = zz (l.take i) ++ (nthC l i).spans := by
  rw [zx (yZ (d := gc0) h), spansOf_append]; simp [zz, nthC]
theorem spansOf_mem : ∀ {l : List GScope} {s : GSpan}, s ∈ zz l → ∃ c ∈ l, s ∈ c.spans
  | x :: l, s, h => by
    rw [zz] at h
    rcases List.mem_append.1 h with h | h
    · exact ⟨x, List.mem_cons_self, h⟩
    · obtain ⟨c, h1, h2⟩ := spansOf_mem h; exact ⟨c, List.mem_cons_of_mem _ h1, h2⟩
theorem spansOf_len : ∀ l : List GScope, (zz l).length ≤ z7 GScope.wt l
  | [] => Nat.zero_le _
  | c :: l => by
    rw [zz, List.length_append, z7]
    have h1 := spansOf_len l
    have h2 := yR GSpan.wt (fun e => by unfold GSpan.wt; omega) c.spans
    have h3 : c.wt = 1 + c.name.size + c.version.size + z7 GSpan.wt c.spans := rfl
    omega
theorem plainA_key (ks : List Int) (a : GA) : (yl ks a).key = a.key := by unfold yl; split <;> rfl
theorem drop_plain (ks : List Int) (but : List ByteArray) : ∀ l : List GA, xE but (l.map (yl ks)) = (xE but l).map (yl ks)
  | [] => rfl
  | x :: l => by
    simp only [List.map_cons, xE, plainA_key, drop_plain ks but l]
    split <;> simp
theorem wU {ks : List ByteArray} : ∀ {l : List GA} {x : GA}, x ∈ xE ks l → x ∈ l ∧ ks.any (fun k => decide (k = x.key)) = false
  | y :: l, x, h => by
    rw [xE] at h
    split at h
    · exact ⟨List.mem_cons_of_mem _ (wU h).1, (wU h).2⟩
    · rename_i hk
      rcases List.mem_cons.1 h with rfl | h
      · exact ⟨List.mem_cons_self, by cases hb : ks.any (fun k => decide (k = x.key)) <;> first | rfl | exact absurd hb hk⟩
      · exact ⟨List.mem_cons_of_mem _ (wU h).1, (wU h).2⟩
theorem risA_weak {l : List GA} {p q : ByteArray} (h : risA (some p) l) (hq : ltB q p = true) : risA (some q) l := by
  cases l with
  | nil => trivial
  | cons x l => exact ⟨ltB_trans hq h.1, h.2⟩
theorem ris_dropA (ks : List ByteArray) : ∀ {l : List GA} {p : Option ByteArray}, risA p l → risA p (xE ks l)
  | [], _, _ => trivial
  | x :: l, p, h => by
    rw [xE]
    split
    · have h2 := ris_dropA ks h.2
      cases p with
      | none => exact risA_none h2
      | some p => exact risA_weak h2 h.1
    · exact ⟨h.1, ris_dropA ks h.2⟩
theorem ris_plain (ks : List Int) : ∀ {l : List GA} {p : Option ByteArray}, risA p l → risA p (l.map (yl ks))
  | [], _, _ => trivial
  | x :: l, p, h => ⟨by rw [plainA_key]; exact h.1, by rw [plainA_key]; exact ris_plain ks h.2⟩
theorem ris_kept (but : List ByteArray) {l : List GA} (h : risA none l) : risA none (vI but l) := ris_dropA _ (ris_plain _ h)
theorem dropA_none {k : ByteArray} : ∀ {l : List GA}, (∀ x ∈ l, x.key ≠ k) → xE [k] l = l
  | [], _ => rfl
  | x :: l, h => by
    rw [xE, if_neg, dropA_none fun y hy => h y (List.mem_cons_of_mem _ hy)]
    have := h x List.mem_cons_self
    simp [Ne.symm this]
theorem ris_ne {l : List GA} {p : ByteArray} (h : risA (some p) l) : ∀ x ∈ l, x.key ≠ p := fun x hx e => by
  have := risA_mem h x hx
  rw [e, ltB_irrefl] at this; cases this
theorem intoA_first {l : List GA} {k : ByteArray} {v : GV} (h : risA (some k) l) : wv l (.mk k v) = GA.mk k v :: l := by
  cases l with
  | nil => rfl
  | cons x l =>
    have h1 := h.1
    rw [wv, if_neg (by rw [GA.key_mk, ltB_asymm h1]; decide), if_neg (by rw [GA.key_mk]; rintro e; exact ris_ne h x List.mem_cons_self e)]
theorem into_drop {k : ByteArray} {v : GV} : ∀ {l : List GA} {p : Option ByteArray}, risA p l → wv (xE [k] l) (.mk k v) = wv l (.mk k v)
  | [], _, _ => rfl
  | x :: l, p, h => by
    by_cases he : x.key = k
    · rw [xE, if_pos (by simp [he]), dropA_none (he ▸ ris_ne h.2), intoA_first (he ▸ h.2), wv, if_neg (by rw [GA.key_mk, he, ltB_irrefl]; decide), if_pos (by rw [GA.key_mk]; exact he)]
    · rw [xE, if_neg (by simp [Ne.symm he]), wv, wv]
      split
      · rw [into_drop h.2]
      · rename_i hl
        rw [if_neg (by rw [GA.key_mk]; exact he), if_neg (by rw [GA.key_mk]; exact he)]
        have hk : ltB k x.key = true := by
          cases hb : ltB k x.key
          · exact absurd (ltB_tri (by simpa [GA.key_mk] using hl) hb) he
          · rfl
        rw [dropA_none (ris_ne (risA_weak h.2 hk))]
theorem ris_named {l : List GA} (h : risA none l) (t : ByteArray) : risA none (wP l t) := by
  unfold wP; split
  · exact ris_dropA _ h
  · exact ris_intoA _ _ none h trivial
theorem keptA_wt (but : List ByteArray) (l : List GA) : wtAs (vI but l) ≤ 151 * wtAs l := Nat.le_trans (dropA_wt' but _) (plainAs_wt' nJ l)
where
  dropA_wt' (ks : List ByteArray) : ∀ l : List GA, wtAs (xE ks l) ≤ wtAs l
    | [] => Nat.le_refl _
    | x :: l => by rw [xE]; have := dropA_wt' ks l; split <;> simp only [wtAs] <;> omega
  plainA_wt' (ks : List Int) (a : GA) : (yl ks a).wt ≤ 151 * a.wt := by
    unfold yl
    have h1 := a.wt_eq
    have h2 := a.val.wt_pos
    split
    · have h3 : (GA.mk a.key (plainV a.val)).wt = a.key.size + (plainV a.val).wt := GA.wt_eq _
      have h4 : (plainV a.val).wt = 1 + (textM a.val).size := by rw [GV.wt_eq]; simp [plainV, GV.list, GV.map, GV.text, wtVs, wtAs]
      have h5 : (textM a.val).size ≤ 150 * a.val.wt := by rw [textM, zf]; exact textB_length _
      omega
    · omega
  plainAs_wt' (ks : List Int) : ∀ l : List GA, wtAs (l.map (yl ks)) ≤ 151 * wtAs l
    | [] => by simp [wtAs]
    | x :: l => by simp only [List.map_cons, wtAs]; have := plainA_wt' ks x; have := plainAs_wt' ks l; omega
def plC (i : Nat) : Nat → List GScope → List (Nat × Nat × Nat)
  | _, [] => []
  | k, c :: cs => ((List.range c.spans.length).map fun m => (i, k, m)) ++ plC i (k + 1) cs
def plR : Nat → List GRes → List (Nat × Nat × Nat)
  | _, [] => []
  | i, r :: rs => plC i 0 r.scopes ++ plR (i + 1) rs
def plav (p : Nat × Nat × Nat) : AV := .agg [iv (p.1 : Int), iv (p.2.1 : Int), iv (p.2.2 : Int)]
theorem plC_snoc (i : Nat) (c : GScope) : ∀ (k : Nat) (l : List GScope), plC i k (l ++ [c]) = plC i k l ++ (List.range c.spans.length).map fun m => (i, k + l.length, m)
  | k, [] => by simp [plC]
  | k, x :: l => by
    simp only [List.cons_append, plC, plC_snoc i c (k + 1) l, List.append_assoc, List.length_cons]
    rw [show k + 1 + l.length = k + (l.length + 1) by omega]
theorem plR_snoc (r : GRes) : ∀ (i : Nat) (l : List GRes), plR i (l ++ [r]) = plR i l ++ plC (i + l.length) 0 r.scopes
  | i, [] => by simp [plR]
  | i, x :: l => by
    simp only [List.cons_append, plR, plR_snoc r (i + 1) l, List.append_assoc, List.length_cons]
    rw [show i + 1 + l.length = i + (l.length + 1) by omega]
theorem plC_take {i : Nat} {l : List GScope} {k : Nat} (h : k < l.length) : plC i 0 (l.take (k + 1)) = plC i 0 (l.take k) ++ (List.range (nthC l k).spans.length).map fun m => (i, k, m) := by
  rw [zx (yZ (d := gc0) h), plC_snoc, List.length_take, Nat.min_eq_left (by omega), Nat.zero_add]; rfl
theorem plR_take {l : List GRes} {i : Nat} (h : i < l.length) : plR 0 (l.take (i + 1)) = plR 0 (l.take i) ++ plC i 0 (nthR l i).scopes := by
  rw [zx (yZ (d := gr0) h), plR_snoc, List.length_take, Nat.min_eq_left (by omega), Nat.zero_add]; rfl
theorem range_snoc (f : Nat → Nat × Nat × Nat) (m : Nat) : (List.range (m + 1)).map f = (List.range m).map f ++ [f m] := by rw [List.range_succ, List.map_append]; rfl
theorem plC_len (i : Nat) : ∀ (k : Nat) (l : List GScope), (plC i k l).length = (zz l).length
  | _, [] => rfl
  | k, c :: l => by rw [plC, zz, List.length_append, List.length_append, plC_len i (k + 1) l]; simp
theorem plR_one (r : GRes) : plR 0 [r] = plC 0 0 r.scopes := by simp [plR]
theorem plC_spans (i : Nat) : ∀ (l m : List GScope), (plC i m.length l).map (fun p => nthS (nthC (m ++ l) p.2.1).spans p.2.2) = zz l
  | [], m => rfl
  | c :: l, m => by
    rw [plC, List.map_append, zz]
    congr 1
    · rw [List.map_map]
      refine List.ext_getElem (by simp) fun j h1 h2 => ?_
      simp only [List.getElem_map, List.getElem_range, Function.comp]
      have : nthC (m ++ c :: l) m.length = c := by simp [nthC, nth]
      rw [this]
      simp only [nthS, nth]
      rw [List.getD_eq_getElem?_getD, List.getElem?_eq_getElem h2]; rfl
    · have := plC_spans i l (m ++ [c])
      simp only [List.length_append, List.length_cons, List.length_nil, List.append_assoc, List.cons_append, List.nil_append] at this
      exact this
theorem plC_mem {i : Nat} : ∀ {l m : List GScope} {p : Nat × Nat × Nat}, p ∈ plC i m.length l → p.2.1 < (m ++ l).length ∧ p.2.2 < (nthC (m ++ l) p.2.1).spans.length
  | c :: l, m, p, h => by
    rw [plC] at h
    rcases List.mem_append.1 h with h | h
    · obtain ⟨j, hj, rfl⟩ := List.mem_map.1 h
      have : nthC (m ++ c :: l) m.length = c := by simp [nthC, nth]
      exact ⟨by simp, by show j < (nthC (m ++ c :: l) m.length).spans.length; rw [this]; exact List.mem_range.1 hj⟩
    · have := plC_mem (l := l) (m := m ++ [c]) (p := p) (by simpa using h)
      simpa using this
end Go.Proofs
namespace Go.Proofs
open Go Go.Al
set_option maxRecDepth 10000
theorem rgCheck_c (r : Rg) : zo Tryz.prog Γ0 140 [r.av] [iv (rgCheckM r)] := by
  refine z_ Tryz.func140 rfl Tryz.ntmps140 (by kernel_rfl) rfl fun w0 I0 G0 => ?_
  refine zD <| zB <| g_uG (zi 1001 rfl rfl rfl rfl) rfl <| g_u (zE rfl rfl) <| zI <| zA <| zD <| zD <| zB <| g_u (zF rfl rfl fa105_1 rfl) <| g_u (zG rfl rfl rfl tA57 tS57 rfl rfl) <| g_u (s_gtI rfl rfl rfl) <| g_u (zC rfl rfl) <| z0 (t := 6) rfl ?_
  rintro (hb1 | hb1)
  · rw [hb1]
    refine zH rfl rfl rfl <| zH rfl rfl rfl <| zH rfl rfl rfl <| zH rfl rfl rfl <| zH rfl rfl rfl <| g_u (zQ rfl rfl rfl) <| zI <| zA <| zg rfl <| zD <| zB <| g_u (zE rfl rfl) <| zI <| zA <| zL <| zM ?_
    exact ⟨⟨(rfl : toAV (Al.look _ _) = some _).trans (congrArg some (by (simp only [decide_eq_true_eq, qb, bne_iff_ne, ne_eq, beq_iff_eq, qd, qe] at *; simp only [iv, rgCheckM]; first | rw [if_pos (by omega)] | rw [if_neg (by omega)]))), rfl⟩, trivial⟩
  · rw [hb1]
    refine zN rfl rfl (zF rfl rfl fa105_0 rfl) <| zN rfl rfl (zG rfl rfl rfl tA57 tS57 rfl rfl) <| zN rfl rfl (zF rfl rfl fa105_1 rfl) <| zN rfl rfl (zG rfl rfl rfl tA57 tS57 rfl rfl) <| zN rfl rfl (s_gtI rfl rfl rfl) <| g_u (zh rfl rfl rfl) <| zI <| zA ?_
    refine zW rfl (fun hb2 => ?_) (fun hb2 => ?_)
    · refine zD ?_
      refine zB <| g_u (zE rfl rfl) <| zI <| zA <| zL <| zM ?_
      exact ⟨⟨(rfl : toAV (Al.look _ _) = some _).trans (congrArg some (by (simp only [decide_eq_true_eq, qb, bne_iff_ne, ne_eq, beq_iff_eq, qd, qe] at *; simp only [iv, rgCheckM]; first | rw [if_pos (by omega)] | rw [if_neg (by omega)]))), rfl⟩, trivial⟩
    · refine zY ?_
      refine zA <| zD <| zB <| g_u (zE rfl rfl) <| zI <| zA <| zL ?_
      exact ⟨⟨(rfl : toAV (Al.look _ _) = some _).trans (congrArg some (by (simp only [decide_eq_true_eq, qb, bne_iff_ne, ne_eq, beq_iff_eq, qd, qe] at *; simp only [iv, rgCheckM]; first | rw [if_pos (by omega)] | rw [if_neg (by omega)]))), rfl⟩, trivial⟩
theorem begun_c (r : Rg) : zo Tryz.prog Γ0 115 [r.av] [uv (begunM r)] := by
  refine z_ Tryz.func115 rfl Tryz.ntmps115 (by kernel_rfl) rfl fun w0 I0 G0 => ?_
  refine zD <| zB <| g_uG (zi 1001 rfl rfl rfl rfl) rfl <| g_u (zE rfl rfl) <| zI <| zA <| zD <| zB <| g_u (zF rfl rfl fa105_0 rfl) <| g_u (zG rfl rfl rfl tA57 tS57 rfl rfl) ?_
  refine g_u (s_quo rfl rfl rfl (by first | decide | omega | (((try simp only [decide_eq_true_eq, qb, bne_iff_ne, ne_eq, beq_iff_eq, qd, qe, Bool.not_eq_true', Bool.not_eq_false', gt_iff_lt, ge_iff_le] at *); (repeat simp (disch := omega) only [ze, yS] at *)); omega))) ?_
  refine g_u (zE rfl rfl) <| zI <| zA <| zL ?_
  exact ⟨⟨(rfl : toAV (Al.look _ _) = some _).trans (congrArg some (by rfl)), rfl⟩, trivial⟩
theorem lasts_c (r : Rg) : zo Tryz.prog Γ0 116 [r.av] [uv (lastsM r)] := by
  refine z_ Tryz.func116 rfl Tryz.ntmps116 (by kernel_rfl) rfl fun w0 I0 G0 => ?_
  refine zD <| zB <| g_uG (zi 1001 rfl rfl rfl rfl) rfl <| g_u (zE rfl rfl) <| zI <| zA <| zD <| zB <| g_u (zF rfl rfl fa105_1 rfl) <| g_u (zG rfl rfl rfl tA57 tS57 rfl rfl) <| g_u (zF rfl rfl fa105_0 rfl) <| g_u (zG rfl rfl rfl tA57 tS57 rfl rfl) <| g_u (s_sub rfl rfl rfl) ?_
  refine g_u (s_quo rfl rfl rfl (by first | decide | omega | (((try simp only [decide_eq_true_eq, qb, bne_iff_ne, ne_eq, beq_iff_eq, qd, qe, Bool.not_eq_true', Bool.not_eq_false', gt_iff_lt, ge_iff_le] at *); (repeat simp (disch := omega) only [ze, yS] at *)); omega))) ?_
  refine g_u (zE rfl rfl) <| zI <| zA <| zL ?_
  exact ⟨⟨(rfl : toAV (Al.look _ _) = some _).trans (congrArg some (by rfl)), rfl⟩, trivial⟩
theorem micros_c (r : Rg) (f : Nat) (m : Int) (hf : zo Tryz.prog Γ0 f [r.av] [uv m]) : zo Tryz.prog Γ0 114 [r.av, .fn (.func f) [] []] [iv (microsM m r)] := by
  refine z_ Tryz.func114 rfl Tryz.ntmps114 (by kernel_rfl) rfl fun w0 I0 G0 => ?_
  refine zD <| zB <| g_uG (zi 1002 rfl rfl rfl rfl) rfl <| g_u (zE rfl rfl) <| zI <| zA <| zD <| zD <| zB <| g_u (zG rfl rfl rfl tA105 tS105 rfl rfl) <| g_u (zP (rgCheck_c ⟨_, _⟩) rfl rfl) <| g_u (wM rfl rfl rfl) <| zI <| zA ?_
  refine zW rfl (fun hb1 => ?_) (fun hb1 => ?_)
  · refine zD ?_
    refine zB <| g_u (zE rfl rfl) <| zI <| zA <| zL <| zM ?_
    exact ⟨⟨(rfl : toAV (Al.look _ _) = some _).trans (congrArg some (by (simp only [decide_eq_true_eq, qb, bne_iff_ne, ne_eq, beq_iff_eq, qd, qe] at *; simp only [iv, microsM]; first | rw [if_pos (by omega)] | rw [if_neg (by omega)]))), rfl⟩, trivial⟩
  · refine zY ?_
    refine zA <| zD <| zB <| g_u (zC rfl rfl) <| g_u (zG rfl rfl rfl tA105 tS105 rfl rfl) <| g_u (xv (hf) rfl rfl rfl) <| g_u (s_cvII rfl rfl Tryz.underlying57 Tryz.underlying3) <| g_u (zE rfl rfl) <| zI <| zA <| zL ?_
    exact ⟨⟨(rfl : toAV (Al.look _ _) = some _).trans (congrArg some (by (simp only [decide_eq_true_eq, qb, bne_iff_ne, ne_eq, beq_iff_eq, qd, qe] at *; simp only [iv, microsM]; first | rw [if_pos (by omega)] | rw [if_neg (by omega)]))), rfl⟩, trivial⟩
theorem Begun_c (r : Rg) : zo Tryz.prog Γ0 80 [r.av] [iv (BegunM r)] := by
  refine z_ Tryz.func80 rfl Tryz.ntmps80 (by kernel_rfl) rfl fun w0 I0 G0 => ?_
  refine zD <| zB <| g_uG (zi 1001 rfl rfl rfl rfl) rfl <| g_u (zE rfl rfl) <| zI <| zA <| zD <| zB <| g_u (zG rfl rfl rfl tA105 tS105 rfl rfl) <| g_u (zP (micros_c _ _ _ (begun_c _)) rfl rfl) <| g_u (zE rfl rfl) <| zI <| zA <| zL ?_
  exact ⟨⟨(rfl : toAV (Al.look _ _) = some _).trans (congrArg some (by rfl)), rfl⟩, trivial⟩
theorem Lasts_c (r : Rg) : zo Tryz.prog Γ0 81 [r.av] [iv (LastsM r)] := by
  refine z_ Tryz.func81 rfl Tryz.ntmps81 (by kernel_rfl) rfl fun w0 I0 G0 => ?_
  refine zD <| zB <| g_uG (zi 1001 rfl rfl rfl rfl) rfl <| g_u (zE rfl rfl) <| zI <| zA <| zD <| zB <| g_u (zG rfl rfl rfl tA105 tS105 rfl rfl) <| g_u (zP (micros_c _ _ _ (lasts_c _)) rfl rfl) <| g_u (zE rfl rfl) <| zI <| zA <| zL ?_
  exact ⟨⟨(rfl : toAV (Al.look _ _) = some _).trans (congrArg some (by rfl)), rfl⟩, trivial⟩
theorem nano_c (us : Int) : zo Tryz.prog Γ0 85 [iv us] [uv (nanoV us), iv (nanoC us)] := by
  refine z_ Tryz.func85 rfl Tryz.ntmps85 (by kernel_rfl) rfl fun w0 I0 G0 => ?_
  refine zD <| zB <| g_u (zE rfl rfl) <| g_u (zE rfl rfl) <| zI <| zA <| zD <| zD <| zB <| g_u (zC rfl rfl) <| g_u (yb rfl rfl rfl) <| g_u (zC rfl rfl) <| z0 (t := 6) rfl ?_
  rintro (hb1 | hb1)
  · rw [hb1]
    refine zH rfl rfl rfl <| zH rfl rfl rfl <| g_u (zQ rfl rfl rfl) <| zI <| zA <| zg rfl <| zD <| zB <| g_u (zE rfl rfl) <| g_u (zE rfl rfl) <| zI <| zA <| zL <| zM ?_
    exact ⟨⟨(rfl : toAV (Al.look _ _) = some _).trans (congrArg some (by (simp only [decide_eq_true_eq, qb, bne_iff_ne, ne_eq, beq_iff_eq, qd, qe] at *; simp only [iv, uv, nanoV, nanoC, wC]; first | rw [if_pos (by omega)] | rw [if_neg (by omega)]))), rfl⟩, ⟨(rfl : toAV (Al.look _ _) = some _).trans (congrArg some (by (simp only [decide_eq_true_eq, qb, bne_iff_ne, ne_eq, beq_iff_eq, qd, qe] at *; simp only [iv, uv, nanoV, nanoC, wC]; first | rw [if_pos (by omega)] | rw [if_neg (by omega)]))), rfl⟩, trivial⟩
  · rw [hb1]
    refine zN rfl rfl (zC rfl rfl) <| zN rfl rfl (s_gtI rfl rfl rfl) <| g_u (zh rfl rfl rfl) <| zI <| zA ?_
    refine zW rfl (fun hb2 => ?_) (fun hb2 => ?_)
    · refine zD ?_
      refine zB <| g_u (zE rfl rfl) <| g_u (zE rfl rfl) <| zI <| zA <| zL <| zM ?_
      exact ⟨⟨(rfl : toAV (Al.look _ _) = some _).trans (congrArg some (by (simp only [decide_eq_true_eq, qb, bne_iff_ne, ne_eq, beq_iff_eq, qd, qe] at *; simp only [iv, uv, nanoV, nanoC, wC]; first | rw [if_pos (by omega)] | rw [if_neg (by omega)]))), rfl⟩, ⟨(rfl : toAV (Al.look _ _) = some _).trans (congrArg some (by (simp only [decide_eq_true_eq, qb, bne_iff_ne, ne_eq, beq_iff_eq, qd, qe] at *; simp only [iv, uv, nanoV, nanoC, wC]; first | rw [if_pos (by omega)] | rw [if_neg (by omega)]))), rfl⟩, trivial⟩
    · refine zY ?_
      refine zA <| zD <| zB <| g_u (zC rfl rfl) <| g_u (s_cvII rfl rfl Tryz.underlying3 Tryz.underlying57) <| g_u (s_mul rfl rfl rfl) <| g_u (zE rfl rfl) <| g_u (zE rfl rfl) <| zI <| zA <| zL ?_
      exact ⟨⟨(rfl : toAV (Al.look _ _) = some _).trans (congrArg some (by (simp only [decide_eq_true_eq, qb, bne_iff_ne, ne_eq, beq_iff_eq, qd, qe] at *; simp only [iv, uv, nanoV, nanoC, wC]; first | rw [if_pos (by omega)] | rw [if_neg (by omega)]))), rfl⟩, ⟨(rfl : toAV (Al.look _ _) = some _).trans (congrArg some (by (simp only [decide_eq_true_eq, qb, bne_iff_ne, ne_eq, beq_iff_eq, qd, qe] at *; simp only [iv, uv, nanoV, nanoC, wC]; first | rw [if_pos (by omega)] | rw [if_neg (by omega)]))), rfl⟩, trivial⟩
theorem rnano_c (us : Int) : zo Tryz.prog Γ0 127 [iv us] [uv (wC us), iv (nanoC us)] := by
  refine z_ Tryz.func127 rfl Tryz.ntmps127 (by kernel_rfl) rfl fun w0 I0 G0 => ?_
  refine zD <| zB <| g_u (zE rfl rfl) <| g_u (zE rfl rfl) <| zI <| zA <| zD <| zD <| zB <| g_u (zC rfl rfl) <| g_u (yb rfl rfl rfl) <| g_u (zC rfl rfl) <| z0 (t := 6) rfl ?_
  rintro (hb1 | hb1)
  · rw [hb1]
    refine zH rfl rfl rfl <| zH rfl rfl rfl <| g_u (zQ rfl rfl rfl) <| zI <| zA <| zg rfl <| zD <| zB <| g_u (zE rfl rfl) <| g_u (zE rfl rfl) <| zI <| zA <| zL <| zM ?_
    exact ⟨⟨(rfl : toAV (Al.look _ _) = some _).trans (congrArg some (by (simp only [decide_eq_true_eq, qb, bne_iff_ne, ne_eq, beq_iff_eq, qd, qe] at *; simp only [iv, uv, nanoV, nanoC, wC]; first | rw [if_pos (by omega)] | rw [if_neg (by omega)]))), rfl⟩, ⟨(rfl : toAV (Al.look _ _) = some _).trans (congrArg some (by (simp only [decide_eq_true_eq, qb, bne_iff_ne, ne_eq, beq_iff_eq, qd, qe] at *; simp only [iv, uv, nanoV, nanoC, wC]; first | rw [if_pos (by omega)] | rw [if_neg (by omega)]))), rfl⟩, trivial⟩
  · rw [hb1]
    refine zN rfl rfl (zC rfl rfl) <| zN rfl rfl (s_gtI rfl rfl rfl) <| g_u (zh rfl rfl rfl) <| zI <| zA ?_
    refine zW rfl (fun hb2 => ?_) (fun hb2 => ?_)
    · refine zD ?_
      refine zB <| g_u (zE rfl rfl) <| g_u (zE rfl rfl) <| zI <| zA <| zL <| zM ?_
      exact ⟨⟨(rfl : toAV (Al.look _ _) = some _).trans (congrArg some (by (simp only [decide_eq_true_eq, qb, bne_iff_ne, ne_eq, beq_iff_eq, qd, qe] at *; simp only [iv, uv, nanoV, nanoC, wC]; first | rw [if_pos (by omega)] | rw [if_neg (by omega)]))), rfl⟩, ⟨(rfl : toAV (Al.look _ _) = some _).trans (congrArg some (by (simp only [decide_eq_true_eq, qb, bne_iff_ne, ne_eq, beq_iff_eq, qd, qe] at *; simp only [iv, uv, nanoV, nanoC, wC]; first | rw [if_pos (by omega)] | rw [if_neg (by omega)]))), rfl⟩, trivial⟩
    · refine zY ?_
      refine zA <| zD <| zB <| g_u (zC rfl rfl) <| g_u (s_cvII rfl rfl Tryz.underlying3 Tryz.underlying57) <| g_u (s_mul rfl rfl rfl) <| g_u (zE rfl rfl) <| g_u (zE rfl rfl) <| zI <| zA <| zL ?_
      exact ⟨⟨(rfl : toAV (Al.look _ _) = some _).trans (congrArg some (by (simp only [decide_eq_true_eq, qb, bne_iff_ne, ne_eq, beq_iff_eq, qd, qe] at *; simp only [iv, uv, nanoV, nanoC, wC]; first | rw [if_pos (by omega)] | rw [if_neg (by omega)]))), rfl⟩, ⟨(rfl : toAV (Al.look _ _) = some _).trans (congrArg some (by (simp only [decide_eq_true_eq, qb, bne_iff_ne, ne_eq, beq_iff_eq, qd, qe] at *; simp only [iv, uv, nanoV, nanoC, wC]; first | rw [if_pos (by omega)] | rw [if_neg (by omega)]))), rfl⟩, trivial⟩
theorem micro_c (ns : Int) : zo Tryz.prog Γ0 86 [uv ns] [iv (microM ns)] := by
  refine z_ Tryz.func86 rfl Tryz.ntmps86 (by kernel_rfl) rfl fun w0 I0 G0 => ?_
  refine zD <| zB <| g_u (zE rfl rfl) <| zI <| zA <| zD <| zB <| g_u (zC rfl rfl) ?_
  refine g_u (s_quo rfl rfl rfl (by first | decide | omega | (((try simp only [decide_eq_true_eq, qb, bne_iff_ne, ne_eq, beq_iff_eq, qd, qe, Bool.not_eq_true', Bool.not_eq_false', gt_iff_lt, ge_iff_le] at *); (repeat simp (disch := omega) only [ze, yS] at *)); omega))) ?_
  refine g_u (s_cvII rfl rfl Tryz.underlying57 Tryz.underlying3) <| g_u (zE rfl rfl) <| zI <| zA <| zL ?_
  exact ⟨⟨(rfl : toAV (Al.look _ _) = some _).trans (congrArg some (by rfl)), rfl⟩, trivial⟩
theorem rmicro_c (ns : Int) : zo Tryz.prog Γ0 123 [uv ns] [iv (microM ns)] := by
  refine z_ Tryz.func123 rfl Tryz.ntmps123 (by kernel_rfl) rfl fun w0 I0 G0 => ?_
  refine zD <| zB <| g_u (zE rfl rfl) <| zI <| zA <| zD <| zB <| g_u (zC rfl rfl) ?_
  refine g_u (s_quo rfl rfl rfl (by first | decide | omega | (((try simp only [decide_eq_true_eq, qb, bne_iff_ne, ne_eq, beq_iff_eq, qd, qe, Bool.not_eq_true', Bool.not_eq_false', gt_iff_lt, ge_iff_le] at *); (repeat simp (disch := omega) only [ze, yS] at *)); omega))) ?_
  refine g_u (s_cvII rfl rfl Tryz.underlying57 Tryz.underlying3) <| g_u (zE rfl rfl) <| zI <| zA <| zL ?_
  exact ⟨⟨(rfl : toAV (Al.look _ _) = some _).trans (congrArg some (by rfl)), rfl⟩, trivial⟩
theorem of_c (b l : Int) : zo Tryz.prog Γ0 79 [iv b, iv l] [(ofR b l).av, iv (ofC b l)] := by
  refine z_ Tryz.func79 rfl Tryz.ntmps79 (by kernel_rfl) rfl fun w0 I0 G0 => ?_
  refine zD <| zB <| g_uG (zl 1004 rfl rfl rfl tZ105) rfl <| g_u (zE rfl rfl) <| zI <| zA <| zD <| zB <| g_u (zC rfl rfl) <| g_u (xu (nano_c _) rfl rfl) <| g_u (y8 rfl rfl) <| g_u (zj rfl rfl rfl rfl) <| g_u (zj rfl rfl rfl rfl) <| g_u (zE rfl rfl) <| g_u (zE rfl rfl) <| zI <| zA <| zD <| zB <| g_u (zC rfl rfl) <| g_u (xu (nano_c _) rfl rfl) <| g_u (y8 rfl rfl) <| g_u (zj rfl rfl rfl rfl) <| g_u (zj rfl rfl rfl rfl) <| g_u (zE rfl rfl) <| g_u (zE rfl rfl) <| zI <| zA <| zD <| zD <| zB <| g_u (zC rfl rfl) <| g_u (wM rfl rfl rfl) <| g_u (zC rfl rfl) <| z0 (t := 22) rfl ?_
  rintro (hb1 | hb1)
  · rw [hb1]
    refine zH rfl rfl rfl <| zH rfl rfl rfl <| g_u (zQ rfl rfl rfl) <| g_u (zC rfl rfl) <| zH rfl rfl rfl <| zH rfl rfl rfl <| zH rfl rfl rfl <| zH rfl rfl rfl <| g_u (zQ rfl rfl rfl) <| zI <| zA <| zg rfl <| zD <| zB <| g_u (y_ rfl tU105 us105 pl105 rfl rfl rfl rfl) <| g_u (zK rfl rfl rfl tS105 rfl rfl) <| g_u (zE rfl rfl) <| zI <| zA <| zL <| zM ?_
    exact ⟨⟨_, _, _, _, _, _, _, rfl, rfl, tA105, tS105, rfl, rfl, (rfl : toAV _ = some _).trans (congrArg some (by (simp only [decide_eq_true_eq, qb, bne_iff_ne, ne_eq, beq_iff_eq, qd, qe] at *; simp only [iv, uv, Rg.av, ofR, ofC, rOfA, rOfB, rOfC]; first | (rw [if_pos (by unfold xM; omega)]; first | done | rfl) | (rw [if_neg (by unfold xM; omega)]; first | done | rfl) | (rw [if_pos (by unfold rBad; omega)]; first | done | rfl) | (rw [if_neg (by unfold rBad; omega)]; first | done | rfl))))⟩, ⟨(rfl : toAV (Al.look _ _) = some _).trans (congrArg some (by (simp only [decide_eq_true_eq, qb, bne_iff_ne, ne_eq, beq_iff_eq, qd, qe] at *; simp only [iv, uv, Rg.av, ofR, ofC, rOfA, rOfB, rOfC]; first | (rw [if_pos (by unfold xM; omega)]; first | done | rfl) | (rw [if_neg (by unfold xM; omega)]; first | done | rfl) | (rw [if_pos (by unfold rBad; omega)]; first | done | rfl) | (rw [if_neg (by unfold rBad; omega)]; first | done | rfl)))), rfl⟩, trivial⟩
  · rw [hb1]
    refine zN rfl rfl (zC rfl rfl) <| zN rfl rfl (wM rfl rfl rfl) <| g_u (zh rfl rfl rfl) <| g_u (zC rfl rfl) <| z0 (t := 26) rfl ?_
    rintro (hb2 | hb2)
    · rw [hb2]
      refine zH rfl rfl rfl <| zH rfl rfl rfl <| zH rfl rfl rfl <| zH rfl rfl rfl <| g_u (zQ rfl rfl rfl) <| zI <| zA <| zg rfl <| zD <| zB <| g_u (y_ rfl tU105 us105 pl105 rfl rfl rfl rfl) <| g_u (zK rfl rfl rfl tS105 rfl rfl) <| g_u (zE rfl rfl) <| zI <| zA <| zL <| zM ?_
      exact ⟨⟨_, _, _, _, _, _, _, rfl, rfl, tA105, tS105, rfl, rfl, (rfl : toAV _ = some _).trans (congrArg some (by (simp only [decide_eq_true_eq, qb, bne_iff_ne, ne_eq, beq_iff_eq, qd, qe] at *; simp only [iv, uv, Rg.av, ofR, ofC, rOfA, rOfB, rOfC]; first | (rw [if_pos (by unfold xM; omega)]; first | done | rfl) | (rw [if_neg (by unfold xM; omega)]; first | done | rfl) | (rw [if_pos (by unfold rBad; omega)]; first | done | rfl) | (rw [if_neg (by unfold rBad; omega)]; first | done | rfl))))⟩, ⟨(rfl : toAV (Al.look _ _) = some _).trans (congrArg some (by (simp only [decide_eq_true_eq, qb, bne_iff_ne, ne_eq, beq_iff_eq, qd, qe] at *; simp only [iv, uv, Rg.av, ofR, ofC, rOfA, rOfB, rOfC]; first | (rw [if_pos (by unfold xM; omega)]; first | done | rfl) | (rw [if_neg (by unfold xM; omega)]; first | done | rfl) | (rw [if_pos (by unfold rBad; omega)]; first | done | rfl) | (rw [if_neg (by unfold rBad; omega)]; first | done | rfl)))), rfl⟩, trivial⟩
    · rw [hb2]
      refine zN rfl rfl (zC rfl rfl) <| zN rfl rfl (zC rfl rfl) <| zN rfl rfl (s_sub rfl rfl rfl) <| zN rfl rfl (s_gtI rfl rfl rfl) <| g_u (zh rfl rfl rfl) <| zI <| zA ?_
      refine zW rfl (fun hb3 => ?_) (fun hb3 => ?_)
      · refine zD ?_
        refine zB <| g_u (y_ rfl tU105 us105 pl105 rfl rfl rfl rfl) <| g_u (zK rfl rfl rfl tS105 rfl rfl) <| g_u (zE rfl rfl) <| zI <| zA <| zL <| zM ?_
        exact ⟨⟨_, _, _, _, _, _, _, rfl, rfl, tA105, tS105, rfl, rfl, (rfl : toAV _ = some _).trans (congrArg some (by (simp only [decide_eq_true_eq, qb, bne_iff_ne, ne_eq, beq_iff_eq, qd, qe] at *; simp only [iv, uv, Rg.av, ofR, ofC, rOfA, rOfB, rOfC]; first | (rw [if_pos (by unfold xM; omega)]; first | done | rfl) | (rw [if_neg (by unfold xM; omega)]; first | done | rfl) | (rw [if_pos (by unfold rBad; omega)]; first | done | rfl) | (rw [if_neg (by unfold rBad; omega)]; first | done | rfl))))⟩, ⟨(rfl : toAV (Al.look _ _) = some _).trans (congrArg some (by (simp only [decide_eq_true_eq, qb, bne_iff_ne, ne_eq, beq_iff_eq, qd, qe] at *; simp only [iv, uv, Rg.av, ofR, ofC, rOfA, rOfB, rOfC]; first | (rw [if_pos (by unfold xM; omega)]; first | done | rfl) | (rw [if_neg (by unfold xM; omega)]; first | done | rfl) | (rw [if_pos (by unfold rBad; omega)]; first | done | rfl) | (rw [if_neg (by unfold rBad; omega)]; first | done | rfl)))), rfl⟩, trivial⟩
      · refine zY ?_
        refine zA <| zD <| zB <| g_u (zC rfl rfl) <| g_u (zC rfl rfl) <| g_u (zC rfl rfl) <| g_u (yG rfl rfl rfl) <| g_u (y_ rfl tU105 us105 pl105 rfl rfl rfl rfl) <| g_u (zK rfl rfl rfl tS105 rfl rfl) <| g_u (zE rfl rfl) <| zI <| zA <| zL ?_
        exact ⟨⟨_, _, _, _, _, _, _, rfl, rfl, tA105, tS105, rfl, rfl, (rfl : toAV _ = some _).trans (congrArg some (by (simp only [decide_eq_true_eq, qb, bne_iff_ne, ne_eq, beq_iff_eq, qd, qe] at *; simp only [iv, uv, Rg.av, ofR, ofC, rOfA, rOfB, rOfC]; first | (rw [if_pos (by unfold xM; omega)]; first | done | rfl) | (rw [if_neg (by unfold xM; omega)]; first | done | rfl) | (rw [if_pos (by unfold rBad; omega)]; first | done | rfl) | (rw [if_neg (by unfold rBad; omega)]; first | done | rfl))))⟩, ⟨(rfl : toAV (Al.look _ _) = some _).trans (congrArg some (by (simp only [decide_eq_true_eq, qb, bne_iff_ne, ne_eq, beq_iff_eq, qd, qe] at *; simp only [iv, uv, Rg.av, ofR, ofC, rOfA, rOfB, rOfC]; first | (rw [if_pos (by unfold xM; omega)]; first | done | rfl) | (rw [if_neg (by unfold xM; omega)]; first | done | rfl) | (rw [if_pos (by unfold rBad; omega)]; first | done | rfl) | (rw [if_neg (by unfold rBad; omega)]; first | done | rfl)))), rfl⟩, trivial⟩
theorem rof_c (b l : Int) : zo Tryz.prog Γ0 126 [iv b, iv l] [uv (rOfA b l), uv (rOfB b l), iv (rOfC b l)] := by
  refine z_ Tryz.func126 rfl Tryz.ntmps126 (by kernel_rfl) rfl fun w0 I0 G0 => ?_
  refine zD <| zB <| g_u (zE rfl rfl) <| g_u (zE rfl rfl) <| g_u (zE rfl rfl) <| zI <| zA <| zD <| zB <| g_u (zC rfl rfl) <| g_u (xu (rnano_c _) rfl rfl) <| g_u (y8 rfl rfl) <| g_u (zj rfl rfl rfl rfl) <| g_u (zj rfl rfl rfl rfl) <| g_u (zE rfl rfl) <| g_u (zE rfl rfl) <| zI <| zA <| zD <| zB <| g_u (zC rfl rfl) <| g_u (xu (rnano_c _) rfl rfl) <| g_u (y8 rfl rfl) <| g_u (zj rfl rfl rfl rfl) <| g_u (zj rfl rfl rfl rfl) <| g_u (zE rfl rfl) <| g_u (zE rfl rfl) <| zI <| zA <| zD <| zD <| zB <| g_u (zC rfl rfl) <| g_u (wM rfl rfl rfl) <| g_u (zC rfl rfl) <| z0 (t := 23) rfl ?_
  rintro (hb1 | hb1)
  · rw [hb1]
    refine zH rfl rfl rfl <| zH rfl rfl rfl <| g_u (zQ rfl rfl rfl) <| g_u (zC rfl rfl) <| zH rfl rfl rfl <| zH rfl rfl rfl <| zH rfl rfl rfl <| zH rfl rfl rfl <| g_u (zQ rfl rfl rfl) <| zI <| zA <| zg rfl <| zD <| zB <| g_u (zE rfl rfl) <| g_u (zE rfl rfl) <| g_u (zE rfl rfl) <| zI <| zA <| zL <| zM ?_
    exact ⟨⟨(rfl : toAV (Al.look _ _) = some _).trans (congrArg some (by (simp only [decide_eq_true_eq, qb, bne_iff_ne, ne_eq, beq_iff_eq, qd, qe] at *; simp only [iv, uv, Rg.av, ofR, ofC, rOfA, rOfB, rOfC]; first | (rw [if_pos (by unfold xM; omega)]; first | done | rfl) | (rw [if_neg (by unfold xM; omega)]; first | done | rfl) | (rw [if_pos (by unfold rBad; omega)]; first | done | rfl) | (rw [if_neg (by unfold rBad; omega)]; first | done | rfl)))), rfl⟩, ⟨(rfl : toAV (Al.look _ _) = some _).trans (congrArg some (by (simp only [decide_eq_true_eq, qb, bne_iff_ne, ne_eq, beq_iff_eq, qd, qe] at *; simp only [iv, uv, Rg.av, ofR, ofC, rOfA, rOfB, rOfC]; first | (rw [if_pos (by unfold xM; omega)]; first | done | rfl) | (rw [if_neg (by unfold xM; omega)]; first | done | rfl) | (rw [if_pos (by unfold rBad; omega)]; first | done | rfl) | (rw [if_neg (by unfold rBad; omega)]; first | done | rfl)))), rfl⟩, ⟨(rfl : toAV (Al.look _ _) = some _).trans (congrArg some (by (simp only [decide_eq_true_eq, qb, bne_iff_ne, ne_eq, beq_iff_eq, qd, qe] at *; simp only [iv, uv, Rg.av, ofR, ofC, rOfA, rOfB, rOfC]; first | (rw [if_pos (by unfold xM; omega)]; first | done | rfl) | (rw [if_neg (by unfold xM; omega)]; first | done | rfl) | (rw [if_pos (by unfold rBad; omega)]; first | done | rfl) | (rw [if_neg (by unfold rBad; omega)]; first | done | rfl)))), rfl⟩, trivial⟩
  · rw [hb1]
    refine zN rfl rfl (zC rfl rfl) <| zN rfl rfl (wM rfl rfl rfl) <| g_u (zh rfl rfl rfl) <| g_u (zC rfl rfl) <| z0 (t := 27) rfl ?_
    rintro (hb2 | hb2)
    · rw [hb2]
      refine zH rfl rfl rfl <| zH rfl rfl rfl <| zH rfl rfl rfl <| zH rfl rfl rfl <| g_u (zQ rfl rfl rfl) <| zI <| zA <| zg rfl <| zD <| zB <| g_u (zE rfl rfl) <| g_u (zE rfl rfl) <| g_u (zE rfl rfl) <| zI <| zA <| zL <| zM ?_
      exact ⟨⟨(rfl : toAV (Al.look _ _) = some _).trans (congrArg some (by (simp only [decide_eq_true_eq, qb, bne_iff_ne, ne_eq, beq_iff_eq, qd, qe] at *; simp only [iv, uv, Rg.av, ofR, ofC, rOfA, rOfB, rOfC]; first | (rw [if_pos (by unfold xM; omega)]; first | done | rfl) | (rw [if_neg (by unfold xM; omega)]; first | done | rfl) | (rw [if_pos (by unfold rBad; omega)]; first | done | rfl) | (rw [if_neg (by unfold rBad; omega)]; first | done | rfl)))), rfl⟩, ⟨(rfl : toAV (Al.look _ _) = some _).trans (congrArg some (by (simp only [decide_eq_true_eq, qb, bne_iff_ne, ne_eq, beq_iff_eq, qd, qe] at *; simp only [iv, uv, Rg.av, ofR, ofC, rOfA, rOfB, rOfC]; first | (rw [if_pos (by unfold xM; omega)]; first | done | rfl) | (rw [if_neg (by unfold xM; omega)]; first | done | rfl) | (rw [if_pos (by unfold rBad; omega)]; first | done | rfl) | (rw [if_neg (by unfold rBad; omega)]; first | done | rfl)))), rfl⟩, ⟨(rfl : toAV (Al.look _ _) = some _).trans (congrArg some (by (simp only [decide_eq_true_eq, qb, bne_iff_ne, ne_eq, beq_iff_eq, qd, qe] at *; simp only [iv, uv, Rg.av, ofR, ofC, rOfA, rOfB, rOfC]; first | (rw [if_pos (by unfold xM; omega)]; first | done | rfl) | (rw [if_neg (by unfold xM; omega)]; first | done | rfl) | (rw [if_pos (by unfold rBad; omega)]; first | done | rfl) | (rw [if_neg (by unfold rBad; omega)]; first | done | rfl)))), rfl⟩, trivial⟩
    · rw [hb2]
      refine zN rfl rfl (zC rfl rfl) <| zN rfl rfl (zC rfl rfl) <| zN rfl rfl (s_sub rfl rfl rfl) <| zN rfl rfl (s_gtI rfl rfl rfl) <| g_u (zh rfl rfl rfl) <| zI <| zA ?_
      refine zW rfl (fun hb3 => ?_) (fun hb3 => ?_)
      · refine zD ?_
        refine zB <| g_u (zE rfl rfl) <| g_u (zE rfl rfl) <| g_u (zE rfl rfl) <| zI <| zA <| zL <| zM ?_
        exact ⟨⟨(rfl : toAV (Al.look _ _) = some _).trans (congrArg some (by (simp only [decide_eq_true_eq, qb, bne_iff_ne, ne_eq, beq_iff_eq, qd, qe] at *; simp only [iv, uv, Rg.av, ofR, ofC, rOfA, rOfB, rOfC]; first | (rw [if_pos (by unfold xM; omega)]; first | done | rfl) | (rw [if_neg (by unfold xM; omega)]; first | done | rfl) | (rw [if_pos (by unfold rBad; omega)]; first | done | rfl) | (rw [if_neg (by unfold rBad; omega)]; first | done | rfl)))), rfl⟩, ⟨(rfl : toAV (Al.look _ _) = some _).trans (congrArg some (by (simp only [decide_eq_true_eq, qb, bne_iff_ne, ne_eq, beq_iff_eq, qd, qe] at *; simp only [iv, uv, Rg.av, ofR, ofC, rOfA, rOfB, rOfC]; first | (rw [if_pos (by unfold xM; omega)]; first | done | rfl) | (rw [if_neg (by unfold xM; omega)]; first | done | rfl) | (rw [if_pos (by unfold rBad; omega)]; first | done | rfl) | (rw [if_neg (by unfold rBad; omega)]; first | done | rfl)))), rfl⟩, ⟨(rfl : toAV (Al.look _ _) = some _).trans (congrArg some (by (simp only [decide_eq_true_eq, qb, bne_iff_ne, ne_eq, beq_iff_eq, qd, qe] at *; simp only [iv, uv, Rg.av, ofR, ofC, rOfA, rOfB, rOfC]; first | (rw [if_pos (by unfold xM; omega)]; first | done | rfl) | (rw [if_neg (by unfold xM; omega)]; first | done | rfl) | (rw [if_pos (by unfold rBad; omega)]; first | done | rfl) | (rw [if_neg (by unfold rBad; omega)]; first | done | rfl)))), rfl⟩, trivial⟩
      · refine zY ?_
        refine zA <| zD <| zB <| g_u (zC rfl rfl) <| g_u (zC rfl rfl) <| g_u (zC rfl rfl) <| g_u (yG rfl rfl rfl) <| g_u (zE rfl rfl) <| g_u (zE rfl rfl) <| g_u (zE rfl rfl) <| zI <| zA <| zL ?_
        exact ⟨⟨(rfl : toAV (Al.look _ _) = some _).trans (congrArg some (by (simp only [decide_eq_true_eq, qb, bne_iff_ne, ne_eq, beq_iff_eq, qd, qe] at *; simp only [iv, uv, Rg.av, ofR, ofC, rOfA, rOfB, rOfC]; first | (rw [if_pos (by unfold xM; omega)]; first | done | rfl) | (rw [if_neg (by unfold xM; omega)]; first | done | rfl) | (rw [if_pos (by unfold rBad; omega)]; first | done | rfl) | (rw [if_neg (by unfold rBad; omega)]; first | done | rfl)))), rfl⟩, ⟨(rfl : toAV (Al.look _ _) = some _).trans (congrArg some (by (simp only [decide_eq_true_eq, qb, bne_iff_ne, ne_eq, beq_iff_eq, qd, qe] at *; simp only [iv, uv, Rg.av, ofR, ofC, rOfA, rOfB, rOfC]; first | (rw [if_pos (by unfold xM; omega)]; first | done | rfl) | (rw [if_neg (by unfold xM; omega)]; first | done | rfl) | (rw [if_pos (by unfold rBad; omega)]; first | done | rfl) | (rw [if_neg (by unfold rBad; omega)]; first | done | rfl)))), rfl⟩, ⟨(rfl : toAV (Al.look _ _) = some _).trans (congrArg some (by (simp only [decide_eq_true_eq, qb, bne_iff_ne, ne_eq, beq_iff_eq, qd, qe] at *; simp only [iv, uv, Rg.av, ofR, ofC, rOfA, rOfB, rOfC]; first | (rw [if_pos (by unfold xM; omega)]; first | done | rfl) | (rw [if_neg (by unfold xM; omega)]; first | done | rfl) | (rw [if_pos (by unfold rBad; omega)]; first | done | rfl) | (rw [if_neg (by unfold rBad; omega)]; first | done | rfl)))), rfl⟩, trivial⟩
theorem whole_c (r : Rg) : zo Tryz.prog Γ0 50 [r.av] [(xH r).av] := by
  refine z_ Tryz.func50 rfl Tryz.ntmps50 (by kernel_rfl) rfl fun w0 I0 G0 => ?_
  refine zD <| zB <| g_uG (zi 1001 rfl rfl rfl rfl) rfl <| g_uG (zl 1002 rfl rfl rfl tZ105) rfl <| zI <| zA <| zD <| yE yt <| g_u (zG rfl rfl rfl tA105 tS105 rfl rfl) <| g_u (zP (Begun_c _) rfl rfl) <| g_u (zG rfl rfl rfl tA105 tS105 rfl rfl) <| g_u (zP (Lasts_c _) rfl rfl) <| g_u (xu (of_c _ _) rfl rfl) <| g_u (y8 rfl rfl) <| g_u (zj rfl rfl rfl rfl) <| g_u (zj rfl rfl rfl rfl) <| g_uG (zl 1003 rfl rfl rfl tZ105) rfl <| g_u (zK rfl rfl rfl tS105 rfl rfl) <| g_u (zE rfl rfl) ?_
  refine zI ⟨by kernel_rfl, ?_⟩
  refine zA <| zD <| zB <| g_u (zk rfl rfl rfl tA105 tS105 rfl rfl) <| g_u (zK rfl rfl rfl tS105 rfl rfl) <| zI <| zA <| zL ?_
  exact ⟨⟨_, _, _, _, _, _, _, rfl, rfl, tA105, tS105, rfl, rfl, (rfl : toAV _ = some _).trans (congrArg some (by rfl))⟩, trivial⟩
attribute [local irreducible] xH ofR
theorem rfine_c (s e : Int) : zo Tryz.prog Γ0 110 [uv s, uv e] [bv (rFine s e)] := by
  refine z_ Tryz.func110 rfl Tryz.ntmps110 (by kernel_rfl) rfl fun w0 I0 G0 => ?_
  refine zD <| zB <| g_u (zE rfl rfl) <| zI <| zA <| zD <| zB <| g_u (zC rfl rfl) <| g_u (zC rfl rfl) <| g_u (s_leI rfl rfl rfl) <| g_u (zC rfl rfl) <| z0 (t := 8) rfl ?_
  rintro (hb1 | hb1)
  · rw [hb1]
    refine zN rfl rfl (zC rfl rfl) <| zN rfl rfl (s_leI rfl rfl rfl) <| g_u (zQ rfl rfl rfl) <| g_u (zE rfl rfl) <| zI <| zA <| zL ?_
    exact ⟨⟨(rfl : toAV (Al.look _ _) = some _).trans (congrArg some (by (simp only [bv, rFine, *]; rfl))), rfl⟩, trivial⟩
  · rw [hb1]
    refine zH rfl rfl rfl <| zH rfl rfl rfl <| g_u (zh rfl rfl rfl) <| g_u (zE rfl rfl) <| zI <| zA <| zL ?_
    exact ⟨⟨(rfl : toAV (Al.look _ _) = some _).trans (congrArg some (by (simp only [bv, rFine, *]; rfl))), rfl⟩, trivial⟩
theorem rbegun_c (s e : Int) : zo Tryz.prog Γ0 91 [uv s, uv e] [iv (rBegun s e)] := by
  refine z_ Tryz.func91 rfl Tryz.ntmps91 (by kernel_rfl) rfl fun w0 I0 G0 => ?_
  refine zD <| zB <| g_u (zE rfl rfl) <| zI <| zA <| zD <| zD <| zB <| g_u (zC rfl rfl) <| g_u (zC rfl rfl) <| g_u (zP (rfine_c _ _) rfl rfl) <| g_u (wZ rfl rfl) <| zI <| zA ?_
  refine zW rfl (fun hb1 => ?_) (fun hb1 => ?_)
  · refine zD ?_
    refine zB <| g_u (zE rfl rfl) <| zI <| zA <| zL <| zM ?_
    exact ⟨⟨(rfl : toAV (Al.look _ _) = some _).trans (congrArg some (by (simp only [iv, rBegun, rLasts]; simp only [Bool.not_eq_true', Bool.not_eq_false'] at *; simp only [*]; rfl))), rfl⟩, trivial⟩
  · refine zY ?_
    refine zA <| zD <| zB <| g_u (zC rfl rfl) <| g_u (zP (rmicro_c _) rfl rfl) <| g_u (zE rfl rfl) <| zI <| zA <| zL ?_
    exact ⟨⟨(rfl : toAV (Al.look _ _) = some _).trans (congrArg some (by (simp only [iv, rBegun, rLasts]; simp only [Bool.not_eq_true', Bool.not_eq_false'] at *; simp only [*]; rfl))), rfl⟩, trivial⟩
theorem rlasts_c (s e : Int) : zo Tryz.prog Γ0 92 [uv s, uv e] [iv (rLasts s e)] := by
  refine z_ Tryz.func92 rfl Tryz.ntmps92 (by kernel_rfl) rfl fun w0 I0 G0 => ?_
  refine zD <| zB <| g_u (zE rfl rfl) <| zI <| zA <| zD <| zD <| zB <| g_u (zC rfl rfl) <| g_u (zC rfl rfl) <| g_u (zP (rfine_c _ _) rfl rfl) <| g_u (wZ rfl rfl) <| zI <| zA ?_
  refine zW rfl (fun hb1 => ?_) (fun hb1 => ?_)
  · refine zD ?_
    refine zB <| g_u (zE rfl rfl) <| zI <| zA <| zL <| zM ?_
    exact ⟨⟨(rfl : toAV (Al.look _ _) = some _).trans (congrArg some (by (simp only [iv, rBegun, rLasts]; simp only [Bool.not_eq_true', Bool.not_eq_false'] at *; simp only [*]; rfl))), rfl⟩, trivial⟩
  · refine zY ?_
    refine zA <| zD <| zB <| g_u (zC rfl rfl) <| g_u (zC rfl rfl) <| g_u (s_sub rfl rfl rfl) <| g_u (zP (rmicro_c _) rfl rfl) <| g_u (zE rfl rfl) <| zI <| zA <| zL ?_
    exact ⟨⟨(rfl : toAV (Al.look _ _) = some _).trans (congrArg some (by (simp only [iv, rBegun, rLasts]; simp only [Bool.not_eq_true', Bool.not_eq_false'] at *; simp only [*]; rfl))), rfl⟩, trivial⟩
theorem rwhole_c (s e : Int) : zo Tryz.prog Γ0 95 [uv s, uv e] [uv (rOfA (rBegun s e) (rLasts s e)), uv (rOfB (rBegun s e) (rLasts s e))] := by
  refine z_ Tryz.func95 rfl Tryz.ntmps95 (by kernel_rfl) rfl fun w0 I0 G0 => ?_
  refine zD <| zB <| g_u (zE rfl rfl) <| g_u (zE rfl rfl) <| zI <| zA <| zD <| zB <| g_u (zC rfl rfl) <| g_u (zC rfl rfl) <| g_u (zP (rbegun_c _ _) rfl rfl) <| g_u (zC rfl rfl) <| g_u (zC rfl rfl) <| g_u (zP (rlasts_c _ _) rfl rfl) <| g_u (s_call3 (rof_c _ _) rfl rfl) <| g_u (y8 rfl rfl) <| g_u (zj rfl rfl rfl rfl) <| g_u (zj rfl rfl rfl rfl) <| g_u (zj rfl rfl rfl rfl) <| g_u (zE rfl rfl) <| g_u (zE rfl rfl) <| g_u (zE rfl rfl) <| zI <| zA <| zD <| zB <| g_u (zC rfl rfl) <| g_u (zC rfl rfl) <| g_u (zE rfl rfl) <| g_u (zE rfl rfl) <| zI <| zA <| zL ?_
  exact ⟨⟨(rfl : toAV (Al.look _ _) = some _).trans (congrArg some (by rfl)), rfl⟩, ⟨(rfl : toAV (Al.look _ _) = some _).trans (congrArg some (by rfl)), rfl⟩, trivial⟩
end Go.Proofs
