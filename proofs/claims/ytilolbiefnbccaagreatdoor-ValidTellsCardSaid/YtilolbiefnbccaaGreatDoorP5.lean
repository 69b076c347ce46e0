/- Texts that the proofs of this claim share, part 5: the abstract logic, plain Lean on values and batches, and walks. No condition but those typed in each lemma. -/
import Derived.Test.YtilolbiefnbccaaGreatDoorP4
set_option linter.unusedSimpArgs false
set_option linter.unusedVariables false
set_option maxHeartbeats 400000
namespace Go.Proofs
open Go Go.Al
set_option maxRecDepth 10000
set_option maxHeartbeats 4000000 in
theorem leftS_c (s : GSpan) (n : Int) (hn : -1000000000000 ≤ n ∧ n ≤ 1000000000) : zn Tryz.prog Γ0 24 [s.av, iv n] [iv (leftS s n)] := by
  refine zZ Tryz.func24 rfl Tryz.ntmps24 (by kernel_rfl) rfl fun w0 I0 G0 => ?_
  refine zE <| zB <| g_uG (zp 1002 rfl rfl rfl rfl) rfl <| g_u (zD rfl rfl) <| zF <| zA <| zE <| zE <| zB <| g_u (zC rfl rfl) <| g_u (yO rfl rfl rfl) <| g_u (zC rfl rfl) <| z6 (t := 9) rfl ?_
  rintro (hb1 | hb1)
  · rw [hb1]
    have z1 : n < 0 := of_decide_eq_true hb1
    refine zM rfl rfl rfl <| zM rfl rfl rfl <| zM rfl rfl rfl <| zM rfl rfl rfl <| zM rfl rfl rfl <| g_u (zi rfl rfl rfl) <| g_u (zC rfl rfl) <| zM rfl rfl rfl <| zM rfl rfl rfl <| zM rfl rfl rfl <| zM rfl rfl rfl <| zM rfl rfl rfl <| g_u (zi rfl rfl rfl) <| g_u (zC rfl rfl) <| zM rfl rfl rfl <| zM rfl rfl rfl <| zM rfl rfl rfl <| zM rfl rfl rfl <| zM rfl rfl rfl <| zM rfl rfl rfl <| g_u (zi rfl rfl rfl) <| zF <| zA <| zu rfl <| zE <| zB <| g_u (zD rfl rfl) <| zF <| zA <| zK <| zJ ?_
    exact ⟨⟨(rfl : toAV (Al.look _ _) = some _).trans (congrArg some (by (exact congrArg iv (by unfold leftS; first | (rw [if_pos (by omega)]; done) | (rw [if_neg (by omega), g4, gfin]; done) | (rw [if_neg (by omega), g4, xw hi2 (by omega) hk2]; done) | (rw [if_neg (by omega), h4, xz hi (by omega) hk]; exact (xG _ (by omega)).symm))))), rfl⟩, trivial⟩
  · rw [hb1]
    have z1 : ¬ n < 0 := of_decide_eq_false hb1
    refine zX rfl rfl (zG rfl rfl fa52_3 rfl) <| zX rfl rfl (zH rfl rfl rfl tA9 tS9 rfl rfl) <| zX rfl rfl (yR rfl rfl Tryz.underlying9) <| zX rfl rfl (zC rfl rfl) <| zX rfl rfl (xA rfl rfl rfl) <| g_u (zj rfl rfl rfl) <| g_u (zC rfl rfl) <| z6 (t := 16) rfl ?_
    rintro (hb2 | hb2)
    · rw [hb2]
      have z2 : (s.state.size : Int) > n := of_decide_eq_true hb2
      refine zM rfl rfl rfl <| zM rfl rfl rfl <| zM rfl rfl rfl <| zM rfl rfl rfl <| zM rfl rfl rfl <| g_u (zi rfl rfl rfl) <| g_u (zC rfl rfl) <| zM rfl rfl rfl <| zM rfl rfl rfl <| zM rfl rfl rfl <| zM rfl rfl rfl <| zM rfl rfl rfl <| zM rfl rfl rfl <| g_u (zi rfl rfl rfl) <| zF <| zA <| zu rfl <| zE <| zB <| g_u (zD rfl rfl) <| zF <| zA <| zK <| zJ ?_
      exact ⟨⟨(rfl : toAV (Al.look _ _) = some _).trans (congrArg some (by (exact congrArg iv (by unfold leftS; first | (rw [if_pos (by omega)]; done) | (rw [if_neg (by omega), g4, gfin]; done) | (rw [if_neg (by omega), g4, xw hi2 (by omega) hk2]; done) | (rw [if_neg (by omega), h4, xz hi (by omega) hk]; exact (xG _ (by omega)).symm))))), rfl⟩, trivial⟩
    · rw [hb2]
      have z2 : ¬ (s.state.size : Int) > n := of_decide_eq_false hb2
      refine zX rfl rfl (zG rfl rfl fa52_4 rfl) <| zX rfl rfl (zH rfl rfl rfl tA9 tS9 rfl rfl) <| zX rfl rfl (yR rfl rfl Tryz.underlying9) <| zX rfl rfl (zC rfl rfl) <| zX rfl rfl (xA rfl rfl rfl) <| g_u (zj rfl rfl rfl) <| g_u (zC rfl rfl) <| z6 (t := 23) rfl ?_
      rintro (hb3 | hb3)
      · rw [hb3]
        have z3 : (s.name.size : Int) > n := of_decide_eq_true hb3
        refine zM rfl rfl rfl <| zM rfl rfl rfl <| zM rfl rfl rfl <| zM rfl rfl rfl <| zM rfl rfl rfl <| zM rfl rfl rfl <| g_u (zi rfl rfl rfl) <| zF <| zA <| zu rfl <| zE <| zB <| g_u (zD rfl rfl) <| zF <| zA <| zK <| zJ ?_
        exact ⟨⟨(rfl : toAV (Al.look _ _) = some _).trans (congrArg some (by (exact congrArg iv (by unfold leftS; first | (rw [if_pos (by omega)]; done) | (rw [if_neg (by omega), g4, gfin]; done) | (rw [if_neg (by omega), g4, xw hi2 (by omega) hk2]; done) | (rw [if_neg (by omega), h4, xz hi (by omega) hk]; exact (xG _ (by omega)).symm))))), rfl⟩, trivial⟩
      · rw [hb3]
        have z3 : ¬ (s.name.size : Int) > n := of_decide_eq_false hb3
        refine zX rfl rfl (zG rfl rfl fa52_11 rfl) <| zX rfl rfl (zG rfl rfl fa50_1 rfl) <| zX rfl rfl (zH rfl rfl rfl tA9 tS9 rfl rfl) <| zX rfl rfl (yR rfl rfl Tryz.underlying9) <| zX rfl rfl (zC rfl rfl) <| zX rfl rfl (xA rfl rfl rfl) <| g_u (zj rfl rfl rfl) <| zF <| zA ?_
        refine zL rfl (fun hb4 => ?_) (fun hb4 => ?_)
        · have z4 : (s.note.size : Int) > n := of_decide_eq_true hb4
          refine zE <| zB <| g_u (zD rfl rfl) <| zF <| zA <| zK <| zJ ?_
          exact ⟨⟨(rfl : toAV (Al.look _ _) = some _).trans (congrArg some (by (exact congrArg iv (by unfold leftS; first | (rw [if_pos (by omega)]; done) | (rw [if_neg (by omega), g4, gfin]; done) | (rw [if_neg (by omega), g4, xw hi2 (by omega) hk2]; done) | (rw [if_neg (by omega), h4, xz hi (by omega) hk]; exact (xG _ (by omega)).symm))))), rfl⟩, trivial⟩
        · have z4 : ¬ (s.note.size : Int) > n := of_decide_eq_false hb4
          have bm := wF s.attrs (n - 1 - s.state.size - s.name.size - s.note.size)
          have ew : yK s.attrs (IntKind.i64.wrap (IntKind.i64.wrap (IntKind.i64.wrap (IntKind.i64.wrap (n - 1) - s.state.size) - s.name.size) - s.note.size)) = yK s.attrs (n - 1 - s.state.size - s.name.size - s.note.size) := by rw [zO (n := n - 1) (by omega) (by omega), zO (n := n - 1 - s.state.size) (by omega) (by omega), zO (n := n - 1 - s.state.size - s.name.size) (by omega) (by omega), zO (by omega) (by omega)]
          refine zN <| zA <| zE <| zB <| g_u (zG rfl rfl fa52_8 rfl) <| g_u (zH rfl rfl rfl tA46 tS46 rfl rfl) <| g_u (zC rfl rfl) <| g_u (vK rfl rfl rfl) <| g_u (zG rfl rfl fa52_3 rfl) <| g_u (zH rfl rfl rfl tA9 tS9 rfl rfl) <| g_u (yR rfl rfl Tryz.underlying9) <| g_u (vK rfl rfl rfl) <| g_u (zG rfl rfl fa52_4 rfl) <| g_u (zH rfl rfl rfl tA9 tS9 rfl rfl) <| g_u (yR rfl rfl Tryz.underlying9) <| g_u (vK rfl rfl rfl) <| g_u (zG rfl rfl fa52_11 rfl) <| g_u (zG rfl rfl fa50_1 rfl) <| g_u (zH rfl rfl rfl tA9 tS9 rfl rfl) <| g_u (yR rfl rfl Tryz.underlying9) <| g_u (vK rfl rfl rfl) ?_
          refine g_u (zQ (leftAs_c _ _ ⟨by ((try simp only [decide_eq_true_eq, decide_eq_false_iff_not, qc, ne_eq, beq_iff_eq, qd, beq_eq_false_iff_ne, Bool.not_eq_true', Bool.not_eq_false', gt_iff_lt, ge_iff_le] at *); (repeat simp (disch := omega) only [zO, z_] at *)); omega, by ((try simp only [decide_eq_true_eq, decide_eq_false_iff_not, qc, ne_eq, beq_iff_eq, qd, beq_eq_false_iff_ne, Bool.not_eq_true', Bool.not_eq_false', gt_iff_lt, ge_iff_le] at *); (repeat simp (disch := omega) only [zO, z_] at *)); omega⟩) rfl rfl) ?_
          refine g_u (zD rfl rfl) <| zF <| zA <| zE <| zE <| zB <| g_u (zD rfl rfl) <| zF <| zA <| zS ?_
          refine zr (fun j : Nat × Int => [(2, .ptr 1002 0), (1002, .box 52 (.imm s.av)), (1, .imm (iv j.2)), (5, .imm (iv (j.1 : Int)))]) (fun j => j.1 ≤ s.events.length ∧ (-1000000000000 ≤ j.2 ∧ j.2 ≤ 1000000000) ∧ ((j.1 : Int) ≤ yK s.attrs (n - 1 - s.state.size - s.name.size - s.note.size) - j.2) ∧ leftE s.events (yK s.attrs (n - 1 - s.state.size - s.name.size - s.note.size)) = leftE (s.events.drop j.1) j.2) (fun j => s.events.length - j.1) (⟨0, yK s.attrs (n - 1 - s.state.size - s.name.size - s.note.size)⟩) ?_ ⟨rfl, rfl, zW rfl (by rw [ew]), rfl, trivial⟩ ?_
          · exact ⟨Nat.zero_le _, ⟨by have := bm.2.1; omega, by omega⟩, by simp, rfl⟩
          · rintro ⟨i, m⟩ ⟨h1, h2, h3, h4⟩; dsimp only at h1 h2 h3 h4
            refine zE <| zE <| zB <| g_u (zC rfl rfl) <| g_u (zG rfl rfl fa52_9 rfl) <| g_u (zH rfl rfl rfl tA47 tS47 rfl rfl) <| g_u (yB rfl rfl Tryz.underlying47) <| g_u (yO rfl rfl rfl) <| g_u (zC rfl rfl) <| z6 (t := 54) rfl ?_
            rintro (hb5 | hb5)
            · rw [hb5]
              have hi : i < s.events.length := by have := of_decide_eq_true hb5; (try simp only [List.length_map] at this); omega
              refine zX rfl rfl (zC rfl rfl) <| zX rfl rfl (s_geI rfl rfl rfl) <| g_u (zi rfl rfl rfl) <| zF <| zA ?_
              refine zL rfl (fun hb6 => ?_) (fun hb6 => ?_)
              · have hs : ¬ m < 0 := by have := of_decide_eq_true hb6; omega
                refine zN <| zA <| zE <| zS <| zE <| zE <| zB <| g_u (zG rfl rfl fa52_9 rfl) <| g_u (zH rfl rfl rfl tA47 tS47 rfl rfl) <| g_u (zC rfl rfl) ?_
                refine g_u (za rfl rfl rfl Tryz.underlying47 tS95 (by omega) (ixE hi)) ?_
                refine g_u (zR rfl rfl fa95_1 rfl rfl) <| g_u (zY rfl rfl tA9 tS9 rfl rfl) <| g_u (yR rfl rfl Tryz.underlying9) <| g_u (zC rfl rfl) <| g_u (xA rfl rfl rfl) <| zF <| zA ?_
                refine zL rfl (fun hb7 => ?_) (fun hb7 => ?_)
                · have hk : ((nthE s.events i).name.size : Int) > m := of_decide_eq_true hb7
                  refine zE <| zB <| g_u (zD rfl rfl) <| zF <| zA <| zK <| zJ <| zf <| zJ <| zJ <| zf <| zJ ?_
                  exact ⟨⟨(rfl : toAV (Al.look _ _) = some _).trans (congrArg some (by (exact congrArg iv (by unfold leftS; first | (rw [if_pos (by omega)]; done) | (rw [if_neg (by omega), g4, gfin]; done) | (rw [if_neg (by omega), g4, xw hi2 (by omega) hk2]; done) | (rw [if_neg (by omega), h4, xz hi (by omega) hk]; exact (xG _ (by omega)).symm))))), rfl⟩, trivial⟩
                · have hk : ¬ ((nthE s.events i).name.size : Int) > m := of_decide_eq_false hb7
                  refine zN <| zA <| yZ xr <| g_u (zG rfl rfl fa52_9 rfl) <| g_u (zH rfl rfl rfl tA47 tS47 rfl rfl) <| g_u (zC rfl rfl) ?_
                  refine g_u (za rfl rfl rfl Tryz.underlying47 tS95 (by omega) (ixE hi)) ?_
                  refine g_u (zR rfl rfl fa95_2 rfl rfl) <| g_u (zY rfl rfl tA46 tS46 rfl rfl) <| g_u (zC rfl rfl) <| g_u (vK rfl rfl rfl) <| g_u (zG rfl rfl fa52_9 rfl) <| g_u (zH rfl rfl rfl tA47 tS47 rfl rfl) <| g_u (zC rfl rfl) ?_
                  refine g_u (za rfl rfl rfl Tryz.underlying47 tS95 (by omega) (ixE hi)) ?_
                  refine g_u (zR rfl rfl fa95_1 rfl rfl) <| g_u (zY rfl rfl tA9 tS9 rfl rfl) <| g_u (yR rfl rfl Tryz.underlying9) <| g_u (vK rfl rfl rfl) ?_
                  refine g_u (zQ (leftAs_c _ _ ⟨by ((try simp only [decide_eq_true_eq, decide_eq_false_iff_not, qc, ne_eq, beq_iff_eq, qd, beq_eq_false_iff_ne, Bool.not_eq_true', Bool.not_eq_false', gt_iff_lt, ge_iff_le] at *); (repeat simp (disch := omega) only [zO, z_] at *)); omega, by ((try simp only [decide_eq_true_eq, decide_eq_false_iff_not, qc, ne_eq, beq_iff_eq, qd, beq_eq_false_iff_ne, Bool.not_eq_true', Bool.not_eq_false', gt_iff_lt, ge_iff_le] at *); (repeat simp (disch := omega) only [zO, z_] at *)); omega⟩) rfl rfl) ?_
                  refine g_u (zD rfl rfl) ?_
                  refine zF ⟨by kernel_rfl, ?_⟩
                  refine zP <| zA <| zB <| g_u (zC rfl rfl) <| g_u (zt rfl rfl rfl) <| g_u (zD rfl rfl) <| zF <| zA ?_
                  have ed := leftE_drop (m := m) hi (by omega) hk
                  have bl := wF (nthE s.events i).attrs (m - 1 - (nthE s.events i).name.size)
                  refine ⟨⟨i + 1, yK (nthE s.events i).attrs (m - 1 - (nthE s.events i).name.size)⟩, ⟨hi, ⟨by dsimp only; omega, by dsimp only; omega⟩, by dsimp only; omega, by dsimp only; rw [h4, ed]⟩, ⟨rfl, rfl, zW rfl (by dsimp only; rw [zO (n := m - 1) (by omega) (by omega), zO (by omega) (by omega)]), zW rfl (by rw [zO (by omega) (by omega)]; rfl), trivial⟩, by dsimp only; omega⟩
              · have hs : m < 0 := by have := of_decide_eq_false hb6; omega
                have hm : leftE s.events (yK s.attrs (n - 1 - s.state.size - s.name.size - s.note.size)) = m := by rw [h4]; exact leftE_neg _ hs
                refine zw <| zT <| zT <| zo <| zA <| zE <| zE <| zB <| g_u (zD rfl rfl) <| zF <| zA <| zS ?_
                refine zr (fun j : Nat × Int => [(2, .ptr 1002 0), (1002, .box 52 (.imm s.av)), (1, .imm (iv j.2)), (6, .imm (iv (j.1 : Int)))]) (fun j => j.1 ≤ s.links.length ∧ (-1000000000000 ≤ j.2 ∧ j.2 ≤ 1000000000) ∧ ((j.1 : Int) ≤ leftE s.events (yK s.attrs (n - 1 - s.state.size - s.name.size - s.note.size)) - j.2) ∧ leftL s.links (leftE s.events (yK s.attrs (n - 1 - s.state.size - s.name.size - s.note.size))) = leftL (s.links.drop j.1) j.2) (fun j => s.links.length - j.1) (⟨0, m⟩) ?_ ⟨rfl, rfl, rfl, rfl, trivial⟩ ?_
                · exact ⟨Nat.zero_le _, h2, by rw [hm]; simp, by rw [hm]; rfl⟩
                · rintro ⟨i2, m2⟩ ⟨g1, g2, g3, g4⟩; dsimp only at g1 g2 g3 g4
                  refine zE <| zE <| zB <| g_u (zC rfl rfl) <| g_u (zG rfl rfl ww rfl) <| g_u (zH rfl rfl rfl tA48 tS48 rfl rfl) <| g_u (yB rfl rfl Tryz.underlying48) <| g_u (yO rfl rfl rfl) <| g_u (zC rfl rfl) <| z6 (t := 91) rfl ?_
                  rintro (hb8 | hb8)
                  · rw [hb8]
                    have hi2 : i2 < s.links.length := by have := of_decide_eq_true hb8; (try simp only [List.length_map] at this); omega
                    refine zX rfl rfl (zC rfl rfl) <| zX rfl rfl (s_geI rfl rfl rfl) <| g_u (zi rfl rfl rfl) <| zF <| zA ?_
                    refine zL rfl (fun hb9 => ?_) (fun hb9 => ?_)
                    · have hs2 : ¬ m2 < 0 := by have := of_decide_eq_true hb9; omega
                      refine zN <| zA <| zE <| zS <| zE <| zE <| zB <| g_u (zG rfl rfl ww rfl) <| g_u (zH rfl rfl rfl tA48 tS48 rfl rfl) <| g_u (zC rfl rfl) ?_
                      refine g_u (za rfl rfl rfl Tryz.underlying48 tS107 (by omega) (ixL hi2)) ?_
                      refine g_u (zR rfl rfl fa107_2 rfl rfl) <| g_u (zY rfl rfl tA9 tS9 rfl rfl) <| g_u (yR rfl rfl Tryz.underlying9) <| g_u (zC rfl rfl) <| g_u (xA rfl rfl rfl) <| zF <| zA ?_
                      refine zL rfl (fun hb10 => ?_) (fun hb10 => ?_)
                      · have hk2 : ((nthL s.links i2).state.size : Int) > m2 := of_decide_eq_true hb10
                        refine zE <| zB <| g_u (zD rfl rfl) <| zF <| zA <| zK <| zJ <| zf <| zJ <| zJ <| zf <| zJ ?_
                        exact ⟨⟨(rfl : toAV (Al.look _ _) = some _).trans (congrArg some (by (exact congrArg iv (by unfold leftS; first | (rw [if_pos (by omega)]; done) | (rw [if_neg (by omega), g4, gfin]; done) | (rw [if_neg (by omega), g4, xw hi2 (by omega) hk2]; done) | (rw [if_neg (by omega), h4, xz hi (by omega) hk]; exact (xG _ (by omega)).symm))))), rfl⟩, trivial⟩
                      · have hk2 : ¬ ((nthL s.links i2).state.size : Int) > m2 := of_decide_eq_false hb10
                        refine zN <| zA <| yZ xr <| g_u (zG rfl rfl ww rfl) <| g_u (zH rfl rfl rfl tA48 tS48 rfl rfl) <| g_u (zC rfl rfl) ?_
                        refine g_u (za rfl rfl rfl Tryz.underlying48 tS107 (by omega) (ixL hi2)) ?_
                        refine g_u (zR rfl rfl fa107_3 rfl rfl) <| g_u (zY rfl rfl tA46 tS46 rfl rfl) <| g_u (zC rfl rfl) <| g_u (vK rfl rfl rfl) <| g_u (zG rfl rfl ww rfl) <| g_u (zH rfl rfl rfl tA48 tS48 rfl rfl) <| g_u (zC rfl rfl) ?_
                        refine g_u (za rfl rfl rfl Tryz.underlying48 tS107 (by omega) (ixL hi2)) ?_
                        refine g_u (zR rfl rfl fa107_2 rfl rfl) <| g_u (zY rfl rfl tA9 tS9 rfl rfl) <| g_u (yR rfl rfl Tryz.underlying9) <| g_u (vK rfl rfl rfl) ?_
                        refine g_u (zQ (leftAs_c _ _ ⟨by ((try simp only [decide_eq_true_eq, decide_eq_false_iff_not, qc, ne_eq, beq_iff_eq, qd, beq_eq_false_iff_ne, Bool.not_eq_true', Bool.not_eq_false', gt_iff_lt, ge_iff_le] at *); (repeat simp (disch := omega) only [zO, z_] at *)); omega, by ((try simp only [decide_eq_true_eq, decide_eq_false_iff_not, qc, ne_eq, beq_iff_eq, qd, beq_eq_false_iff_ne, Bool.not_eq_true', Bool.not_eq_false', gt_iff_lt, ge_iff_le] at *); (repeat simp (disch := omega) only [zO, z_] at *)); omega⟩) rfl rfl) ?_
                        refine g_u (zD rfl rfl) ?_
                        refine zF ⟨by kernel_rfl, ?_⟩
                        refine zP <| zA <| zB <| g_u (zC rfl rfl) <| g_u (zt rfl rfl rfl) <| g_u (zD rfl rfl) <| zF <| zA ?_
                        have ed := leftL_drop (m := m2) hi2 (by omega) hk2
                        have bl := wF (nthL s.links i2).attrs (m2 - 1 - (nthL s.links i2).state.size)
                        refine ⟨⟨i2 + 1, yK (nthL s.links i2).attrs (m2 - 1 - (nthL s.links i2).state.size)⟩, ⟨hi2, ⟨by dsimp only; omega, by dsimp only; omega⟩, by dsimp only; omega, by dsimp only; rw [g4, ed]⟩, ⟨rfl, rfl, zW rfl (by dsimp only; rw [zO (n := m2 - 1) (by omega) (by omega), zO (by omega) (by omega)]), zW rfl (by rw [zO (by omega) (by omega)]; rfl), trivial⟩, by dsimp only; omega⟩
                    · have hs2 : m2 < 0 := by have := of_decide_eq_false hb9; omega
                      have gfin : leftL (s.links.drop i2) m2 = m2 := xG _ hs2
                      refine zw <| zT <| zT <| zo <| zA <| zE <| zB <| g_u (zC rfl rfl) <| g_u (zD rfl rfl) <| zF <| zA <| zK ?_
                      exact ⟨⟨(rfl : toAV (Al.look _ _) = some _).trans (congrArg some (by (exact congrArg iv (by unfold leftS; first | (rw [if_pos (by omega)]; done) | (rw [if_neg (by omega), g4, gfin]; done) | (rw [if_neg (by omega), g4, xw hi2 (by omega) hk2]; done) | (rw [if_neg (by omega), h4, xz hi (by omega) hk]; exact (xG _ (by omega)).symm))))), rfl⟩, trivial⟩
                  · rw [hb8]
                    have hin2 : i2 = s.links.length := by have := of_decide_eq_false hb8; (try simp only [List.length_map] at this); omega
                    have gfin : leftL (s.links.drop i2) m2 = m2 := by rw [hin2, List.drop_length]; rfl
                    refine zM rfl rfl rfl <| zM rfl rfl rfl <| g_u (zj rfl rfl rfl) <| zF <| zA <| zh rfl <| zw <| zT <| zT <| zo <| zA <| zE <| zB <| g_u (zC rfl rfl) <| g_u (zD rfl rfl) <| zF <| zA <| zK ?_
                    exact ⟨⟨(rfl : toAV (Al.look _ _) = some _).trans (congrArg some (by (exact congrArg iv (by unfold leftS; first | (rw [if_pos (by omega)]; done) | (rw [if_neg (by omega), g4, gfin]; done) | (rw [if_neg (by omega), g4, xw hi2 (by omega) hk2]; done) | (rw [if_neg (by omega), h4, xz hi (by omega) hk]; exact (xG _ (by omega)).symm))))), rfl⟩, trivial⟩
            · rw [hb5]
              have hin : i = s.events.length := by have := of_decide_eq_false hb5; (try simp only [List.length_map] at this); omega
              have hm : leftE s.events (yK s.attrs (n - 1 - s.state.size - s.name.size - s.note.size)) = m := by rw [h4, hin, List.drop_length]; rfl
              refine zM rfl rfl rfl <| zM rfl rfl rfl <| g_u (zj rfl rfl rfl) <| zF <| zA <| zh rfl <| zw <| zT <| zT <| zo <| zA <| zE <| zE <| zB <| g_u (zD rfl rfl) <| zF <| zA <| zS ?_
              refine zr (fun j : Nat × Int => [(2, .ptr 1002 0), (1002, .box 52 (.imm s.av)), (1, .imm (iv j.2)), (6, .imm (iv (j.1 : Int)))]) (fun j => j.1 ≤ s.links.length ∧ (-1000000000000 ≤ j.2 ∧ j.2 ≤ 1000000000) ∧ ((j.1 : Int) ≤ leftE s.events (yK s.attrs (n - 1 - s.state.size - s.name.size - s.note.size)) - j.2) ∧ leftL s.links (leftE s.events (yK s.attrs (n - 1 - s.state.size - s.name.size - s.note.size))) = leftL (s.links.drop j.1) j.2) (fun j => s.links.length - j.1) (⟨0, m⟩) ?_ ⟨rfl, rfl, rfl, rfl, trivial⟩ ?_
              · exact ⟨Nat.zero_le _, h2, by rw [hm]; simp, by rw [hm]; rfl⟩
              · rintro ⟨i2, m2⟩ ⟨g1, g2, g3, g4⟩; dsimp only at g1 g2 g3 g4
                refine zE <| zE <| zB <| g_u (zC rfl rfl) <| g_u (zG rfl rfl ww rfl) <| g_u (zH rfl rfl rfl tA48 tS48 rfl rfl) <| g_u (yB rfl rfl Tryz.underlying48) <| g_u (yO rfl rfl rfl) <| g_u (zC rfl rfl) <| z6 (t := 91) rfl ?_
                rintro (hb11 | hb11)
                · rw [hb11]
                  have hi2 : i2 < s.links.length := by have := of_decide_eq_true hb11; (try simp only [List.length_map] at this); omega
                  refine zX rfl rfl (zC rfl rfl) <| zX rfl rfl (s_geI rfl rfl rfl) <| g_u (zi rfl rfl rfl) <| zF <| zA ?_
                  refine zL rfl (fun hb12 => ?_) (fun hb12 => ?_)
                  · have hs2 : ¬ m2 < 0 := by have := of_decide_eq_true hb12; omega
                    refine zN <| zA <| zE <| zS <| zE <| zE <| zB <| g_u (zG rfl rfl ww rfl) <| g_u (zH rfl rfl rfl tA48 tS48 rfl rfl) <| g_u (zC rfl rfl) ?_
                    refine g_u (za rfl rfl rfl Tryz.underlying48 tS107 (by omega) (ixL hi2)) ?_
                    refine g_u (zR rfl rfl fa107_2 rfl rfl) <| g_u (zY rfl rfl tA9 tS9 rfl rfl) <| g_u (yR rfl rfl Tryz.underlying9) <| g_u (zC rfl rfl) <| g_u (xA rfl rfl rfl) <| zF <| zA ?_
                    refine zL rfl (fun hb13 => ?_) (fun hb13 => ?_)
                    · have hk2 : ((nthL s.links i2).state.size : Int) > m2 := of_decide_eq_true hb13
                      refine zE <| zB <| g_u (zD rfl rfl) <| zF <| zA <| zK <| zJ <| zf <| zJ <| zJ <| zf <| zJ ?_
                      exact ⟨⟨(rfl : toAV (Al.look _ _) = some _).trans (congrArg some (by (exact congrArg iv (by unfold leftS; first | (rw [if_pos (by omega)]; done) | (rw [if_neg (by omega), g4, gfin]; done) | (rw [if_neg (by omega), g4, xw hi2 (by omega) hk2]; done) | (rw [if_neg (by omega), h4, xz hi (by omega) hk]; exact (xG _ (by omega)).symm))))), rfl⟩, trivial⟩
                    · have hk2 : ¬ ((nthL s.links i2).state.size : Int) > m2 := of_decide_eq_false hb13
                      refine zN <| zA <| yZ xr <| g_u (zG rfl rfl ww rfl) <| g_u (zH rfl rfl rfl tA48 tS48 rfl rfl) <| g_u (zC rfl rfl) ?_
                      refine g_u (za rfl rfl rfl Tryz.underlying48 tS107 (by omega) (ixL hi2)) ?_
                      refine g_u (zR rfl rfl fa107_3 rfl rfl) <| g_u (zY rfl rfl tA46 tS46 rfl rfl) <| g_u (zC rfl rfl) <| g_u (vK rfl rfl rfl) <| g_u (zG rfl rfl ww rfl) <| g_u (zH rfl rfl rfl tA48 tS48 rfl rfl) <| g_u (zC rfl rfl) ?_
                      refine g_u (za rfl rfl rfl Tryz.underlying48 tS107 (by omega) (ixL hi2)) ?_
                      refine g_u (zR rfl rfl fa107_2 rfl rfl) <| g_u (zY rfl rfl tA9 tS9 rfl rfl) <| g_u (yR rfl rfl Tryz.underlying9) <| g_u (vK rfl rfl rfl) ?_
                      refine g_u (zQ (leftAs_c _ _ ⟨by ((try simp only [decide_eq_true_eq, decide_eq_false_iff_not, qc, ne_eq, beq_iff_eq, qd, beq_eq_false_iff_ne, Bool.not_eq_true', Bool.not_eq_false', gt_iff_lt, ge_iff_le] at *); (repeat simp (disch := omega) only [zO, z_] at *)); omega, by ((try simp only [decide_eq_true_eq, decide_eq_false_iff_not, qc, ne_eq, beq_iff_eq, qd, beq_eq_false_iff_ne, Bool.not_eq_true', Bool.not_eq_false', gt_iff_lt, ge_iff_le] at *); (repeat simp (disch := omega) only [zO, z_] at *)); omega⟩) rfl rfl) ?_
                      refine g_u (zD rfl rfl) ?_
                      refine zF ⟨by kernel_rfl, ?_⟩
                      refine zP <| zA <| zB <| g_u (zC rfl rfl) <| g_u (zt rfl rfl rfl) <| g_u (zD rfl rfl) <| zF <| zA ?_
                      have ed := leftL_drop (m := m2) hi2 (by omega) hk2
                      have bl := wF (nthL s.links i2).attrs (m2 - 1 - (nthL s.links i2).state.size)
                      refine ⟨⟨i2 + 1, yK (nthL s.links i2).attrs (m2 - 1 - (nthL s.links i2).state.size)⟩, ⟨hi2, ⟨by dsimp only; omega, by dsimp only; omega⟩, by dsimp only; omega, by dsimp only; rw [g4, ed]⟩, ⟨rfl, rfl, zW rfl (by dsimp only; rw [zO (n := m2 - 1) (by omega) (by omega), zO (by omega) (by omega)]), zW rfl (by rw [zO (by omega) (by omega)]; rfl), trivial⟩, by dsimp only; omega⟩
                  · have hs2 : m2 < 0 := by have := of_decide_eq_false hb12; omega
                    have gfin : leftL (s.links.drop i2) m2 = m2 := xG _ hs2
                    refine zw <| zT <| zT <| zo <| zA <| zE <| zB <| g_u (zC rfl rfl) <| g_u (zD rfl rfl) <| zF <| zA <| zK ?_
                    exact ⟨⟨(rfl : toAV (Al.look _ _) = some _).trans (congrArg some (by (exact congrArg iv (by unfold leftS; first | (rw [if_pos (by omega)]; done) | (rw [if_neg (by omega), g4, gfin]; done) | (rw [if_neg (by omega), g4, xw hi2 (by omega) hk2]; done) | (rw [if_neg (by omega), h4, xz hi (by omega) hk]; exact (xG _ (by omega)).symm))))), rfl⟩, trivial⟩
                · rw [hb11]
                  have hin2 : i2 = s.links.length := by have := of_decide_eq_false hb11; (try simp only [List.length_map] at this); omega
                  have gfin : leftL (s.links.drop i2) m2 = m2 := by rw [hin2, List.drop_length]; rfl
                  refine zM rfl rfl rfl <| zM rfl rfl rfl <| g_u (zj rfl rfl rfl) <| zF <| zA <| zh rfl <| zw <| zT <| zT <| zo <| zA <| zE <| zB <| g_u (zC rfl rfl) <| g_u (zD rfl rfl) <| zF <| zA <| zK ?_
                  exact ⟨⟨(rfl : toAV (Al.look _ _) = some _).trans (congrArg some (by (exact congrArg iv (by unfold leftS; first | (rw [if_pos (by omega)]; done) | (rw [if_neg (by omega), g4, gfin]; done) | (rw [if_neg (by omega), g4, xw hi2 (by omega) hk2]; done) | (rw [if_neg (by omega), h4, xz hi (by omega) hk]; exact (xG _ (by omega)).symm))))), rfl⟩, trivial⟩
end Go.Proofs
namespace Go.Proofs
open Go Go.Al
theorem leftE_bd : ∀ (es : List GE) (m : Int), leftE es m ≤ m ∧ (0 ≤ m → -1 ≤ leftE es m)
  | [], m => ⟨Int.le_refl _, fun h => by simp only [leftE]; omega⟩
  | e :: es, m => by
    rw [leftE]
    split
    · exact ⟨Int.le_refl _, fun h => by omega⟩
    split
    · exact ⟨by omega, fun h => by omega⟩
    rename_i h1 h2
    have b := wF e.attrs (m - 1 - e.name.size)
    have c := leftE_bd es (yK e.attrs (m - 1 - e.name.size))
    refine ⟨by omega, fun h => ?_⟩
    rcases Int.lt_or_le (yK e.attrs (m - 1 - e.name.size)) 0 with h3 | h3
    · rw [leftE_neg _ h3]; omega
    · exact c.2 h3
theorem leftL_bd : ∀ (es : List GL) (m : Int), leftL es m ≤ m ∧ (0 ≤ m → -1 ≤ leftL es m)
  | [], m => ⟨Int.le_refl _, fun h => by simp only [leftL]; omega⟩
  | e :: es, m => by
    rw [leftL]
    split
    · exact ⟨Int.le_refl _, fun h => by omega⟩
    split
    · exact ⟨by omega, fun h => by omega⟩
    rename_i h1 h2
    have b := wF e.attrs (m - 1 - e.state.size)
    have c := leftL_bd es (yK e.attrs (m - 1 - e.state.size))
    refine ⟨by omega, fun h => ?_⟩
    rcases Int.lt_or_le (yK e.attrs (m - 1 - e.state.size)) 0 with h3 | h3
    · rw [xG _ h3]; omega
    · exact c.2 h3
theorem leftS_bd (s : GSpan) {n : Int} (h : 0 ≤ n) : leftS s n ≤ n - 1 ∧ -(2 * n) - 1 ≤ leftS s n := by
  unfold leftS
  split
  · omega
  rename_i h1
  have a := wF s.attrs (n - 1 - s.state.size - s.name.size - s.note.size)
  generalize yK s.attrs (n - 1 - s.state.size - s.name.size - s.note.size) = m at a ⊢
  have b := leftE_bd s.events m
  have b2 := fun h => leftE_neg s.events (m := m) h
  generalize leftE s.events m = p at b b2 ⊢
  have c := leftL_bd s.links p
  have c2 := fun h => xG s.links (m := p) h
  generalize leftL s.links p = q at c c2 ⊢
  omega
theorem leftSp_bd : ∀ (es : List GSpan) (m : Int), wM es m ≤ m ∧ (0 ≤ m → -(2 * m) - 1 ≤ wM es m)
  | [], m => ⟨Int.le_refl _, fun h => by simp only [wM]; omega⟩
  | e :: es, m => by
    rw [wM]
    split
    · exact ⟨Int.le_refl _, fun h => by omega⟩
    rename_i h1
    have b := leftS_bd e (n := m) (by omega)
    have c := leftSp_bd es (leftS e m)
    have d := fun h => leftSp_neg es (m := leftS e m) h
    generalize wM es (leftS e m) = q at *
    omega
theorem leftC_bd : ∀ (es : List GScope) (m : Int), leftC es m ≤ m ∧ (0 ≤ m → -(2 * m) - 1 ≤ leftC es m)
  | [], m => ⟨Int.le_refl _, fun h => by simp only [leftC]; omega⟩
  | e :: es, m => by
    rw [leftC]
    split
    · exact ⟨Int.le_refl _, fun h => by omega⟩
    split
    · exact ⟨by omega, fun h => by omega⟩
    rename_i h1 h2
    have b := leftSp_bd e.spans (m - 1 - e.name.size - e.version.size)
    have b2 := fun h => leftSp_neg e.spans (m := m - 1 - e.name.size - e.version.size) h
    generalize wM e.spans (m - 1 - e.name.size - e.version.size) = p at *
    have c := leftC_bd es p
    have d := fun h => leftC_neg es (m := p) h
    generalize leftC es p = q at *
    omega
theorem leftR_le {b : List GRes} {n : Int} (h : ¬ leftR b n < 0) : (wtB b : Int) ≤ n := by have := leftR_wt b (m := n) (by omega); omega
end Go.Proofs
namespace Go.Proofs
open Go Go.Al
set_option maxRecDepth 10000
set_option maxHeartbeats 4000000 in
theorem leftR_c (b : List GRes) (n : Int) (hn : -1000000000000 ≤ n ∧ n ≤ 1000000000) : zn Tryz.prog Γ0 7 [yp b, iv n] [iv (leftR b n)] := by
  refine zZ Tryz.func7 rfl Tryz.ntmps7 (by kernel_rfl) rfl fun w0 I0 G0 => ?_
  refine zE <| zB <| g_uG (zp 1002 rfl rfl rfl rfl) rfl <| g_u (zD rfl rfl) <| zF <| zA <| zE <| zE <| zB <| g_u (zD rfl rfl) <| zF <| zA <| zS ?_
  refine zr (fun j : Nat × Int => [(2, .ptr 1002 0), (1002, .box 24 (.imm (yp b))), (1, .imm (iv j.2)), (5, .imm (iv (j.1 : Int)))]) (fun j => j.1 ≤ b.length ∧ (-1000000000000 ≤ j.2 ∧ j.2 ≤ 1000000000) ∧ ((j.1 : Int) ≤ n - j.2) ∧ leftR b n = leftR (b.drop j.1) j.2) (fun j => b.length - j.1) (⟨0, n⟩) ?_ ⟨rfl, rfl, rfl, rfl, trivial⟩ ?_
  · exact ⟨Nat.zero_le _, hn, by dsimp only; omega, rfl⟩
  · rintro ⟨i, m⟩ ⟨h1, h2, h3, h4⟩; dsimp only at h1 h2 h3 h4
    refine zE <| zE <| zB <| g_u (zC rfl rfl) <| g_u (zG rfl rfl fa24_0 rfl) <| g_u (zH rfl rfl rfl tA22 tS22 rfl rfl) <| g_u (yB rfl rfl Tryz.underlying22) <| g_u (yO rfl rfl rfl) <| g_u (zC rfl rfl) <| z6 (t := 14) rfl ?_
    rintro (hb1 | hb1)
    · rw [hb1]
      have hi : i < b.length := by have := of_decide_eq_true hb1; (try simp only [List.length_map] at this); omega
      refine zX rfl rfl (zC rfl rfl) <| zX rfl rfl (s_geI rfl rfl rfl) <| g_u (zi rfl rfl rfl) <| zF <| zA ?_
      refine zL rfl (fun hb2 => ?_) (fun hb2 => ?_)
      · have hs : m ≥ 0 := of_decide_eq_true hb2
        have b1 := wF (nthR b i).attrs (m - 1)
        refine zN <| zA <| zE <| zS <| zE <| zB <| g_u (zG rfl rfl fa24_0 rfl) <| g_u (zH rfl rfl rfl tA22 tS22 rfl rfl) <| g_u (zC rfl rfl) ?_
        refine g_u (za rfl rfl rfl Tryz.underlying22 tS58 (by omega) (ixR hi)) ?_
        refine g_u (zY rfl rfl tA58 tS58 rfl rfl) <| g_uG (yG 1006 rfl rfl rfl tZ58) rfl <| g_u (zV rfl rfl rfl tS58 rfl rfl) <| zF <| zA <| zE <| zB <| g_u (zG rfl rfl fa58_0 rfl) <| g_u (zH rfl rfl rfl tA46 tS46 rfl rfl) <| g_u (zC rfl rfl) <| g_u (vK rfl rfl rfl) ?_
        refine g_u (zQ (leftAs_c _ _ ⟨by ((try simp only [decide_eq_true_eq, decide_eq_false_iff_not, qc, ne_eq, beq_iff_eq, qd, beq_eq_false_iff_ne, Bool.not_eq_true', Bool.not_eq_false', gt_iff_lt, ge_iff_le] at *); (repeat simp (disch := omega) only [zO, z_] at *)); omega, by ((try simp only [decide_eq_true_eq, decide_eq_false_iff_not, qc, ne_eq, beq_iff_eq, qd, beq_eq_false_iff_ne, Bool.not_eq_true', Bool.not_eq_false', gt_iff_lt, ge_iff_le] at *); (repeat simp (disch := omega) only [zO, z_] at *)); omega⟩) rfl rfl) ?_
        refine g_u (zD rfl rfl) <| zF <| zA <| zE <| zB <| g_u (zD rfl rfl) <| zF <| zA <| zS ?_
        refine zr (fun j : Nat × Int => [(2, .ptr 1002 0), (1002, .box 24 (.imm (yp b))), (1, .imm (iv j.2)), (5, .imm (iv (i : Int))), (6, .ptr 1006 0), (1006, .box 58 (.imm (nthR b i).av)), (7, .imm (iv (j.1 : Int)))]) (fun j => j.1 ≤ (nthR b i).scopes.length ∧ (-1000000000000 ≤ j.2 ∧ j.2 ≤ 1000000000) ∧ ((j.1 : Int) ≤ (yK (nthR b i).attrs (m - 1)) - j.2) ∧ leftC (nthR b i).scopes (yK (nthR b i).attrs (m - 1)) = leftC ((nthR b i).scopes.drop j.1) j.2) (fun j => (nthR b i).scopes.length - j.1) (⟨0, (yK (nthR b i).attrs (m - 1))⟩) ?_ ⟨rfl, rfl, zW rfl (by rw [zO (by omega) (by omega)]), rfl, rfl, rfl, rfl, trivial⟩ ?_
        · exact ⟨Nat.zero_le _, ⟨by dsimp only; omega, by dsimp only; omega⟩, by simp, rfl⟩
        · rintro ⟨k, m1⟩ ⟨g1, g2, g3, g4⟩; dsimp only at g1 g2 g3 g4
          refine zE <| zE <| zB <| g_u (zC rfl rfl) <| g_u (zG rfl rfl fa58_1 rfl) <| g_u (zH rfl rfl rfl tA56 tS56 rfl rfl) <| g_u (yB rfl rfl Tryz.underlying56) <| g_u (yO rfl rfl rfl) <| g_u (zC rfl rfl) <| z6 (t := 35) rfl ?_
          rintro (hb3 | hb3)
          · rw [hb3]
            have hk : k < (nthR b i).scopes.length := by have := of_decide_eq_true hb3; (try simp only [List.length_map] at this); omega
            refine zX rfl rfl (zC rfl rfl) <| zX rfl rfl (s_geI rfl rfl rfl) <| g_u (zi rfl rfl rfl) <| zF <| zA ?_
            refine zL rfl (fun hb4 => ?_) (fun hb4 => ?_)
            · have hs1 : m1 ≥ 0 := of_decide_eq_true hb4
              refine zN <| zA <| zE <| zS <| zE <| zE <| zB <| g_u (zG rfl rfl fa58_1 rfl) <| g_u (zH rfl rfl rfl tA56 tS56 rfl rfl) <| g_u (zC rfl rfl) ?_
              refine g_u (za rfl rfl rfl Tryz.underlying56 tS55 (by omega) (ixC hk)) ?_
              refine g_u (zR rfl rfl fa55_0 rfl rfl) <| g_u (zY rfl rfl tA9 tS9 rfl rfl) <| g_u (yR rfl rfl Tryz.underlying9) <| g_u (zC rfl rfl) <| g_u (xA rfl rfl rfl) <| g_u (zC rfl rfl) <| z6 (t := 50) rfl ?_
              rintro (hb5 | hb5)
              · rw [hb5]
                have hA : (((nthC (nthR b i).scopes k).name.size : Int) > m1) := of_decide_eq_true hb5
                refine zM rfl rfl rfl <| zM rfl rfl rfl <| zM rfl rfl rfl <| zM rfl rfl rfl <| zM rfl rfl rfl <| zM rfl rfl rfl <| zM rfl rfl rfl <| zM rfl rfl rfl <| zM rfl rfl rfl <| g_u (zi rfl rfl rfl) <| zF <| zA <| zu rfl <| zE <| zB <| g_u (zD rfl rfl) <| zF <| zA <| zK <| zJ <| zf <| zJ <| zJ <| zf <| zf <| zJ <| zJ <| zf <| zJ ?_
                exact ⟨⟨(rfl : toAV (Al.look _ _) = some _).trans (congrArg some (by (exact congrArg iv (by first | (rw [h4, hfin]; done) | (rw [h4, xm hi (by omega), g4, leftC_out hk (by omega) (.inl hA), vG _ (by decide)]; done) | (rw [h4, xm hi (by omega), g4, leftC_out hk (by omega) (.inr hB), vG _ (by decide)]; done))))), rfl⟩, trivial⟩
              · rw [hb5]
                have hA : ¬ (((nthC (nthR b i).scopes k).name.size : Int) > m1) := of_decide_eq_false hb5
                refine zX rfl rfl (zG rfl rfl fa58_1 rfl) <| zX rfl rfl (zH rfl rfl rfl tA56 tS56 rfl rfl) <| zX rfl rfl (zC rfl rfl) ?_
                refine zX rfl rfl (za rfl rfl rfl Tryz.underlying56 tS55 (by omega) (ixC hk)) ?_
                refine zX rfl rfl (zR rfl rfl fa55_1 rfl rfl) <| zX rfl rfl (zY rfl rfl tA9 tS9 rfl rfl) <| zX rfl rfl (yR rfl rfl Tryz.underlying9) <| zX rfl rfl (zC rfl rfl) <| zX rfl rfl (xA rfl rfl rfl) <| g_u (zj rfl rfl rfl) <| zF <| zA ?_
                refine zL rfl (fun hb6 => ?_) (fun hb6 => ?_)
                · have hB : (((nthC (nthR b i).scopes k).version.size : Int) > m1) := of_decide_eq_true hb6
                  refine zE <| zB <| g_u (zD rfl rfl) <| zF <| zA <| zK <| zJ <| zf <| zJ <| zJ <| zf <| zf <| zJ <| zJ <| zf <| zJ ?_
                  exact ⟨⟨(rfl : toAV (Al.look _ _) = some _).trans (congrArg some (by (exact congrArg iv (by first | (rw [h4, hfin]; done) | (rw [h4, xm hi (by omega), g4, leftC_out hk (by omega) (.inl hA), vG _ (by decide)]; done) | (rw [h4, xm hi (by omega), g4, leftC_out hk (by omega) (.inr hB), vG _ (by decide)]; done))))), rfl⟩, trivial⟩
                · have hB : ¬ (((nthC (nthR b i).scopes k).version.size : Int) > m1) := of_decide_eq_false hb6
                  refine zN <| zA <| zE <| yZ xr <| g_u (zC rfl rfl) <| g_u (vK rfl rfl rfl) <| g_u (zG rfl rfl fa58_1 rfl) <| g_u (zH rfl rfl rfl tA56 tS56 rfl rfl) <| g_u (zC rfl rfl) ?_
                  refine g_u (za rfl rfl rfl Tryz.underlying56 tS55 (by omega) (ixC hk)) ?_
                  refine g_u (zR rfl rfl fa55_0 rfl rfl) <| g_u (zY rfl rfl tA9 tS9 rfl rfl) <| g_u (yR rfl rfl Tryz.underlying9) <| g_u (vK rfl rfl rfl) <| g_u (zG rfl rfl fa58_1 rfl) <| g_u (zH rfl rfl rfl tA56 tS56 rfl rfl) <| g_u (zC rfl rfl) ?_
                  refine g_u (za rfl rfl rfl Tryz.underlying56 tS55 (by omega) (ixC hk)) ?_
                  refine g_u (zR rfl rfl fa55_1 rfl rfl) <| g_u (zY rfl rfl tA9 tS9 rfl rfl) <| g_u (yR rfl rfl Tryz.underlying9) <| g_u (vK rfl rfl rfl) <| g_u (zD rfl rfl) ?_
                  refine zF ⟨by kernel_rfl, ?_⟩
                  refine zA <| zE <| zB <| g_u (zD rfl rfl) <| zF <| zA <| zS ?_
                  refine zr (fun j : Nat × Int => [(2, .ptr 1002 0), (1002, .box 24 (.imm (yp b))), (1, .imm (iv j.2)), (5, .imm (iv (i : Int))), (6, .ptr 1006 0), (1006, .box 58 (.imm (nthR b i).av)), (7, .imm (iv (k : Int))), (8, .imm (iv (j.1 : Int)))]) (fun j => j.1 ≤ (nthC (nthR b i).scopes k).spans.length ∧ (-1000000000000 ≤ j.2 ∧ j.2 ≤ 1000000000) ∧ ((j.1 : Int) ≤ (m1 - 1 - (nthC (nthR b i).scopes k).name.size - (nthC (nthR b i).scopes k).version.size) - j.2) ∧ wM (nthC (nthR b i).scopes k).spans (m1 - 1 - (nthC (nthR b i).scopes k).name.size - (nthC (nthR b i).scopes k).version.size) = wM ((nthC (nthR b i).scopes k).spans.drop j.1) j.2) (fun j => (nthC (nthR b i).scopes k).spans.length - j.1) (⟨0, (m1 - 1 - (nthC (nthR b i).scopes k).name.size - (nthC (nthR b i).scopes k).version.size)⟩) ?_ ⟨rfl, rfl, zW rfl (by (try dsimp only); rw [zO (n := m1 - 1) (by omega) (by omega), zO (n := m1 - 1 - (nthC (nthR b i).scopes k).name.size) (by omega) (by omega), zO (by omega) (by omega)]), rfl, rfl, rfl, rfl, rfl, trivial⟩ ?_
                  · exact ⟨Nat.zero_le _, ⟨by dsimp only; omega, by dsimp only; omega⟩, by simp, rfl⟩
                  · rintro ⟨q, m2⟩ ⟨f1, f2, f3, f4⟩; dsimp only at f1 f2 f3 f4
                    refine zE <| zE <| zB <| g_u (zC rfl rfl) <| g_u (zG rfl rfl fa58_1 rfl) <| g_u (zH rfl rfl rfl tA56 tS56 rfl rfl) <| g_u (zC rfl rfl) ?_
                    refine g_u (za rfl rfl rfl Tryz.underlying56 tS55 (by omega) (ixC hk)) ?_
                    refine g_u (zR rfl rfl fa55_2 rfl rfl) <| g_u (zY rfl rfl tA53 tS53 rfl rfl) <| g_u (yB rfl rfl Tryz.underlying53) <| g_u (yO rfl rfl rfl) <| g_u (zC rfl rfl) <| z6 (t := 88) rfl ?_
                    rintro (hb7 | hb7)
                    · rw [hb7]
                      have hq : q < (nthC (nthR b i).scopes k).spans.length := by have := of_decide_eq_true hb7; (try simp only [List.length_map] at this); omega
                      refine zX rfl rfl (zC rfl rfl) <| zX rfl rfl (s_geI rfl rfl rfl) <| g_u (zi rfl rfl rfl) <| zF <| zA ?_
                      refine zL rfl (fun hb8 => ?_) (fun hb8 => ?_)
                      · have hs2 : m2 ≥ 0 := of_decide_eq_true hb8
                        refine zN <| zA <| zE <| zS <| zB <| g_u (zG rfl rfl fa58_1 rfl) <| g_u (zH rfl rfl rfl tA56 tS56 rfl rfl) <| g_u (zC rfl rfl) ?_
                        refine g_u (za rfl rfl rfl Tryz.underlying56 tS55 (by omega) (ixC hk)) ?_
                        refine g_u (zR rfl rfl fa55_2 rfl rfl) <| g_u (zY rfl rfl tA53 tS53 rfl rfl) <| g_u (zC rfl rfl) ?_
                        refine g_u (za rfl rfl rfl Tryz.underlying53 tS52 (by omega) (ixS hq)) ?_
                        refine g_u (zY rfl rfl tA52 tS52 rfl (by first | exact getS_w (GSpan.width _) rfl | rfl)) ?_
                        refine g_u (zC rfl rfl) ?_
                        refine g_u (zQ (leftS_c _ _ ⟨by omega, by omega⟩) rfl rfl) ?_
                        refine g_u (zD rfl rfl) <| zF <| zP <| zA <| zB <| g_u (zC rfl rfl) <| g_u (zt rfl rfl rfl) <| g_u (zD rfl rfl) <| zF <| zA ?_
                        have bs := leftS_bd (nthS (nthC (nthR b i).scopes k).spans q) (n := m2) (by omega)
                        have ed := leftSp_drop hq (m := m2) (by omega)
                        refine ⟨⟨q + 1, leftS (nthS (nthC (nthR b i).scopes k).spans q) m2⟩, ⟨hq, by dsimp only; omega, by dsimp only; omega, by dsimp only; rw [f4, ed]⟩, ⟨rfl, rfl, rfl, rfl, rfl, rfl, rfl, zW rfl (by rw [zO (by omega) (by omega)]; rfl), trivial⟩, by dsimp only; omega⟩
                      · have hs2 : ¬ m2 ≥ 0 := of_decide_eq_false hb8
                        have hfin2 : wM (nthC (nthR b i).scopes k).spans (m1 - 1 - (nthC (nthR b i).scopes k).name.size - (nthC (nthR b i).scopes k).version.size) = m2 := by rw [f4]; exact leftSp_neg _ (by omega)
                        refine zw <| zT <| zT <| zo <| zP <| zA <| zB <| g_u (zC rfl rfl) <| g_u (zt rfl rfl rfl) <| g_u (zD rfl rfl) <| zF <| zA ?_
                        have bp := leftSp_bd (nthC (nthR b i).scopes k).spans (m1 - 1 - (nthC (nthR b i).scopes k).name.size - (nthC (nthR b i).scopes k).version.size)
                        have ed := leftC_drop hk (m := m1) (by omega) hA hB
                        refine ⟨⟨k + 1, m2⟩, ⟨hk, by dsimp only; omega, by dsimp only; omega, by dsimp only; rw [g4, ed, hfin2]⟩, ⟨rfl, rfl, rfl, rfl, rfl, rfl, zW rfl (by rw [zO (by omega) (by omega)]; rfl), trivial⟩, by dsimp only; omega⟩
                    · rw [hb7]
                      have hqn : q = (nthC (nthR b i).scopes k).spans.length := by have := of_decide_eq_false hb7; (try simp only [List.length_map] at this); omega
                      have hfin2 : wM (nthC (nthR b i).scopes k).spans (m1 - 1 - (nthC (nthR b i).scopes k).name.size - (nthC (nthR b i).scopes k).version.size) = m2 := by rw [f4, hqn, List.drop_length]; rfl
                      refine zM rfl rfl rfl <| zM rfl rfl rfl <| g_u (zj rfl rfl rfl) <| zF <| zA <| zh rfl <| zw <| zT <| zT <| zo <| zP <| zA <| zB <| g_u (zC rfl rfl) <| g_u (zt rfl rfl rfl) <| g_u (zD rfl rfl) <| zF <| zA ?_
                      have bp := leftSp_bd (nthC (nthR b i).scopes k).spans (m1 - 1 - (nthC (nthR b i).scopes k).name.size - (nthC (nthR b i).scopes k).version.size)
                      have ed := leftC_drop hk (m := m1) (by omega) hA hB
                      refine ⟨⟨k + 1, m2⟩, ⟨hk, by dsimp only; omega, by dsimp only; omega, by dsimp only; rw [g4, ed, hfin2]⟩, ⟨rfl, rfl, rfl, rfl, rfl, rfl, zW rfl (by rw [zO (by omega) (by omega)]; rfl), trivial⟩, by dsimp only; omega⟩
            · have hs1 : ¬ m1 ≥ 0 := of_decide_eq_false hb4
              have hfin1 : leftC (nthR b i).scopes (yK (nthR b i).attrs (m - 1)) = m1 := by rw [g4]; exact leftC_neg _ (by omega)
              refine zw <| zT <| zT <| zo <| zP <| zA <| zB <| g_u (zC rfl rfl) <| g_u (zt rfl rfl rfl) <| g_u (zD rfl rfl) <| zF <| zA ?_
              have bc := leftC_bd (nthR b i).scopes (yK (nthR b i).attrs (m - 1))
              have ed := xm hi (m := m) (by omega)
              refine ⟨⟨i + 1, m1⟩, ⟨hi, by dsimp only; omega, by dsimp only; omega, by dsimp only; rw [h4, ed, hfin1]⟩, ⟨rfl, rfl, rfl, zW rfl (by rw [zO (by omega) (by omega)]; rfl), trivial⟩, by dsimp only; omega⟩
          · rw [hb3]
            have hkn : k = (nthR b i).scopes.length := by have := of_decide_eq_false hb3; (try simp only [List.length_map] at this); omega
            have hfin1 : leftC (nthR b i).scopes (yK (nthR b i).attrs (m - 1)) = m1 := by rw [g4, hkn, List.drop_length]; rfl
            refine zM rfl rfl rfl <| zM rfl rfl rfl <| g_u (zj rfl rfl rfl) <| zF <| zA <| zh rfl <| zw <| zT <| zT <| zo <| zP <| zA <| zB <| g_u (zC rfl rfl) <| g_u (zt rfl rfl rfl) <| g_u (zD rfl rfl) <| zF <| zA ?_
            have bc := leftC_bd (nthR b i).scopes (yK (nthR b i).attrs (m - 1))
            have ed := xm hi (m := m) (by omega)
            refine ⟨⟨i + 1, m1⟩, ⟨hi, by dsimp only; omega, by dsimp only; omega, by dsimp only; rw [h4, ed, hfin1]⟩, ⟨rfl, rfl, rfl, zW rfl (by rw [zO (by omega) (by omega)]; rfl), trivial⟩, by dsimp only; omega⟩
      · have hs : ¬ m ≥ 0 := of_decide_eq_false hb2
        have hfin : leftR (b.drop i) m = m := vG _ (by omega)
        refine zw <| zT <| zT <| zo <| zA <| zE <| zB <| g_u (zC rfl rfl) <| g_u (zD rfl rfl) <| zF <| zA <| zK ?_
        exact ⟨⟨(rfl : toAV (Al.look _ _) = some _).trans (congrArg some (by (exact congrArg iv (by first | (rw [h4, hfin]; done) | (rw [h4, xm hi (by omega), g4, leftC_out hk (by omega) (.inl hA), vG _ (by decide)]; done) | (rw [h4, xm hi (by omega), g4, leftC_out hk (by omega) (.inr hB), vG _ (by decide)]; done))))), rfl⟩, trivial⟩
    · rw [hb1]
      have hin : i = b.length := by have := of_decide_eq_false hb1; (try simp only [List.length_map] at this); omega
      have hfin : leftR (b.drop i) m = m := by rw [hin, List.drop_length]; rfl
      refine zM rfl rfl rfl <| zM rfl rfl rfl <| g_u (zj rfl rfl rfl) <| zF <| zA <| zh rfl <| zw <| zT <| zT <| zo <| zA <| zE <| zB <| g_u (zC rfl rfl) <| g_u (zD rfl rfl) <| zF <| zA <| zK ?_
      exact ⟨⟨(rfl : toAV (Al.look _ _) = some _).trans (congrArg some (by (exact congrArg iv (by first | (rw [h4, hfin]; done) | (rw [h4, xm hi (by omega), g4, leftC_out hk (by omega) (.inl hA), vG _ (by decide)]; done) | (rw [h4, xm hi (by omega), g4, leftC_out hk (by omega) (.inr hB), vG _ (by decide)]; done))))), rfl⟩, trivial⟩
end Go.Proofs
namespace Go.Proofs
open Go Go.Al
set_option maxRecDepth 10000
theorem length_c (c : Int) : zn Tryz.prog Γ0 218 [cv c] [iv (yg c)] := by
  refine zZ Tryz.func218 rfl Tryz.ntmps218 (by kernel_rfl) rfl fun w0 I0 G0 => ?_
  refine zE <| zB <| g_u (zD rfl rfl) <| zF <| zA <| zE <| zS <| zE <| zB <| g_u (zC rfl rfl) <| g_u (yO rfl rfl rfl) <| g_u (zD rfl rfl) <| zF <| zA ?_
  refine zL rfl (fun hb1 => ?_) (fun hb1 => ?_)
  · refine zE ?_
    refine zB <| g_u (zD rfl rfl) <| zF <| zA <| zK <| zf <| zJ ?_
    exact ⟨⟨(rfl : toAV (Al.look _ _) = some _).trans (congrArg some (by (unfold yg; (((try simp only [decide_eq_true_eq, decide_eq_false_iff_not, qc, ne_eq, beq_iff_eq, qd, beq_eq_false_iff_ne, Bool.not_eq_true', Bool.not_eq_false', gt_iff_lt, ge_iff_le] at *); (repeat simp (disch := omega) only [zO, z_] at *)); (repeat' split); all_goals first | rfl | omega)))), rfl⟩, trivial⟩
  · refine zE ?_
    refine zB <| g_u (zC rfl rfl) <| g_u (yO rfl rfl rfl) <| g_u (zD rfl rfl) <| zF <| zA ?_
    refine zL rfl (fun hb2 => ?_) (fun hb2 => ?_)
    · refine zE ?_
      refine zB <| g_u (zD rfl rfl) <| zF <| zA <| zK <| zf <| zJ ?_
      exact ⟨⟨(rfl : toAV (Al.look _ _) = some _).trans (congrArg some (by (unfold yg; (((try simp only [decide_eq_true_eq, decide_eq_false_iff_not, qc, ne_eq, beq_iff_eq, qd, beq_eq_false_iff_ne, Bool.not_eq_true', Bool.not_eq_false', gt_iff_lt, ge_iff_le] at *); (repeat simp (disch := omega) only [zO, z_] at *)); (repeat' split); all_goals first | rfl | omega)))), rfl⟩, trivial⟩
    · refine zE ?_
      refine zB <| g_u (zC rfl rfl) <| g_u (yO rfl rfl rfl) <| g_u (zD rfl rfl) <| zF <| zA ?_
      refine zL rfl (fun hb3 => ?_) (fun hb3 => ?_)
      · refine zE ?_
        refine zB <| g_u (zD rfl rfl) <| zF <| zA <| zK <| zf <| zJ ?_
        exact ⟨⟨(rfl : toAV (Al.look _ _) = some _).trans (congrArg some (by (unfold yg; (((try simp only [decide_eq_true_eq, decide_eq_false_iff_not, qc, ne_eq, beq_iff_eq, qd, beq_eq_false_iff_ne, Bool.not_eq_true', Bool.not_eq_false', gt_iff_lt, ge_iff_le] at *); (repeat simp (disch := omega) only [zO, z_] at *)); (repeat' split); all_goals first | rfl | omega)))), rfl⟩, trivial⟩
      · refine zE ?_
        refine zB <| g_u (zC rfl rfl) <| g_u (yO rfl rfl rfl) <| g_u (zD rfl rfl) <| zF <| zA ?_
        refine zL rfl (fun hb4 => ?_) (fun hb4 => ?_)
        · refine zE ?_
          refine zB <| g_u (zD rfl rfl) <| zF <| zA <| zK <| zf <| zJ ?_
          exact ⟨⟨(rfl : toAV (Al.look _ _) = some _).trans (congrArg some (by (unfold yg; (((try simp only [decide_eq_true_eq, decide_eq_false_iff_not, qc, ne_eq, beq_iff_eq, qd, beq_eq_false_iff_ne, Bool.not_eq_true', Bool.not_eq_false', gt_iff_lt, ge_iff_le] at *); (repeat simp (disch := omega) only [zO, z_] at *)); (repeat' split); all_goals first | rfl | omega)))), rfl⟩, trivial⟩
        · refine zE ?_
          refine zB <| g_u (zC rfl rfl) <| g_u (yO rfl rfl rfl) <| g_u (zD rfl rfl) <| zF <| zA ?_
          refine zL rfl (fun hb5 => ?_) (fun hb5 => ?_)
          · refine zE ?_
            refine zB <| g_u (zD rfl rfl) <| zF <| zA <| zK <| zf <| zJ ?_
            exact ⟨⟨(rfl : toAV (Al.look _ _) = some _).trans (congrArg some (by (unfold yg; (((try simp only [decide_eq_true_eq, decide_eq_false_iff_not, qc, ne_eq, beq_iff_eq, qd, beq_eq_false_iff_ne, Bool.not_eq_true', Bool.not_eq_false', gt_iff_lt, ge_iff_le] at *); (repeat simp (disch := omega) only [zO, z_] at *)); (repeat' split); all_goals first | rfl | omega)))), rfl⟩, trivial⟩
          · refine zN ?_
            refine zP <| zA <| zE <| zB <| g_u (zD rfl rfl) <| zF <| zA <| zK ?_
            exact ⟨⟨(rfl : toAV (Al.look _ _) = some _).trans (congrArg some (by (unfold yg; (((try simp only [decide_eq_true_eq, decide_eq_false_iff_not, qc, ne_eq, beq_iff_eq, qd, beq_eq_false_iff_ne, Bool.not_eq_true', Bool.not_eq_false', gt_iff_lt, ge_iff_le] at *); (repeat simp (disch := omega) only [zO, z_] at *)); (repeat' split); all_goals first | rfl | omega)))), rfl⟩, trivial⟩
theorem least_c (k : Int) : zn Tryz.prog Γ0 219 [iv k] [rv (leastM k)] := by
  refine zZ Tryz.func219 rfl Tryz.ntmps219 (by kernel_rfl) rfl fun w0 I0 G0 => ?_
  refine zE <| zB <| g_u (zD rfl rfl) <| zF <| zA <| zE <| zE <| zB <| g_u (zC rfl rfl) <| zF <| zA <| zS <| zE <| zB <| g_u (yM rfl rfl rfl) <| g_u (zD rfl rfl) <| zF <| zA ?_
  refine zL rfl (fun hb1 => ?_) (fun hb1 => ?_)
  · refine zE ?_
    refine zB <| g_u (zD rfl rfl) <| zF <| zA <| zK <| zf <| zJ ?_
    exact ⟨⟨(rfl : toAV (Al.look _ _) = some _).trans (congrArg some (by (unfold leastM; (((try simp only [decide_eq_true_eq, decide_eq_false_iff_not, qc, ne_eq, beq_iff_eq, qd, beq_eq_false_iff_ne, Bool.not_eq_true', Bool.not_eq_false', gt_iff_lt, ge_iff_le] at *); (repeat simp (disch := omega) only [zO, z_] at *)); (repeat' split); all_goals first | rfl | omega)))), rfl⟩, trivial⟩
  · refine zE ?_
    refine zB <| g_u (yM rfl rfl rfl) <| g_u (zD rfl rfl) <| zF <| zA ?_
    refine zL rfl (fun hb2 => ?_) (fun hb2 => ?_)
    · refine zE ?_
      refine zB <| g_u (zD rfl rfl) <| zF <| zA <| zK <| zf <| zJ ?_
      exact ⟨⟨(rfl : toAV (Al.look _ _) = some _).trans (congrArg some (by (unfold leastM; (((try simp only [decide_eq_true_eq, decide_eq_false_iff_not, qc, ne_eq, beq_iff_eq, qd, beq_eq_false_iff_ne, Bool.not_eq_true', Bool.not_eq_false', gt_iff_lt, ge_iff_le] at *); (repeat simp (disch := omega) only [zO, z_] at *)); (repeat' split); all_goals first | rfl | omega)))), rfl⟩, trivial⟩
    · refine zE ?_
      refine zB <| g_u (yM rfl rfl rfl) <| g_u (zD rfl rfl) <| zF <| zA ?_
      refine zL rfl (fun hb3 => ?_) (fun hb3 => ?_)
      · refine zE ?_
        refine zB <| g_u (zD rfl rfl) <| zF <| zA <| zK <| zf <| zJ ?_
        exact ⟨⟨(rfl : toAV (Al.look _ _) = some _).trans (congrArg some (by (unfold leastM; (((try simp only [decide_eq_true_eq, decide_eq_false_iff_not, qc, ne_eq, beq_iff_eq, qd, beq_eq_false_iff_ne, Bool.not_eq_true', Bool.not_eq_false', gt_iff_lt, ge_iff_le] at *); (repeat simp (disch := omega) only [zO, z_] at *)); (repeat' split); all_goals first | rfl | omega)))), rfl⟩, trivial⟩
      · refine zN ?_
        refine zP <| zA <| zE <| zB <| g_u (zD rfl rfl) <| zF <| zA <| zK ?_
        exact ⟨⟨(rfl : toAV (Al.look _ _) = some _).trans (congrArg some (by (unfold leastM; (((try simp only [decide_eq_true_eq, decide_eq_false_iff_not, qc, ne_eq, beq_iff_eq, qd, beq_eq_false_iff_ne, Bool.not_eq_true', Bool.not_eq_false', gt_iff_lt, ge_iff_le] at *); (repeat simp (disch := omega) only [zO, z_] at *)); (repeat' split); all_goals first | rfl | omega)))), rfl⟩, trivial⟩
theorem is_c (r : Int) : zn Tryz.prog Γ0 220 [rv r] [bv (isM r)] := by
  refine zZ Tryz.func220 rfl Tryz.ntmps220 (by kernel_rfl) rfl fun w0 I0 G0 => ?_
  refine zE <| zB <| g_u (zD rfl rfl) <| zF <| zA <| zE <| zB <| g_u (zC rfl rfl) <| g_u (s_geI rfl rfl rfl) <| g_u (zC rfl rfl) <| z6 (t := 5) rfl ?_
  rintro (hb1 | hb1)
  · rw [hb1]
    refine zX rfl rfl (zC rfl rfl) <| zX rfl rfl (yO rfl rfl rfl) <| g_u (zi rfl rfl rfl) <| g_u (zC rfl rfl) <| z6 (t := 9) rfl ?_
    rintro (hb2 | hb2)
    · rw [hb2]
      refine zM rfl rfl rfl <| zM rfl rfl rfl <| zM rfl rfl rfl <| g_skip' rfl rfl rfl <| g_skip' rfl rfl rfl <| zM rfl rfl rfl <| g_u (zi rfl rfl rfl) <| g_u (zD rfl rfl) <| zF <| zA <| zK ?_
      exact ⟨⟨(rfl : toAV (Al.look _ _) = some _).trans (congrArg some (by (unfold isM; ((try simp only [decide_eq_true_eq, decide_eq_false_iff_not, qc, ne_eq, beq_iff_eq, qd, beq_eq_false_iff_ne, Bool.not_eq_true', Bool.not_eq_false', gt_iff_lt, ge_iff_le] at *); (repeat simp (disch := omega) only [zO, z_] at *)); refine congrArg bv ?_; first | exact (decide_eq_true (by omega)).symm | exact (decide_eq_false (by omega)).symm | exact decide_eq_decide.2 (by omega)))), rfl⟩, trivial⟩
    · rw [hb2]
      refine zX rfl rfl (zC rfl rfl) <| zX rfl rfl (s_geI rfl rfl rfl) <| zX rfl rfl (zC rfl rfl) <| z6 (t := 12) rfl ?_
      rintro (hb3 | hb3)
      · rw [hb3]
        refine zX rfl rfl (zC rfl rfl) <| zX rfl rfl (yO rfl rfl rfl) <| zX rfl rfl (zi rfl rfl rfl) <| g_u (zj rfl rfl rfl) <| g_u (zD rfl rfl) <| zF <| zA <| zK ?_
        exact ⟨⟨(rfl : toAV (Al.look _ _) = some _).trans (congrArg some (by (unfold isM; ((try simp only [decide_eq_true_eq, decide_eq_false_iff_not, qc, ne_eq, beq_iff_eq, qd, beq_eq_false_iff_ne, Bool.not_eq_true', Bool.not_eq_false', gt_iff_lt, ge_iff_le] at *); (repeat simp (disch := omega) only [zO, z_] at *)); refine congrArg bv ?_; first | exact (decide_eq_true (by omega)).symm | exact (decide_eq_false (by omega)).symm | exact decide_eq_decide.2 (by omega)))), rfl⟩, trivial⟩
      · rw [hb3]
        refine zM rfl rfl rfl <| zM rfl rfl rfl <| zX rfl rfl (zj rfl rfl rfl) <| g_u (zj rfl rfl rfl) <| g_u (zD rfl rfl) <| zF <| zA <| zK ?_
        exact ⟨⟨(rfl : toAV (Al.look _ _) = some _).trans (congrArg some (by (unfold isM; ((try simp only [decide_eq_true_eq, decide_eq_false_iff_not, qc, ne_eq, beq_iff_eq, qd, beq_eq_false_iff_ne, Bool.not_eq_true', Bool.not_eq_false', gt_iff_lt, ge_iff_le] at *); (repeat simp (disch := omega) only [zO, z_] at *)); refine congrArg bv ?_; first | exact (decide_eq_true (by omega)).symm | exact (decide_eq_false (by omega)).symm | exact decide_eq_decide.2 (by omega)))), rfl⟩, trivial⟩
  · rw [hb1]
    refine zM rfl rfl rfl <| zM rfl rfl rfl <| g_u (zj rfl rfl rfl) <| g_u (zC rfl rfl) <| zX rfl rfl (zC rfl rfl) <| zX rfl rfl (s_geI rfl rfl rfl) <| zX rfl rfl (zC rfl rfl) <| z6 (t := 12) rfl ?_
    rintro (hb4 | hb4)
    · rw [hb4]
      refine zX rfl rfl (zC rfl rfl) <| zX rfl rfl (yO rfl rfl rfl) <| zX rfl rfl (zi rfl rfl rfl) <| g_u (zj rfl rfl rfl) <| g_u (zD rfl rfl) <| zF <| zA <| zK ?_
      exact ⟨⟨(rfl : toAV (Al.look _ _) = some _).trans (congrArg some (by (unfold isM; ((try simp only [decide_eq_true_eq, decide_eq_false_iff_not, qc, ne_eq, beq_iff_eq, qd, beq_eq_false_iff_ne, Bool.not_eq_true', Bool.not_eq_false', gt_iff_lt, ge_iff_le] at *); (repeat simp (disch := omega) only [zO, z_] at *)); refine congrArg bv ?_; first | exact (decide_eq_true (by omega)).symm | exact (decide_eq_false (by omega)).symm | exact decide_eq_decide.2 (by omega)))), rfl⟩, trivial⟩
    · rw [hb4]
      refine zM rfl rfl rfl <| zM rfl rfl rfl <| zX rfl rfl (zj rfl rfl rfl) <| g_u (zj rfl rfl rfl) <| g_u (zD rfl rfl) <| zF <| zA <| zK ?_
      exact ⟨⟨(rfl : toAV (Al.look _ _) = some _).trans (congrArg some (by (unfold isM; ((try simp only [decide_eq_true_eq, decide_eq_false_iff_not, qc, ne_eq, beq_iff_eq, qd, beq_eq_false_iff_ne, Bool.not_eq_true', Bool.not_eq_false', gt_iff_lt, ge_iff_le] at *); (repeat simp (disch := omega) only [zO, z_] at *)); refine congrArg bv ?_; first | exact (decide_eq_true (by omega)).symm | exact (decide_eq_false (by omega)).symm | exact decide_eq_decide.2 (by omega)))), rfl⟩, trivial⟩
theorem ris_c (r : Int) : zn Tryz.prog Γ0 225 [rv r] [bv (isR r)] := by
  refine zZ Tryz.func225 rfl Tryz.ntmps225 (by kernel_rfl) rfl fun w0 I0 G0 => ?_
  refine zE <| zB <| g_u (zD rfl rfl) <| zF <| zA <| zE <| zB <| g_u (zC rfl rfl) <| g_u (s_geI rfl rfl rfl) <| g_u (zC rfl rfl) <| z6 (t := 5) rfl ?_
  rintro (hb1 | hb1)
  · rw [hb1]
    refine zX rfl rfl (zC rfl rfl) <| zX rfl rfl (s_leI rfl rfl rfl) <| g_u (zi rfl rfl rfl) <| g_u (zC rfl rfl) <| z6 (t := 9) rfl ?_
    rintro (hb2 | hb2)
    · rw [hb2]
      refine zX rfl rfl (zC rfl rfl) <| zX rfl rfl (yO rfl rfl rfl) <| zX rfl rfl (zC rfl rfl) <| z6 (t := 12) rfl ?_
      rintro (hb3 | hb3)
      · rw [hb3]
        refine zM rfl rfl rfl <| zM rfl rfl rfl <| zX rfl rfl (zi rfl rfl rfl) <| g_u (zi rfl rfl rfl) <| g_u (zD rfl rfl) <| zF <| zA <| zK ?_
        exact ⟨⟨(rfl : toAV (Al.look _ _) = some _).trans (congrArg some (by (unfold isR; ((try simp only [decide_eq_true_eq, decide_eq_false_iff_not, qc, ne_eq, beq_iff_eq, qd, beq_eq_false_iff_ne, Bool.not_eq_true', Bool.not_eq_false', gt_iff_lt, ge_iff_le] at *); (repeat simp (disch := omega) only [zO, z_] at *)); refine congrArg bv ?_; first | exact (decide_eq_true (by omega)).symm | exact (decide_eq_false (by omega)).symm | exact decide_eq_decide.2 (by omega)))), rfl⟩, trivial⟩
      · rw [hb3]
        refine zX rfl rfl (zC rfl rfl) <| zX rfl rfl (xA rfl rfl rfl) <| zX rfl rfl (zj rfl rfl rfl) <| g_u (zi rfl rfl rfl) <| g_u (zD rfl rfl) <| zF <| zA <| zK ?_
        exact ⟨⟨(rfl : toAV (Al.look _ _) = some _).trans (congrArg some (by (unfold isR; ((try simp only [decide_eq_true_eq, decide_eq_false_iff_not, qc, ne_eq, beq_iff_eq, qd, beq_eq_false_iff_ne, Bool.not_eq_true', Bool.not_eq_false', gt_iff_lt, ge_iff_le] at *); (repeat simp (disch := omega) only [zO, z_] at *)); refine congrArg bv ?_; first | exact (decide_eq_true (by omega)).symm | exact (decide_eq_false (by omega)).symm | exact decide_eq_decide.2 (by omega)))), rfl⟩, trivial⟩
    · rw [hb2]
      refine zM rfl rfl rfl <| zM rfl rfl rfl <| zM rfl rfl rfl <| g_skip' rfl rfl rfl <| g_skip' rfl rfl rfl <| zM rfl rfl rfl <| g_u (zj rfl rfl rfl) <| g_u (zD rfl rfl) <| zF <| zA <| zK ?_
      exact ⟨⟨(rfl : toAV (Al.look _ _) = some _).trans (congrArg some (by (unfold isR; ((try simp only [decide_eq_true_eq, decide_eq_false_iff_not, qc, ne_eq, beq_iff_eq, qd, beq_eq_false_iff_ne, Bool.not_eq_true', Bool.not_eq_false', gt_iff_lt, ge_iff_le] at *); (repeat simp (disch := omega) only [zO, z_] at *)); refine congrArg bv ?_; first | exact (decide_eq_true (by omega)).symm | exact (decide_eq_false (by omega)).symm | exact decide_eq_decide.2 (by omega)))), rfl⟩, trivial⟩
  · rw [hb1]
    refine zM rfl rfl rfl <| zM rfl rfl rfl <| g_u (zj rfl rfl rfl) <| g_u (zC rfl rfl) <| zM rfl rfl rfl <| zM rfl rfl rfl <| zM rfl rfl rfl <| g_skip' rfl rfl rfl <| g_skip' rfl rfl rfl <| zM rfl rfl rfl <| g_u (zj rfl rfl rfl) <| g_u (zD rfl rfl) <| zF <| zA <| zK ?_
    exact ⟨⟨(rfl : toAV (Al.look _ _) = some _).trans (congrArg some (by (unfold isR; ((try simp only [decide_eq_true_eq, decide_eq_false_iff_not, qc, ne_eq, beq_iff_eq, qd, beq_eq_false_iff_ne, Bool.not_eq_true', Bool.not_eq_false', gt_iff_lt, ge_iff_le] at *); (repeat simp (disch := omega) only [zO, z_] at *)); refine congrArg bv ?_; first | exact (decide_eq_true (by omega)).symm | exact (decide_eq_false (by omega)).symm | exact decide_eq_decide.2 (by omega)))), rfl⟩, trivial⟩
theorem rune_c (s : ByteArray) (p : Int) (hs : s.size < 9223372036854775808) : zn Tryz.prog Γ0 210 [sv s, iv p] [rv (wo s p).1, iv (wo s p).2] := by
  have hk := lengthM_range (bAt s p)
  refine zZ Tryz.func210 rfl Tryz.ntmps210 (by kernel_rfl) rfl fun w0 I0 G0 => ?_
  refine zE <| zB <| g_u (zD rfl rfl) <| g_u (zD rfl rfl) <| zF <| zA <| zE <| zE <| zB <| g_u (zC rfl rfl) <| g_u (yO rfl rfl rfl) <| g_u (zC rfl rfl) <| z6 (t := 11) rfl ?_
  rintro (hb1 | hb1)
  · rw [hb1]
    refine zM rfl rfl rfl <| zM rfl rfl rfl <| zM rfl rfl rfl <| zM rfl rfl rfl <| g_u (zi rfl rfl rfl) <| zF <| zA <| zu rfl <| zE <| zB <| g_u (zD rfl rfl) <| g_u (zD rfl rfl) <| zF <| zA <| zK <| zJ ?_
    exact ⟨⟨(rfl : toAV (Al.look _ _) = some _).trans (congrArg some (by (unfold wo; ((try simp only [decide_eq_true_eq, decide_eq_false_iff_not, qc, ne_eq, beq_iff_eq, qd, beq_eq_false_iff_ne, Bool.not_eq_true', Bool.not_eq_false', gt_iff_lt, ge_iff_le] at *); (repeat simp (disch := omega) only [zO, z_] at *)); first | (rw [if_pos (by omega)]; first | done | rfl) | (rw [if_neg (by omega), if_pos (by omega)]; first | done | rfl) | (rw [if_neg (by omega), if_neg (by omega), if_pos (by omega)]; first | done | rfl)))), rfl⟩, ⟨(rfl : toAV (Al.look _ _) = some _).trans (congrArg some (by (unfold wo; ((try simp only [decide_eq_true_eq, decide_eq_false_iff_not, qc, ne_eq, beq_iff_eq, qd, beq_eq_false_iff_ne, Bool.not_eq_true', Bool.not_eq_false', gt_iff_lt, ge_iff_le] at *); (repeat simp (disch := omega) only [zO, z_] at *)); first | (rw [if_pos (by omega)]; first | done | rfl) | (rw [if_neg (by omega), if_pos (by omega)]; first | done | rfl) | (rw [if_neg (by omega), if_neg (by omega), if_pos (by omega)]; first | done | rfl)))), rfl⟩, trivial⟩
  · rw [hb1]
    refine zX rfl rfl (zC rfl rfl) <| zX rfl rfl (zC rfl rfl) <| zX rfl rfl (yR rfl rfl Tryz.underlying9) <| zX rfl rfl (s_geI rfl rfl rfl) <| g_u (zj rfl rfl rfl) <| zF <| zA ?_
    refine zL rfl (fun hb2 => ?_) (fun hb2 => ?_)
    · refine zE ?_
      refine zB <| g_u (zD rfl rfl) <| g_u (zD rfl rfl) <| zF <| zA <| zK <| zJ ?_
      exact ⟨⟨(rfl : toAV (Al.look _ _) = some _).trans (congrArg some (by (unfold wo; ((try simp only [decide_eq_true_eq, decide_eq_false_iff_not, qc, ne_eq, beq_iff_eq, qd, beq_eq_false_iff_ne, Bool.not_eq_true', Bool.not_eq_false', gt_iff_lt, ge_iff_le] at *); (repeat simp (disch := omega) only [zO, z_] at *)); first | (rw [if_pos (by omega)]; first | done | rfl) | (rw [if_neg (by omega), if_pos (by omega)]; first | done | rfl) | (rw [if_neg (by omega), if_neg (by omega), if_pos (by omega)]; first | done | rfl)))), rfl⟩, ⟨(rfl : toAV (Al.look _ _) = some _).trans (congrArg some (by (unfold wo; ((try simp only [decide_eq_true_eq, decide_eq_false_iff_not, qc, ne_eq, beq_iff_eq, qd, beq_eq_false_iff_ne, Bool.not_eq_true', Bool.not_eq_false', gt_iff_lt, ge_iff_le] at *); (repeat simp (disch := omega) only [zO, z_] at *)); first | (rw [if_pos (by omega)]; first | done | rfl) | (rw [if_neg (by omega), if_pos (by omega)]; first | done | rfl) | (rw [if_neg (by omega), if_neg (by omega), if_pos (by omega)]; first | done | rfl)))), rfl⟩, trivial⟩
    · refine zN ?_
      refine zA <| zE <| zB <| g_u (zC rfl rfl) <| g_u (zC rfl rfl) ?_
      refine g_u (si_ix rfl rfl rfl Tryz.underlying9 (by ((try simp only [decide_eq_true_eq, decide_eq_false_iff_not, qc, ne_eq, beq_iff_eq, qd, beq_eq_false_iff_ne, Bool.not_eq_true', Bool.not_eq_false', gt_iff_lt, ge_iff_le] at *); (repeat simp (disch := omega) only [zO, z_] at *)); omega)) ?_
      refine g_u (zQ (length_c _) rfl rfl) <| g_u (zD rfl rfl) <| zF <| zA <| zE <| zE <| zB <| g_u (zC rfl rfl) <| g_u (yM rfl rfl rfl) <| g_u (zC rfl rfl) <| z6 (t := 23) rfl ?_
      rintro (hb3 | hb3)
      · rw [hb3]
        refine zM rfl rfl rfl <| zM rfl rfl rfl <| zM rfl rfl rfl <| zM rfl rfl rfl <| zM rfl rfl rfl <| zM rfl rfl rfl <| g_u (zi rfl rfl rfl) <| zF <| zA <| zu rfl <| zE <| zB <| g_u (zD rfl rfl) <| g_u (zD rfl rfl) <| zF <| zA <| zK <| zJ ?_
        exact ⟨⟨(rfl : toAV (Al.look _ _) = some _).trans (congrArg some (by (unfold wo; ((try simp only [decide_eq_true_eq, decide_eq_false_iff_not, qc, ne_eq, beq_iff_eq, qd, beq_eq_false_iff_ne, Bool.not_eq_true', Bool.not_eq_false', gt_iff_lt, ge_iff_le] at *); (repeat simp (disch := omega) only [zO, z_] at *)); first | (rw [if_pos (by omega)]; first | done | rfl) | (rw [if_neg (by omega), if_pos (by omega)]; first | done | rfl) | (rw [if_neg (by omega), if_neg (by omega), if_pos (by omega)]; first | done | rfl)))), rfl⟩, ⟨(rfl : toAV (Al.look _ _) = some _).trans (congrArg some (by (unfold wo; ((try simp only [decide_eq_true_eq, decide_eq_false_iff_not, qc, ne_eq, beq_iff_eq, qd, beq_eq_false_iff_ne, Bool.not_eq_true', Bool.not_eq_false', gt_iff_lt, ge_iff_le] at *); (repeat simp (disch := omega) only [zO, z_] at *)); first | (rw [if_pos (by omega)]; first | done | rfl) | (rw [if_neg (by omega), if_pos (by omega)]; first | done | rfl) | (rw [if_neg (by omega), if_neg (by omega), if_pos (by omega)]; first | done | rfl)))), rfl⟩, trivial⟩
      · rw [hb3]
        refine zX rfl rfl (zC rfl rfl) <| zX rfl rfl (zC rfl rfl) <| zX rfl rfl (yR rfl rfl Tryz.underlying9) <| zX rfl rfl (zC rfl rfl) <| zX rfl rfl (vK rfl rfl rfl) <| zX rfl rfl (xA rfl rfl rfl) <| g_u (zj rfl rfl rfl) <| zF <| zA ?_
        refine zL rfl (fun hb4 => ?_) (fun hb4 => ?_)
        · refine zE ?_
          refine zB <| g_u (zD rfl rfl) <| g_u (zD rfl rfl) <| zF <| zA <| zK <| zJ ?_
          exact ⟨⟨(rfl : toAV (Al.look _ _) = some _).trans (congrArg some (by (unfold wo; ((try simp only [decide_eq_true_eq, decide_eq_false_iff_not, qc, ne_eq, beq_iff_eq, qd, beq_eq_false_iff_ne, Bool.not_eq_true', Bool.not_eq_false', gt_iff_lt, ge_iff_le] at *); (repeat simp (disch := omega) only [zO, z_] at *)); first | (rw [if_pos (by omega)]; first | done | rfl) | (rw [if_neg (by omega), if_pos (by omega)]; first | done | rfl) | (rw [if_neg (by omega), if_neg (by omega), if_pos (by omega)]; first | done | rfl)))), rfl⟩, ⟨(rfl : toAV (Al.look _ _) = some _).trans (congrArg some (by (unfold wo; ((try simp only [decide_eq_true_eq, decide_eq_false_iff_not, qc, ne_eq, beq_iff_eq, qd, beq_eq_false_iff_ne, Bool.not_eq_true', Bool.not_eq_false', gt_iff_lt, ge_iff_le] at *); (repeat simp (disch := omega) only [zO, z_] at *)); first | (rw [if_pos (by omega)]; first | done | rfl) | (rw [if_neg (by omega), if_pos (by omega)]; first | done | rfl) | (rw [if_neg (by omega), if_neg (by omega), if_pos (by omega)]; first | done | rfl)))), rfl⟩, trivial⟩
        · refine zN ?_
          refine zA <| zE <| zE <| zB <| g_u (zC rfl rfl) <| g_u (yM rfl rfl rfl) <| zF <| zA ?_
          refine zL rfl (fun hb5 => ?_) (fun hb5 => ?_)
          · refine zE ?_
            refine zB <| g_u (zC rfl rfl) <| g_u (zC rfl rfl) ?_
            refine g_u (si_ix rfl rfl rfl Tryz.underlying9 (by ((try simp only [decide_eq_true_eq, decide_eq_false_iff_not, qc, ne_eq, beq_iff_eq, qd, beq_eq_false_iff_ne, Bool.not_eq_true', Bool.not_eq_false', gt_iff_lt, ge_iff_le] at *); (repeat simp (disch := omega) only [zO, z_] at *)); omega)) ?_
            refine g_u (xL rfl rfl Tryz.underlying5 Tryz.underlying21) <| g_u (zD rfl rfl) <| g_u (zD rfl rfl) <| zF <| zA <| zK <| zJ ?_
            exact ⟨⟨(rfl : toAV (Al.look _ _) = some _).trans (congrArg some (by (unfold wo; ((try simp only [decide_eq_true_eq, decide_eq_false_iff_not, qc, ne_eq, beq_iff_eq, qd, beq_eq_false_iff_ne, Bool.not_eq_true', Bool.not_eq_false', gt_iff_lt, ge_iff_le] at *); (repeat simp (disch := omega) only [zO, z_] at *)); first | (rw [if_pos (by omega)]; first | done | rfl) | (rw [if_neg (by omega), if_pos (by omega)]; first | done | rfl) | (rw [if_neg (by omega), if_neg (by omega), if_pos (by omega)]; first | done | rfl)))), rfl⟩, ⟨(rfl : toAV (Al.look _ _) = some _).trans (congrArg some (by (unfold wo; ((try simp only [decide_eq_true_eq, decide_eq_false_iff_not, qc, ne_eq, beq_iff_eq, qd, beq_eq_false_iff_ne, Bool.not_eq_true', Bool.not_eq_false', gt_iff_lt, ge_iff_le] at *); (repeat simp (disch := omega) only [zO, z_] at *)); first | (rw [if_pos (by omega)]; first | done | rfl) | (rw [if_neg (by omega), if_pos (by omega)]; first | done | rfl) | (rw [if_neg (by omega), if_neg (by omega), if_pos (by omega)]; first | done | rfl)))), rfl⟩, trivial⟩
          · refine zN ?_
            refine zA <| zE <| yZ xr <| g_u (zC rfl rfl) <| g_u (zC rfl rfl) ?_
            refine g_u (si_ix rfl rfl rfl Tryz.underlying9 (by ((try simp only [decide_eq_true_eq, decide_eq_false_iff_not, qc, ne_eq, beq_iff_eq, qd, beq_eq_false_iff_ne, Bool.not_eq_true', Bool.not_eq_false', gt_iff_lt, ge_iff_le] at *); (repeat simp (disch := omega) only [zO, z_] at *)); omega)) ?_
            refine g_u (xL rfl rfl Tryz.underlying5 Tryz.underlying21) <| g_u (zC rfl rfl) ?_
            refine g_u (s_shr rfl rfl rfl (by first | decide | omega | (((try simp only [decide_eq_true_eq, decide_eq_false_iff_not, qc, ne_eq, beq_iff_eq, qd, beq_eq_false_iff_ne, Bool.not_eq_true', Bool.not_eq_false', gt_iff_lt, ge_iff_le] at *); (repeat simp (disch := omega) only [zO, z_] at *)); omega))) ?_
            refine g_u (s_and rfl rfl rfl) <| g_u (zD rfl rfl) ?_
            refine zF ⟨by kernel_rfl, ?_⟩
            refine zA <| zE <| zE <| zB <| g_u (zD rfl rfl) <| zF <| zA <| zS ?_
            refine zr (fun j : Nat × Int × Int => [(0, .imm (sv s)), (1, .imm (iv p)), (4, .imm (rv j.2.2)), (6, .imm (iv (yg (bAt s p)))), (7, .imm (iv j.2.1))]) (fun j => 1 ≤ j.2.1 ∧ j.2.1 + j.1 = yg (bAt s p) ∧ wI s p j.1 j.2.1 j.2.2 = wI s p (yg (bAt s p) - 1).toNat 1 (r0M (bAt s p) (yg (bAt s p)))) (fun j => j.1) (⟨(yg (bAt s p) - 1).toNat, 1, r0M (bAt s p) (yg (bAt s p))⟩) ?_ ⟨rfl, rfl, rfl, rfl, rfl, trivial⟩ ?_
            · exact ⟨Int.le_refl 1, by ((try simp only [decide_eq_true_eq, decide_eq_false_iff_not, qc, ne_eq, beq_iff_eq, qd, beq_eq_false_iff_ne, Bool.not_eq_true', Bool.not_eq_false', gt_iff_lt, ge_iff_le] at *); (repeat simp (disch := omega) only [zO, z_] at *)); omega, rfl⟩
            · rintro ⟨n, i, r⟩ ⟨h1, h2, h3⟩; dsimp only at h1 h2 h3
              refine zE <| zE <| zB <| g_u (zC rfl rfl) <| g_u (zC rfl rfl) <| g_u (yO rfl rfl rfl) <| zF <| zA ?_
              refine zL rfl (fun hb6 => ?_) (fun hb6 => ?_)
              · refine zN ?_
                refine zA <| zE <| zS <| zE <| zB <| g_u (zC rfl rfl) <| g_u (zC rfl rfl) <| g_u (zC rfl rfl) <| g_u (zt rfl rfl rfl) ?_
                refine g_u (si_ix rfl rfl rfl Tryz.underlying9 (by ((try simp only [decide_eq_true_eq, decide_eq_false_iff_not, qc, ne_eq, beq_iff_eq, qd, beq_eq_false_iff_ne, Bool.not_eq_true', Bool.not_eq_false', gt_iff_lt, ge_iff_le] at *); (repeat simp (disch := omega) only [zO, z_] at *)); omega)) ?_
                refine g_u (zD rfl rfl) <| zF <| zA <| zE <| zE <| zB <| g_u (zC rfl rfl) <| g_u (s_and rfl rfl rfl) <| g_u (y9 rfl rfl rfl) <| zF <| zA ?_
                refine zL rfl (fun hb7 => ?_) (fun hb7 => ?_)
                · refine zE ?_
                  refine zB <| g_u (zD rfl rfl) <| g_u (zD rfl rfl) <| zF <| zA <| zK <| zJ <| zf <| zJ <| zJ <| zf <| zJ ?_
                  have e1 : IntKind.i64.wrap (p + i) = p + i := by ((try simp only [decide_eq_true_eq, decide_eq_false_iff_not, qc, ne_eq, beq_iff_eq, qd, beq_eq_false_iff_ne, Bool.not_eq_true', Bool.not_eq_false', gt_iff_lt, ge_iff_le] at *); (repeat simp (disch := omega) only [zO, z_] at *))
                  obtain ⟨m, rfl⟩ : ∃ m, n = m + 1 := ⟨n - 1, by ((try simp only [decide_eq_true_eq, decide_eq_false_iff_not, qc, ne_eq, beq_iff_eq, qd, beq_eq_false_iff_ne, Bool.not_eq_true', Bool.not_eq_false', gt_iff_lt, ge_iff_le] at *); (repeat simp (disch := omega) only [zO, z_] at *)); omega⟩
                  rw [e1] at hb7
                  change badM (bAt s (p + i)) = true at hb7
                  rw [wI, if_pos hb7] at h3
                  have E : wo s p = (0, 0) := by
                    unfold wo; ((try simp only [decide_eq_true_eq, decide_eq_false_iff_not, qc, ne_eq, beq_iff_eq, qd, beq_eq_false_iff_ne, Bool.not_eq_true', Bool.not_eq_false', gt_iff_lt, ge_iff_le] at *); (repeat simp (disch := omega) only [zO, z_] at *)); rw [if_neg (by omega), if_neg (by omega), if_neg (by omega), ← h3]
                  exact ⟨⟨(rfl : toAV (Al.look _ _) = some _).trans (congrArg some (by rw [E])), rfl⟩, ⟨(rfl : toAV (Al.look _ _) = some _).trans (congrArg some (by rw [E])), rfl⟩, trivial⟩
                · refine zN ?_
                  refine zA <| zB <| g_u (zC rfl rfl) ?_
                  refine g_u (s_shl rfl rfl rfl (by first | decide | omega | (((try simp only [decide_eq_true_eq, decide_eq_false_iff_not, qc, ne_eq, beq_iff_eq, qd, beq_eq_false_iff_ne, Bool.not_eq_true', Bool.not_eq_false', gt_iff_lt, ge_iff_le] at *); (repeat simp (disch := omega) only [zO, z_] at *)); omega))) ?_
                  refine g_u (zC rfl rfl) <| g_u (s_and rfl rfl rfl) <| g_u (xL rfl rfl Tryz.underlying5 Tryz.underlying21) <| g_u (s_or rfl rfl rfl) <| g_u (zD rfl rfl) <| zF <| zP <| zA <| zB <| g_u (zC rfl rfl) <| g_u (zt rfl rfl rfl) <| g_u (zD rfl rfl) <| zF <| zA ?_
                  have e1 : IntKind.i64.wrap (p + i) = p + i := by ((try simp only [decide_eq_true_eq, decide_eq_false_iff_not, qc, ne_eq, beq_iff_eq, qd, beq_eq_false_iff_ne, Bool.not_eq_true', Bool.not_eq_false', gt_iff_lt, ge_iff_le] at *); (repeat simp (disch := omega) only [zO, z_] at *))
                  have e2 : IntKind.i64.wrap (i + 1) = i + 1 := by ((try simp only [decide_eq_true_eq, decide_eq_false_iff_not, qc, ne_eq, beq_iff_eq, qd, beq_eq_false_iff_ne, Bool.not_eq_true', Bool.not_eq_false', gt_iff_lt, ge_iff_le] at *); (repeat simp (disch := omega) only [zO, z_] at *))
                  obtain ⟨m, rfl⟩ : ∃ m, n = m + 1 := ⟨n - 1, by ((try simp only [decide_eq_true_eq, decide_eq_false_iff_not, qc, ne_eq, beq_iff_eq, qd, beq_eq_false_iff_ne, Bool.not_eq_true', Bool.not_eq_false', gt_iff_lt, ge_iff_le] at *); (repeat simp (disch := omega) only [zO, z_] at *)); omega⟩
                  rw [e1] at hb7
                  change badM (bAt s (p + i)) = false at hb7
                  rw [wI, if_neg (by rw [hb7]; decide)] at h3
                  refine ⟨⟨m, IntKind.i64.wrap (i + 1), stepM r (bAt s (IntKind.i64.wrap (p + i)))⟩, ⟨?_, ?_, ?_⟩, ⟨rfl, rfl, rfl, rfl, rfl, trivial⟩, Nat.lt_succ_self _⟩
                  · show 1 ≤ IntKind.i64.wrap (i + 1)
                    rw [e2]; omega
                  · show IntKind.i64.wrap (i + 1) + (m : Int) = _
                    rw [e2]; omega
                  · show wI s p m (IntKind.i64.wrap (i + 1)) (stepM r (bAt s (IntKind.i64.wrap (p + i)))) = _
                    rw [e1, e2]; exact h3
              · refine zw ?_
                refine zT <| zT <| zo <| zA <| zE <| zE <| zB <| g_u (zC rfl rfl) <| g_u (zC rfl rfl) <| g_u (zQ (least_c _) rfl rfl) <| g_u (yO rfl rfl rfl) <| g_u (zC rfl rfl) <| z6 (t := 67) rfl ?_
                rintro (hb8 | hb8)
                · rw [hb8]
                  refine zM rfl rfl rfl <| zM rfl rfl rfl <| zM rfl rfl rfl <| g_u (zi rfl rfl rfl) <| zF <| zA <| zu rfl <| zE <| zB <| g_u (zD rfl rfl) <| g_u (zD rfl rfl) <| zF <| zA <| zK <| zJ ?_
                  obtain rfl : n = 0 := by ((try simp only [decide_eq_true_eq, decide_eq_false_iff_not, qc, ne_eq, beq_iff_eq, qd, beq_eq_false_iff_ne, Bool.not_eq_true', Bool.not_eq_false', gt_iff_lt, ge_iff_le] at *); (repeat simp (disch := omega) only [zO, z_] at *)); omega
                  change some r = _ at h3
                  have E : wo s p = (0, 0) := by
                    unfold wo; ((try simp only [decide_eq_true_eq, decide_eq_false_iff_not, qc, ne_eq, beq_iff_eq, qd, beq_eq_false_iff_ne, Bool.not_eq_true', Bool.not_eq_false', gt_iff_lt, ge_iff_le] at *); (repeat simp (disch := omega) only [zO, z_] at *)); rw [if_neg (by omega), if_neg (by omega), if_neg (by omega), ← h3]; dsimp only; rw [if_pos (.inl (by omega))]
                  exact ⟨⟨(rfl : toAV (Al.look _ _) = some _).trans (congrArg some (by rw [E])), rfl⟩, ⟨(rfl : toAV (Al.look _ _) = some _).trans (congrArg some (by rw [E])), rfl⟩, trivial⟩
                · rw [hb8]
                  refine zX rfl rfl (zC rfl rfl) <| zX rfl rfl (zQ (is_c _) rfl rfl) <| zX rfl rfl (s_not rfl rfl) <| g_u (zj rfl rfl rfl) <| zF <| zA ?_
                  refine zL rfl (fun hb9 => ?_) (fun hb9 => ?_)
                  · refine zE ?_
                    refine zB <| g_u (zD rfl rfl) <| g_u (zD rfl rfl) <| zF <| zA <| zK <| zJ ?_
                    obtain rfl : n = 0 := by ((try simp only [decide_eq_true_eq, decide_eq_false_iff_not, qc, ne_eq, beq_iff_eq, qd, beq_eq_false_iff_ne, Bool.not_eq_true', Bool.not_eq_false', gt_iff_lt, ge_iff_le] at *); (repeat simp (disch := omega) only [zO, z_] at *)); omega
                    change some r = _ at h3
                    have E : wo s p = (0, 0) := by
                      unfold wo; ((try simp only [decide_eq_true_eq, decide_eq_false_iff_not, qc, ne_eq, beq_iff_eq, qd, beq_eq_false_iff_ne, Bool.not_eq_true', Bool.not_eq_false', gt_iff_lt, ge_iff_le] at *); (repeat simp (disch := omega) only [zO, z_] at *)); rw [if_neg (by omega), if_neg (by omega), if_neg (by omega), ← h3]; dsimp only; rw [if_pos (.inr (by first | assumption | simp_all))]
                    exact ⟨⟨(rfl : toAV (Al.look _ _) = some _).trans (congrArg some (by rw [E])), rfl⟩, ⟨(rfl : toAV (Al.look _ _) = some _).trans (congrArg some (by rw [E])), rfl⟩, trivial⟩
                  · refine zN ?_
                    refine zA <| zE <| zB <| g_u (zC rfl rfl) <| g_u (zC rfl rfl) <| g_u (zD rfl rfl) <| g_u (zD rfl rfl) <| zF <| zA <| zK ?_
                    obtain rfl : n = 0 := by ((try simp only [decide_eq_true_eq, decide_eq_false_iff_not, qc, ne_eq, beq_iff_eq, qd, beq_eq_false_iff_ne, Bool.not_eq_true', Bool.not_eq_false', gt_iff_lt, ge_iff_le] at *); (repeat simp (disch := omega) only [zO, z_] at *)); omega
                    change some r = _ at h3
                    have E : wo s p = (r, yg (bAt s p)) := by
                      unfold wo; ((try simp only [decide_eq_true_eq, decide_eq_false_iff_not, qc, ne_eq, beq_iff_eq, qd, beq_eq_false_iff_ne, Bool.not_eq_true', Bool.not_eq_false', gt_iff_lt, ge_iff_le] at *); (repeat simp (disch := omega) only [zO, z_] at *)); rw [if_neg (by omega), if_neg (by omega), if_neg (by omega), ← h3]; dsimp only; rw [if_neg (by simp_all)]
                    exact ⟨⟨(rfl : toAV (Al.look _ _) = some _).trans (congrArg some (by rw [E])), rfl⟩, ⟨(rfl : toAV (Al.look _ _) = some _).trans (congrArg some (by rw [E])), rfl⟩, trivial⟩
theorem guess_c (s : ByteArray) (hs : s.size < 9223372036854775808) (h0 : 0 < s.size) : zn Tryz.prog Γ0 224 [sv s] [iv (wq s)] := by
  have hb0 := wT s 0
  refine zZ Tryz.func224 rfl Tryz.ntmps224 (by kernel_rfl) rfl fun w0 I0 G0 => ?_
  refine zE <| zB <| g_u (zD rfl rfl) <| zF <| zA <| zE <| zB <| g_u (zC rfl rfl) ?_
  refine g_u (si_ix rfl rfl rfl Tryz.underlying9 (by ((try simp only [decide_eq_true_eq, decide_eq_false_iff_not, qc, ne_eq, beq_iff_eq, qd, beq_eq_false_iff_ne, Bool.not_eq_true', Bool.not_eq_false', gt_iff_lt, ge_iff_le] at *); (repeat simp (disch := omega) only [zO, z_] at *)); omega)) ?_
  refine g_u (xL rfl rfl Tryz.underlying5 Tryz.underlying3) <| g_u (zD rfl rfl) <| zF <| zA <| zE <| zE <| zB <| g_u (zC rfl rfl) <| g_u (yO rfl rfl rfl) <| zF <| zA ?_
  refine zL rfl (fun hb1 => ?_) (fun hb1 => ?_)
  · refine zE ?_
    refine zB <| g_u (zC rfl rfl) <| g_u (zD rfl rfl) <| zF <| zA <| zK <| zJ ?_
    exact ⟨⟨(rfl : toAV (Al.look _ _) = some _).trans (congrArg some (by (unfold wq; ((try simp only [decide_eq_true_eq, decide_eq_false_iff_not, qc, ne_eq, beq_iff_eq, qd, beq_eq_false_iff_ne, Bool.not_eq_true', Bool.not_eq_false', gt_iff_lt, ge_iff_le] at *); (repeat simp (disch := omega) only [zO, z_] at *)); rw [if_pos (by omega)]))), rfl⟩, trivial⟩
  · refine zN ?_
    refine zA <| zE <| zB <| g_u (zC rfl rfl) <| g_u (vK rfl rfl rfl) <| g_u (zD rfl rfl) <| g_u (zD rfl rfl) <| zF <| zA <| zE <| zE <| zB <| g_u (zC rfl rfl) <| g_u (s_geI rfl rfl rfl) <| zF <| zA ?_
    refine zL rfl (fun hb2 => ?_) (fun hb2 => ?_)
    · refine zB ?_
      refine g_u (zC rfl rfl) <| g_u (vK rfl rfl rfl) <| g_u (zD rfl rfl) <| g_u (zD rfl rfl) <| zF <| zA <| zE <| zE <| zB <| g_u (zD rfl rfl) <| zF <| zA <| zS ?_
      refine zr (fun j : Nat × Int × Int => [(0, .imm (sv s)), (4, .imm (iv j.2.2)), (5, .imm (iv 3)), (6, .imm (iv j.2.1))]) (fun j => j.2.1 + j.1 = 4 ∧ ((j.2.1 = 1 ∧ -300 ≤ j.2.2 ∧ j.2.2 ≤ 300) ∨ (j.2.1 = 2 ∧ -20000 ≤ j.2.2 ∧ j.2.2 ≤ 20000) ∨ (j.2.1 = 3 ∧ -1400000 ≤ j.2.2 ∧ j.2.2 ≤ 1400000) ∨ (j.2.1 = 4 ∧ -99000000 ≤ j.2.2 ∧ j.2.2 ≤ 99000000)) ∧ xQ s j.1 j.2.1 j.2.2 = wq s) (fun j => j.1) (⟨3, 1, IntKind.i64.wrap (IntKind.i64.wrap (bAt s 0) - 240)⟩) ?_ ⟨rfl, rfl, rfl, rfl, trivial⟩ ?_
      · refine ⟨rfl, .inl ⟨rfl, by dsimp only; ((try simp only [decide_eq_true_eq, decide_eq_false_iff_not, qc, ne_eq, beq_iff_eq, qd, beq_eq_false_iff_ne, Bool.not_eq_true', Bool.not_eq_false', gt_iff_lt, ge_iff_le] at *); (repeat simp (disch := omega) only [zO, z_] at *)); omega⟩, ?_⟩; unfold wq; ((try simp only [decide_eq_true_eq, decide_eq_false_iff_not, qc, ne_eq, beq_iff_eq, qd, beq_eq_false_iff_ne, Bool.not_eq_true', Bool.not_eq_false', gt_iff_lt, ge_iff_le] at *); (repeat simp (disch := omega) only [zO, z_] at *)); rw [if_neg (by omega), if_pos (by omega)]
      · rintro ⟨n, i, r⟩ ⟨h1, h2, h3⟩; dsimp only at h1 h2 h3
        refine zE <| zE <| zB <| g_u (zC rfl rfl) <| g_u (zC rfl rfl) <| g_u (s_leI rfl rfl rfl) <| zF <| zA ?_
        refine zL rfl (fun hb3 => ?_) (fun hb3 => ?_)
        · refine zN ?_
          refine zA <| zE <| zS <| zE <| zE <| zB <| g_u (zC rfl rfl) <| g_u (zC rfl rfl) <| g_u (yR rfl rfl Tryz.underlying9) <| g_u (s_geI rfl rfl rfl) <| zF <| zA ?_
          refine zL rfl (fun hb4 => ?_) (fun hb4 => ?_)
          · refine zE ?_
            refine zB <| g_u (zD rfl rfl) <| zF <| zA <| zK <| zJ <| zf <| zJ <| zJ <| zf <| zJ ?_
            obtain ⟨m, rfl⟩ : ∃ m, n = m + 1 := ⟨n - 1, by ((try simp only [decide_eq_true_eq, decide_eq_false_iff_not, qc, ne_eq, beq_iff_eq, qd, beq_eq_false_iff_ne, Bool.not_eq_true', Bool.not_eq_false', gt_iff_lt, ge_iff_le] at *); (repeat simp (disch := omega) only [zO, z_] at *)); omega⟩
            rw [xQ, if_pos (by ((try simp only [decide_eq_true_eq, decide_eq_false_iff_not, qc, ne_eq, beq_iff_eq, qd, beq_eq_false_iff_ne, Bool.not_eq_true', Bool.not_eq_false', gt_iff_lt, ge_iff_le] at *); (repeat simp (disch := omega) only [zO, z_] at *)); omega)] at h3
            exact ⟨⟨(rfl : toAV (Al.look _ _) = some _).trans (congrArg some (by rw [← h3])), rfl⟩, trivial⟩
          · refine zN ?_
            refine zA <| zB <| g_u (zC rfl rfl) <| g_u (s_mul rfl rfl rfl) <| g_u (zC rfl rfl) <| g_u (zC rfl rfl) ?_
            refine g_u (si_ix rfl rfl rfl Tryz.underlying9 (by ((try simp only [decide_eq_true_eq, decide_eq_false_iff_not, qc, ne_eq, beq_iff_eq, qd, beq_eq_false_iff_ne, Bool.not_eq_true', Bool.not_eq_false', gt_iff_lt, ge_iff_le] at *); (repeat simp (disch := omega) only [zO, z_] at *)); omega)) ?_
            refine g_u (xL rfl rfl Tryz.underlying5 Tryz.underlying3) <| g_u (zt rfl rfl rfl) <| g_u (vK rfl rfl rfl) <| g_u (zD rfl rfl) <| zF <| zP <| zA <| zB <| g_u (zC rfl rfl) <| g_u (zt rfl rfl rfl) <| g_u (zD rfl rfl) <| zF <| zA ?_
            have hb := wT s i
            obtain ⟨m, rfl⟩ : ∃ m, n = m + 1 := ⟨n - 1, by ((try simp only [decide_eq_true_eq, decide_eq_false_iff_not, qc, ne_eq, beq_iff_eq, qd, beq_eq_false_iff_ne, Bool.not_eq_true', Bool.not_eq_false', gt_iff_lt, ge_iff_le] at *); (repeat simp (disch := omega) only [zO, z_] at *)); omega⟩
            rw [xQ, if_neg (by ((try simp only [decide_eq_true_eq, decide_eq_false_iff_not, qc, ne_eq, beq_iff_eq, qd, beq_eq_false_iff_ne, Bool.not_eq_true', Bool.not_eq_false', gt_iff_lt, ge_iff_le] at *); (repeat simp (disch := omega) only [zO, z_] at *)); omega)] at h3
            rw [show (64 * r + bAt s i - 128 : Int) = IntKind.i64.wrap (IntKind.i64.wrap (IntKind.i64.wrap (64 * r) + IntKind.i64.wrap (bAt s i)) - 128) by ((try simp only [decide_eq_true_eq, decide_eq_false_iff_not, qc, ne_eq, beq_iff_eq, qd, beq_eq_false_iff_ne, Bool.not_eq_true', Bool.not_eq_false', gt_iff_lt, ge_iff_le] at *); (repeat simp (disch := omega) only [zO, z_] at *)), show (i + 1 : Int) = IntKind.i64.wrap (i + 1) by ((try simp only [decide_eq_true_eq, decide_eq_false_iff_not, qc, ne_eq, beq_iff_eq, qd, beq_eq_false_iff_ne, Bool.not_eq_true', Bool.not_eq_false', gt_iff_lt, ge_iff_le] at *); (repeat simp (disch := omega) only [zO, z_] at *))] at h3
            exact ⟨⟨m, IntKind.i64.wrap (i + 1), IntKind.i64.wrap (IntKind.i64.wrap (IntKind.i64.wrap (64 * r) + IntKind.i64.wrap (bAt s i)) - 128)⟩, ⟨by dsimp only; ((try simp only [decide_eq_true_eq, decide_eq_false_iff_not, qc, ne_eq, beq_iff_eq, qd, beq_eq_false_iff_ne, Bool.not_eq_true', Bool.not_eq_false', gt_iff_lt, ge_iff_le] at *); (repeat simp (disch := omega) only [zO, z_] at *)); omega, by dsimp only; ((try simp only [decide_eq_true_eq, decide_eq_false_iff_not, qc, ne_eq, beq_iff_eq, qd, beq_eq_false_iff_ne, Bool.not_eq_true', Bool.not_eq_false', gt_iff_lt, ge_iff_le] at *); (repeat simp (disch := omega) only [zO, z_] at *)); omega, h3⟩, ⟨rfl, rfl, rfl, rfl, trivial⟩, Nat.lt_succ_self _⟩
        · refine zw ?_
          refine zT <| zT <| zo <| zA <| zE <| zB <| g_u (zC rfl rfl) <| g_u (zD rfl rfl) <| zF <| zA <| zK ?_
          obtain rfl : n = 0 := by ((try simp only [decide_eq_true_eq, decide_eq_false_iff_not, qc, ne_eq, beq_iff_eq, qd, beq_eq_false_iff_ne, Bool.not_eq_true', Bool.not_eq_false', gt_iff_lt, ge_iff_le] at *); (repeat simp (disch := omega) only [zO, z_] at *)); omega
          change r = _ at h3
          exact ⟨⟨(rfl : toAV (Al.look _ _) = some _).trans (congrArg some (by rw [← h3])), rfl⟩, trivial⟩
    · refine zE ?_
      refine zB <| g_u (zC rfl rfl) <| g_u (s_geI rfl rfl rfl) <| zF <| zA ?_
      refine zL rfl (fun hb5 => ?_) (fun hb5 => ?_)
      · refine zB ?_
        refine g_u (zC rfl rfl) <| g_u (vK rfl rfl rfl) <| g_u (zD rfl rfl) <| g_u (zD rfl rfl) <| zF <| zA <| zE <| zE <| zB <| g_u (zD rfl rfl) <| zF <| zA <| zS ?_
        refine zr (fun j : Nat × Int × Int => [(0, .imm (sv s)), (4, .imm (iv j.2.2)), (5, .imm (iv 2)), (6, .imm (iv j.2.1))]) (fun j => j.2.1 + j.1 = 3 ∧ ((j.2.1 = 1 ∧ -300 ≤ j.2.2 ∧ j.2.2 ≤ 300) ∨ (j.2.1 = 2 ∧ -20000 ≤ j.2.2 ∧ j.2.2 ≤ 20000) ∨ (j.2.1 = 3 ∧ -1400000 ≤ j.2.2 ∧ j.2.2 ≤ 1400000) ∨ (j.2.1 = 4 ∧ -99000000 ≤ j.2.2 ∧ j.2.2 ≤ 99000000)) ∧ xQ s j.1 j.2.1 j.2.2 = wq s) (fun j => j.1) (⟨2, 1, IntKind.i64.wrap (IntKind.i64.wrap (bAt s 0) - 224)⟩) ?_ ⟨rfl, rfl, rfl, rfl, trivial⟩ ?_
        · refine ⟨rfl, .inl ⟨rfl, by dsimp only; ((try simp only [decide_eq_true_eq, decide_eq_false_iff_not, qc, ne_eq, beq_iff_eq, qd, beq_eq_false_iff_ne, Bool.not_eq_true', Bool.not_eq_false', gt_iff_lt, ge_iff_le] at *); (repeat simp (disch := omega) only [zO, z_] at *)); omega⟩, ?_⟩; unfold wq; ((try simp only [decide_eq_true_eq, decide_eq_false_iff_not, qc, ne_eq, beq_iff_eq, qd, beq_eq_false_iff_ne, Bool.not_eq_true', Bool.not_eq_false', gt_iff_lt, ge_iff_le] at *); (repeat simp (disch := omega) only [zO, z_] at *)); rw [if_neg (by omega), if_neg (by omega), if_pos (by omega)]
        · rintro ⟨n, i, r⟩ ⟨h1, h2, h3⟩; dsimp only at h1 h2 h3
          refine zE <| zE <| zB <| g_u (zC rfl rfl) <| g_u (zC rfl rfl) <| g_u (s_leI rfl rfl rfl) <| zF <| zA ?_
          refine zL rfl (fun hb6 => ?_) (fun hb6 => ?_)
          · refine zN ?_
            refine zA <| zE <| zS <| zE <| zE <| zB <| g_u (zC rfl rfl) <| g_u (zC rfl rfl) <| g_u (yR rfl rfl Tryz.underlying9) <| g_u (s_geI rfl rfl rfl) <| zF <| zA ?_
            refine zL rfl (fun hb7 => ?_) (fun hb7 => ?_)
            · refine zE ?_
              refine zB <| g_u (zD rfl rfl) <| zF <| zA <| zK <| zJ <| zf <| zJ <| zJ <| zf <| zJ ?_
              obtain ⟨m, rfl⟩ : ∃ m, n = m + 1 := ⟨n - 1, by ((try simp only [decide_eq_true_eq, decide_eq_false_iff_not, qc, ne_eq, beq_iff_eq, qd, beq_eq_false_iff_ne, Bool.not_eq_true', Bool.not_eq_false', gt_iff_lt, ge_iff_le] at *); (repeat simp (disch := omega) only [zO, z_] at *)); omega⟩
              rw [xQ, if_pos (by ((try simp only [decide_eq_true_eq, decide_eq_false_iff_not, qc, ne_eq, beq_iff_eq, qd, beq_eq_false_iff_ne, Bool.not_eq_true', Bool.not_eq_false', gt_iff_lt, ge_iff_le] at *); (repeat simp (disch := omega) only [zO, z_] at *)); omega)] at h3
              exact ⟨⟨(rfl : toAV (Al.look _ _) = some _).trans (congrArg some (by rw [← h3])), rfl⟩, trivial⟩
            · refine zN ?_
              refine zA <| zB <| g_u (zC rfl rfl) <| g_u (s_mul rfl rfl rfl) <| g_u (zC rfl rfl) <| g_u (zC rfl rfl) ?_
              refine g_u (si_ix rfl rfl rfl Tryz.underlying9 (by ((try simp only [decide_eq_true_eq, decide_eq_false_iff_not, qc, ne_eq, beq_iff_eq, qd, beq_eq_false_iff_ne, Bool.not_eq_true', Bool.not_eq_false', gt_iff_lt, ge_iff_le] at *); (repeat simp (disch := omega) only [zO, z_] at *)); omega)) ?_
              refine g_u (xL rfl rfl Tryz.underlying5 Tryz.underlying3) <| g_u (zt rfl rfl rfl) <| g_u (vK rfl rfl rfl) <| g_u (zD rfl rfl) <| zF <| zP <| zA <| zB <| g_u (zC rfl rfl) <| g_u (zt rfl rfl rfl) <| g_u (zD rfl rfl) <| zF <| zA ?_
              have hb := wT s i
              obtain ⟨m, rfl⟩ : ∃ m, n = m + 1 := ⟨n - 1, by ((try simp only [decide_eq_true_eq, decide_eq_false_iff_not, qc, ne_eq, beq_iff_eq, qd, beq_eq_false_iff_ne, Bool.not_eq_true', Bool.not_eq_false', gt_iff_lt, ge_iff_le] at *); (repeat simp (disch := omega) only [zO, z_] at *)); omega⟩
              rw [xQ, if_neg (by ((try simp only [decide_eq_true_eq, decide_eq_false_iff_not, qc, ne_eq, beq_iff_eq, qd, beq_eq_false_iff_ne, Bool.not_eq_true', Bool.not_eq_false', gt_iff_lt, ge_iff_le] at *); (repeat simp (disch := omega) only [zO, z_] at *)); omega)] at h3
              rw [show (64 * r + bAt s i - 128 : Int) = IntKind.i64.wrap (IntKind.i64.wrap (IntKind.i64.wrap (64 * r) + IntKind.i64.wrap (bAt s i)) - 128) by ((try simp only [decide_eq_true_eq, decide_eq_false_iff_not, qc, ne_eq, beq_iff_eq, qd, beq_eq_false_iff_ne, Bool.not_eq_true', Bool.not_eq_false', gt_iff_lt, ge_iff_le] at *); (repeat simp (disch := omega) only [zO, z_] at *)), show (i + 1 : Int) = IntKind.i64.wrap (i + 1) by ((try simp only [decide_eq_true_eq, decide_eq_false_iff_not, qc, ne_eq, beq_iff_eq, qd, beq_eq_false_iff_ne, Bool.not_eq_true', Bool.not_eq_false', gt_iff_lt, ge_iff_le] at *); (repeat simp (disch := omega) only [zO, z_] at *))] at h3
              exact ⟨⟨m, IntKind.i64.wrap (i + 1), IntKind.i64.wrap (IntKind.i64.wrap (IntKind.i64.wrap (64 * r) + IntKind.i64.wrap (bAt s i)) - 128)⟩, ⟨by dsimp only; ((try simp only [decide_eq_true_eq, decide_eq_false_iff_not, qc, ne_eq, beq_iff_eq, qd, beq_eq_false_iff_ne, Bool.not_eq_true', Bool.not_eq_false', gt_iff_lt, ge_iff_le] at *); (repeat simp (disch := omega) only [zO, z_] at *)); omega, by dsimp only; ((try simp only [decide_eq_true_eq, decide_eq_false_iff_not, qc, ne_eq, beq_iff_eq, qd, beq_eq_false_iff_ne, Bool.not_eq_true', Bool.not_eq_false', gt_iff_lt, ge_iff_le] at *); (repeat simp (disch := omega) only [zO, z_] at *)); omega, h3⟩, ⟨rfl, rfl, rfl, rfl, trivial⟩, Nat.lt_succ_self _⟩
          · refine zw ?_
            refine zT <| zT <| zo <| zA <| zE <| zB <| g_u (zC rfl rfl) <| g_u (zD rfl rfl) <| zF <| zA <| zK ?_
            obtain rfl : n = 0 := by ((try simp only [decide_eq_true_eq, decide_eq_false_iff_not, qc, ne_eq, beq_iff_eq, qd, beq_eq_false_iff_ne, Bool.not_eq_true', Bool.not_eq_false', gt_iff_lt, ge_iff_le] at *); (repeat simp (disch := omega) only [zO, z_] at *)); omega
            change r = _ at h3
            exact ⟨⟨(rfl : toAV (Al.look _ _) = some _).trans (congrArg some (by rw [← h3])), rfl⟩, trivial⟩
      · refine zN ?_
        refine zA <| zE <| zE <| zB <| g_u (zD rfl rfl) <| zF <| zA <| zS ?_
        refine zr (fun j : Nat × Int × Int => [(0, .imm (sv s)), (4, .imm (iv j.2.2)), (5, .imm (iv 1)), (6, .imm (iv j.2.1))]) (fun j => j.2.1 + j.1 = 2 ∧ ((j.2.1 = 1 ∧ -300 ≤ j.2.2 ∧ j.2.2 ≤ 300) ∨ (j.2.1 = 2 ∧ -20000 ≤ j.2.2 ∧ j.2.2 ≤ 20000) ∨ (j.2.1 = 3 ∧ -1400000 ≤ j.2.2 ∧ j.2.2 ≤ 1400000) ∨ (j.2.1 = 4 ∧ -99000000 ≤ j.2.2 ∧ j.2.2 ≤ 99000000)) ∧ xQ s j.1 j.2.1 j.2.2 = wq s) (fun j => j.1) (⟨1, 1, IntKind.i64.wrap (IntKind.i64.wrap (bAt s 0) - 192)⟩) ?_ ⟨rfl, rfl, rfl, rfl, trivial⟩ ?_
        · refine ⟨rfl, .inl ⟨rfl, by dsimp only; ((try simp only [decide_eq_true_eq, decide_eq_false_iff_not, qc, ne_eq, beq_iff_eq, qd, beq_eq_false_iff_ne, Bool.not_eq_true', Bool.not_eq_false', gt_iff_lt, ge_iff_le] at *); (repeat simp (disch := omega) only [zO, z_] at *)); omega⟩, ?_⟩; unfold wq; ((try simp only [decide_eq_true_eq, decide_eq_false_iff_not, qc, ne_eq, beq_iff_eq, qd, beq_eq_false_iff_ne, Bool.not_eq_true', Bool.not_eq_false', gt_iff_lt, ge_iff_le] at *); (repeat simp (disch := omega) only [zO, z_] at *)); rw [if_neg (by omega), if_neg (by omega), if_neg (by omega)]
        · rintro ⟨n, i, r⟩ ⟨h1, h2, h3⟩; dsimp only at h1 h2 h3
          refine zE <| zE <| zB <| g_u (zC rfl rfl) <| g_u (zC rfl rfl) <| g_u (s_leI rfl rfl rfl) <| zF <| zA ?_
          refine zL rfl (fun hb8 => ?_) (fun hb8 => ?_)
          · refine zN ?_
            refine zA <| zE <| zS <| zE <| zE <| zB <| g_u (zC rfl rfl) <| g_u (zC rfl rfl) <| g_u (yR rfl rfl Tryz.underlying9) <| g_u (s_geI rfl rfl rfl) <| zF <| zA ?_
            refine zL rfl (fun hb9 => ?_) (fun hb9 => ?_)
            · refine zE ?_
              refine zB <| g_u (zD rfl rfl) <| zF <| zA <| zK <| zJ <| zf <| zJ <| zJ <| zf <| zJ ?_
              obtain ⟨m, rfl⟩ : ∃ m, n = m + 1 := ⟨n - 1, by ((try simp only [decide_eq_true_eq, decide_eq_false_iff_not, qc, ne_eq, beq_iff_eq, qd, beq_eq_false_iff_ne, Bool.not_eq_true', Bool.not_eq_false', gt_iff_lt, ge_iff_le] at *); (repeat simp (disch := omega) only [zO, z_] at *)); omega⟩
              rw [xQ, if_pos (by ((try simp only [decide_eq_true_eq, decide_eq_false_iff_not, qc, ne_eq, beq_iff_eq, qd, beq_eq_false_iff_ne, Bool.not_eq_true', Bool.not_eq_false', gt_iff_lt, ge_iff_le] at *); (repeat simp (disch := omega) only [zO, z_] at *)); omega)] at h3
              exact ⟨⟨(rfl : toAV (Al.look _ _) = some _).trans (congrArg some (by rw [← h3])), rfl⟩, trivial⟩
            · refine zN ?_
              refine zA <| zB <| g_u (zC rfl rfl) <| g_u (s_mul rfl rfl rfl) <| g_u (zC rfl rfl) <| g_u (zC rfl rfl) ?_
              refine g_u (si_ix rfl rfl rfl Tryz.underlying9 (by ((try simp only [decide_eq_true_eq, decide_eq_false_iff_not, qc, ne_eq, beq_iff_eq, qd, beq_eq_false_iff_ne, Bool.not_eq_true', Bool.not_eq_false', gt_iff_lt, ge_iff_le] at *); (repeat simp (disch := omega) only [zO, z_] at *)); omega)) ?_
              refine g_u (xL rfl rfl Tryz.underlying5 Tryz.underlying3) <| g_u (zt rfl rfl rfl) <| g_u (vK rfl rfl rfl) <| g_u (zD rfl rfl) <| zF <| zP <| zA <| zB <| g_u (zC rfl rfl) <| g_u (zt rfl rfl rfl) <| g_u (zD rfl rfl) <| zF <| zA ?_
              have hb := wT s i
              obtain ⟨m, rfl⟩ : ∃ m, n = m + 1 := ⟨n - 1, by ((try simp only [decide_eq_true_eq, decide_eq_false_iff_not, qc, ne_eq, beq_iff_eq, qd, beq_eq_false_iff_ne, Bool.not_eq_true', Bool.not_eq_false', gt_iff_lt, ge_iff_le] at *); (repeat simp (disch := omega) only [zO, z_] at *)); omega⟩
              rw [xQ, if_neg (by ((try simp only [decide_eq_true_eq, decide_eq_false_iff_not, qc, ne_eq, beq_iff_eq, qd, beq_eq_false_iff_ne, Bool.not_eq_true', Bool.not_eq_false', gt_iff_lt, ge_iff_le] at *); (repeat simp (disch := omega) only [zO, z_] at *)); omega)] at h3
              rw [show (64 * r + bAt s i - 128 : Int) = IntKind.i64.wrap (IntKind.i64.wrap (IntKind.i64.wrap (64 * r) + IntKind.i64.wrap (bAt s i)) - 128) by ((try simp only [decide_eq_true_eq, decide_eq_false_iff_not, qc, ne_eq, beq_iff_eq, qd, beq_eq_false_iff_ne, Bool.not_eq_true', Bool.not_eq_false', gt_iff_lt, ge_iff_le] at *); (repeat simp (disch := omega) only [zO, z_] at *)), show (i + 1 : Int) = IntKind.i64.wrap (i + 1) by ((try simp only [decide_eq_true_eq, decide_eq_false_iff_not, qc, ne_eq, beq_iff_eq, qd, beq_eq_false_iff_ne, Bool.not_eq_true', Bool.not_eq_false', gt_iff_lt, ge_iff_le] at *); (repeat simp (disch := omega) only [zO, z_] at *))] at h3
              exact ⟨⟨m, IntKind.i64.wrap (i + 1), IntKind.i64.wrap (IntKind.i64.wrap (IntKind.i64.wrap (64 * r) + IntKind.i64.wrap (bAt s i)) - 128)⟩, ⟨by dsimp only; ((try simp only [decide_eq_true_eq, decide_eq_false_iff_not, qc, ne_eq, beq_iff_eq, qd, beq_eq_false_iff_ne, Bool.not_eq_true', Bool.not_eq_false', gt_iff_lt, ge_iff_le] at *); (repeat simp (disch := omega) only [zO, z_] at *)); omega, by dsimp only; ((try simp only [decide_eq_true_eq, decide_eq_false_iff_not, qc, ne_eq, beq_iff_eq, qd, beq_eq_false_iff_ne, Bool.not_eq_true', Bool.not_eq_false', gt_iff_lt, ge_iff_le] at *); (repeat simp (disch := omega) only [zO, z_] at *)); omega, h3⟩, ⟨rfl, rfl, rfl, rfl, trivial⟩, Nat.lt_succ_self _⟩
          · refine zw ?_
            refine zT <| zT <| zo <| zA <| zE <| zB <| g_u (zC rfl rfl) <| g_u (zD rfl rfl) <| zF <| zA <| zK ?_
            obtain rfl : n = 0 := by ((try simp only [decide_eq_true_eq, decide_eq_false_iff_not, qc, ne_eq, beq_iff_eq, qd, beq_eq_false_iff_ne, Bool.not_eq_true', Bool.not_eq_false', gt_iff_lt, ge_iff_le] at *); (repeat simp (disch := omega) only [zO, z_] at *)); omega
            change r = _ at h3
            exact ⟨⟨(rfl : toAV (Al.look _ _) = some _).trans (congrArg some (by rw [← h3])), rfl⟩, trivial⟩
theorem bytes_c (r : Int) : zn Tryz.prog Γ0 226 [rv r] [sv (z8 (bytesM r))] := by
  refine zZ Tryz.func226 rfl Tryz.ntmps226 (by kernel_rfl) rfl fun w0 I0 G0 => ?_
  refine zE <| zB <| g_u (zD rfl rfl) <| zF <| zA <| zE <| zB <| g_u (zC rfl rfl) <| g_u (xL rfl rfl Tryz.underlying21 Tryz.underlying3) <| g_u (zD rfl rfl) <| zF <| zA <| zE <| zE <| zB <| g_u (zC rfl rfl) <| g_u (yO rfl rfl rfl) <| zF <| zA ?_
  refine zL rfl (fun hb1 => ?_) (fun hb1 => ?_)
  · refine zE ?_
    refine zB <| g_u (zC rfl rfl) <| g_u (xL rfl rfl Tryz.underlying3 Tryz.underlying5) <| g_u (z7 (X0 := z5) rfl Tryz.underlying85 tS5 tZ5 rfl rfl rfl rfl rfl rfl rfl rfl) <| g_u (s_cvBS' ((bl_cons bl_nil)) rfl rfl Tryz.underlying85 Tryz.underlying9 Tryz.underlying5) <| g_u (zD rfl rfl) <| zF <| zA <| zK <| zJ ?_
    exact ⟨⟨(rfl : toAV (Al.look _ _) = some _).trans (congrArg some (by (unfold bytesM w64; simp only [decide_eq_true_eq, decide_eq_false_iff_not] at *; first | (rw [if_pos (by omega)]; first | done | rfl) | (rw [if_neg (by omega), if_pos (by omega)]; first | done | rfl) | (rw [if_neg (by omega), if_neg (by omega), if_pos (by omega)]; first | done | rfl) | (rw [if_neg (by omega), if_neg (by omega), if_neg (by omega)]; first | done | rfl)))), rfl⟩, trivial⟩
  · refine zN ?_
    refine zA <| zE <| zE <| zB <| g_u (zC rfl rfl) <| g_u (yO rfl rfl rfl) <| zF <| zA ?_
    refine zL rfl (fun hb2 => ?_) (fun hb2 => ?_)
    · refine zE ?_
      refine zB <| g_u (zC rfl rfl) ?_
      refine g_u (s_quo rfl rfl rfl (by first | decide | omega | (((try simp only [decide_eq_true_eq, decide_eq_false_iff_not, qc, ne_eq, beq_iff_eq, qd, beq_eq_false_iff_ne, Bool.not_eq_true', Bool.not_eq_false', gt_iff_lt, ge_iff_le] at *); (repeat simp (disch := omega) only [zO, z_] at *)); omega))) ?_
      refine g_u (zt rfl rfl rfl) <| g_u (xL rfl rfl Tryz.underlying3 Tryz.underlying5) <| g_u (zC rfl rfl) ?_
      refine g_u (s_rem rfl rfl rfl (by first | decide | omega | (((try simp only [decide_eq_true_eq, decide_eq_false_iff_not, qc, ne_eq, beq_iff_eq, qd, beq_eq_false_iff_ne, Bool.not_eq_true', Bool.not_eq_false', gt_iff_lt, ge_iff_le] at *); (repeat simp (disch := omega) only [zO, z_] at *)); omega))) ?_
      refine g_u (zt rfl rfl rfl) <| g_u (xL rfl rfl Tryz.underlying3 Tryz.underlying5) <| g_u (z7 (X0 := z5) rfl Tryz.underlying85 tS5 tZ5 rfl rfl rfl rfl rfl rfl rfl rfl) <| g_u (s_cvBS' ((bl_cons (bl_cons bl_nil))) rfl rfl Tryz.underlying85 Tryz.underlying9 Tryz.underlying5) <| g_u (zD rfl rfl) <| zF <| zA <| zK <| zJ ?_
      exact ⟨⟨(rfl : toAV (Al.look _ _) = some _).trans (congrArg some (by (unfold bytesM w64; simp only [decide_eq_true_eq, decide_eq_false_iff_not] at *; first | (rw [if_pos (by omega)]; first | done | rfl) | (rw [if_neg (by omega), if_pos (by omega)]; first | done | rfl) | (rw [if_neg (by omega), if_neg (by omega), if_pos (by omega)]; first | done | rfl) | (rw [if_neg (by omega), if_neg (by omega), if_neg (by omega)]; first | done | rfl)))), rfl⟩, trivial⟩
    · refine zN ?_
      refine zA <| zE <| zE <| zB <| g_u (zC rfl rfl) <| g_u (yO rfl rfl rfl) <| zF <| zA ?_
      refine zL rfl (fun hb3 => ?_) (fun hb3 => ?_)
      · refine zE ?_
        refine zB <| g_u (zC rfl rfl) ?_
        refine g_u (s_quo rfl rfl rfl (by first | decide | omega | (((try simp only [decide_eq_true_eq, decide_eq_false_iff_not, qc, ne_eq, beq_iff_eq, qd, beq_eq_false_iff_ne, Bool.not_eq_true', Bool.not_eq_false', gt_iff_lt, ge_iff_le] at *); (repeat simp (disch := omega) only [zO, z_] at *)); omega))) ?_
        refine g_u (zt rfl rfl rfl) <| g_u (xL rfl rfl Tryz.underlying3 Tryz.underlying5) <| g_u (zC rfl rfl) ?_
        refine g_u (s_quo rfl rfl rfl (by first | decide | omega | (((try simp only [decide_eq_true_eq, decide_eq_false_iff_not, qc, ne_eq, beq_iff_eq, qd, beq_eq_false_iff_ne, Bool.not_eq_true', Bool.not_eq_false', gt_iff_lt, ge_iff_le] at *); (repeat simp (disch := omega) only [zO, z_] at *)); omega))) ?_
        refine g_u (s_rem rfl rfl rfl (by first | decide | omega | (((try simp only [decide_eq_true_eq, decide_eq_false_iff_not, qc, ne_eq, beq_iff_eq, qd, beq_eq_false_iff_ne, Bool.not_eq_true', Bool.not_eq_false', gt_iff_lt, ge_iff_le] at *); (repeat simp (disch := omega) only [zO, z_] at *)); omega))) ?_
        refine g_u (zt rfl rfl rfl) <| g_u (xL rfl rfl Tryz.underlying3 Tryz.underlying5) <| g_u (zC rfl rfl) ?_
        refine g_u (s_rem rfl rfl rfl (by first | decide | omega | (((try simp only [decide_eq_true_eq, decide_eq_false_iff_not, qc, ne_eq, beq_iff_eq, qd, beq_eq_false_iff_ne, Bool.not_eq_true', Bool.not_eq_false', gt_iff_lt, ge_iff_le] at *); (repeat simp (disch := omega) only [zO, z_] at *)); omega))) ?_
        refine g_u (zt rfl rfl rfl) <| g_u (xL rfl rfl Tryz.underlying3 Tryz.underlying5) <| g_u (z7 (X0 := z5) rfl Tryz.underlying85 tS5 tZ5 rfl rfl rfl rfl rfl rfl rfl rfl) <| g_u (s_cvBS' ((bl_cons (bl_cons (bl_cons bl_nil)))) rfl rfl Tryz.underlying85 Tryz.underlying9 Tryz.underlying5) <| g_u (zD rfl rfl) <| zF <| zA <| zK <| zJ ?_
        exact ⟨⟨(rfl : toAV (Al.look _ _) = some _).trans (congrArg some (by (unfold bytesM w64; simp only [decide_eq_true_eq, decide_eq_false_iff_not] at *; first | (rw [if_pos (by omega)]; first | done | rfl) | (rw [if_neg (by omega), if_pos (by omega)]; first | done | rfl) | (rw [if_neg (by omega), if_neg (by omega), if_pos (by omega)]; first | done | rfl) | (rw [if_neg (by omega), if_neg (by omega), if_neg (by omega)]; first | done | rfl)))), rfl⟩, trivial⟩
      · refine zN ?_
        refine zA <| zE <| zB <| g_u (zC rfl rfl) ?_
        refine g_u (s_quo rfl rfl rfl (by first | decide | omega | (((try simp only [decide_eq_true_eq, decide_eq_false_iff_not, qc, ne_eq, beq_iff_eq, qd, beq_eq_false_iff_ne, Bool.not_eq_true', Bool.not_eq_false', gt_iff_lt, ge_iff_le] at *); (repeat simp (disch := omega) only [zO, z_] at *)); omega))) ?_
        refine g_u (zt rfl rfl rfl) <| g_u (xL rfl rfl Tryz.underlying3 Tryz.underlying5) <| g_u (zC rfl rfl) ?_
        refine g_u (s_quo rfl rfl rfl (by first | decide | omega | (((try simp only [decide_eq_true_eq, decide_eq_false_iff_not, qc, ne_eq, beq_iff_eq, qd, beq_eq_false_iff_ne, Bool.not_eq_true', Bool.not_eq_false', gt_iff_lt, ge_iff_le] at *); (repeat simp (disch := omega) only [zO, z_] at *)); omega))) ?_
        refine g_u (s_rem rfl rfl rfl (by first | decide | omega | (((try simp only [decide_eq_true_eq, decide_eq_false_iff_not, qc, ne_eq, beq_iff_eq, qd, beq_eq_false_iff_ne, Bool.not_eq_true', Bool.not_eq_false', gt_iff_lt, ge_iff_le] at *); (repeat simp (disch := omega) only [zO, z_] at *)); omega))) ?_
        refine g_u (zt rfl rfl rfl) <| g_u (xL rfl rfl Tryz.underlying3 Tryz.underlying5) <| g_u (zC rfl rfl) ?_
        refine g_u (s_quo rfl rfl rfl (by first | decide | omega | (((try simp only [decide_eq_true_eq, decide_eq_false_iff_not, qc, ne_eq, beq_iff_eq, qd, beq_eq_false_iff_ne, Bool.not_eq_true', Bool.not_eq_false', gt_iff_lt, ge_iff_le] at *); (repeat simp (disch := omega) only [zO, z_] at *)); omega))) ?_
        refine g_u (s_rem rfl rfl rfl (by first | decide | omega | (((try simp only [decide_eq_true_eq, decide_eq_false_iff_not, qc, ne_eq, beq_iff_eq, qd, beq_eq_false_iff_ne, Bool.not_eq_true', Bool.not_eq_false', gt_iff_lt, ge_iff_le] at *); (repeat simp (disch := omega) only [zO, z_] at *)); omega))) ?_
        refine g_u (zt rfl rfl rfl) <| g_u (xL rfl rfl Tryz.underlying3 Tryz.underlying5) <| g_u (zC rfl rfl) ?_
        refine g_u (s_rem rfl rfl rfl (by first | decide | omega | (((try simp only [decide_eq_true_eq, decide_eq_false_iff_not, qc, ne_eq, beq_iff_eq, qd, beq_eq_false_iff_ne, Bool.not_eq_true', Bool.not_eq_false', gt_iff_lt, ge_iff_le] at *); (repeat simp (disch := omega) only [zO, z_] at *)); omega))) ?_
        refine g_u (zt rfl rfl rfl) <| g_u (xL rfl rfl Tryz.underlying3 Tryz.underlying5) <| g_u (z7 (X0 := z5) rfl Tryz.underlying85 tS5 tZ5 rfl rfl rfl rfl rfl rfl rfl rfl) <| g_u (s_cvBS' ((bl_cons (bl_cons (bl_cons (bl_cons bl_nil))))) rfl rfl Tryz.underlying85 Tryz.underlying9 Tryz.underlying5) <| g_u (zD rfl rfl) <| zF <| zA <| zK ?_
        exact ⟨⟨(rfl : toAV (Al.look _ _) = some _).trans (congrArg some (by (unfold bytesM w64; simp only [decide_eq_true_eq, decide_eq_false_iff_not] at *; first | (rw [if_pos (by omega)]; first | done | rfl) | (rw [if_neg (by omega), if_pos (by omega)]; first | done | rfl) | (rw [if_neg (by omega), if_neg (by omega), if_pos (by omega)]; first | done | rfl) | (rw [if_neg (by omega), if_neg (by omega), if_neg (by omega)]; first | done | rfl)))), rfl⟩, trivial⟩
theorem rrune_c (s : ByteArray) (p : Int) (hs : s.size < 9223372036854775808) : zn Tryz.prog Γ0 215 [sv s, iv p] [rv (xg s p).1, iv (xg s p).2] := by
  refine zZ Tryz.func215 rfl Tryz.ntmps215 (by kernel_rfl) rfl fun w0 I0 G0 => ?_
  refine zE <| zB <| g_u (zD rfl rfl) <| g_u (zD rfl rfl) <| zF <| zA <| zE <| zE <| zB <| g_u (zC rfl rfl) <| g_u (yO rfl rfl rfl) <| g_u (zC rfl rfl) <| z6 (t := 10) rfl ?_
  rintro (hb1 | hb1)
  · rw [hb1]
    refine zM rfl rfl rfl <| zM rfl rfl rfl <| zM rfl rfl rfl <| zM rfl rfl rfl <| g_u (zi rfl rfl rfl) <| zF <| zA <| zu rfl <| zE <| zB <| g_u (zD rfl rfl) <| g_u (zD rfl rfl) <| zF <| zA <| zK <| zJ ?_
    exact ⟨⟨(rfl : toAV (Al.look _ _) = some _).trans (congrArg some (by (unfold xg; (try simp only [ya] at *); ((try simp only [decide_eq_true_eq, decide_eq_false_iff_not, qc, ne_eq, beq_iff_eq, qd, beq_eq_false_iff_ne, Bool.not_eq_true', Bool.not_eq_false', gt_iff_lt, ge_iff_le] at *); (repeat simp (disch := omega) only [zO, z_] at *)); first | (rw [if_pos (by omega)]; first | done | rfl) | (rw [if_neg (by omega), if_pos (by first | exact .inl (by omega) | exact .inr (.inl (by omega)) | exact .inr (.inr (by assumption)))]; first | done | rfl) | (rw [if_neg (by omega), if_neg (by rintro (h | h | h) <;> first | omega | (simp_all; done)), if_pos (by first | exact .inl (by omega) | exact .inr (by assumption))]; first | done | rfl) | (rw [if_neg (by omega), if_neg (by rintro (h | h | h) <;> first | omega | (simp_all; done)), if_neg (by rintro (h | h) <;> first | omega | exact h (by assumption))]; first | done | rfl)))), rfl⟩, ⟨(rfl : toAV (Al.look _ _) = some _).trans (congrArg some (by (unfold xg; (try simp only [ya] at *); ((try simp only [decide_eq_true_eq, decide_eq_false_iff_not, qc, ne_eq, beq_iff_eq, qd, beq_eq_false_iff_ne, Bool.not_eq_true', Bool.not_eq_false', gt_iff_lt, ge_iff_le] at *); (repeat simp (disch := omega) only [zO, z_] at *)); first | (rw [if_pos (by omega)]; first | done | rfl) | (rw [if_neg (by omega), if_pos (by first | exact .inl (by omega) | exact .inr (.inl (by omega)) | exact .inr (.inr (by assumption)))]; first | done | rfl) | (rw [if_neg (by omega), if_neg (by rintro (h | h | h) <;> first | omega | (simp_all; done)), if_pos (by first | exact .inl (by omega) | exact .inr (by assumption))]; first | done | rfl) | (rw [if_neg (by omega), if_neg (by rintro (h | h | h) <;> first | omega | (simp_all; done)), if_neg (by rintro (h | h) <;> first | omega | exact h (by assumption))]; first | done | rfl)))), rfl⟩, trivial⟩
  · rw [hb1]
    refine zX rfl rfl (zC rfl rfl) <| zX rfl rfl (zC rfl rfl) <| zX rfl rfl (yR rfl rfl Tryz.underlying9) <| zX rfl rfl (s_geI rfl rfl rfl) <| g_u (zj rfl rfl rfl) <| zF <| zA ?_
    refine zL rfl (fun hb2 => ?_) (fun hb2 => ?_)
    · refine zE ?_
      refine zB <| g_u (zD rfl rfl) <| g_u (zD rfl rfl) <| zF <| zA <| zK <| zJ ?_
      exact ⟨⟨(rfl : toAV (Al.look _ _) = some _).trans (congrArg some (by (unfold xg; (try simp only [ya] at *); ((try simp only [decide_eq_true_eq, decide_eq_false_iff_not, qc, ne_eq, beq_iff_eq, qd, beq_eq_false_iff_ne, Bool.not_eq_true', Bool.not_eq_false', gt_iff_lt, ge_iff_le] at *); (repeat simp (disch := omega) only [zO, z_] at *)); first | (rw [if_pos (by omega)]; first | done | rfl) | (rw [if_neg (by omega), if_pos (by first | exact .inl (by omega) | exact .inr (.inl (by omega)) | exact .inr (.inr (by assumption)))]; first | done | rfl) | (rw [if_neg (by omega), if_neg (by rintro (h | h | h) <;> first | omega | (simp_all; done)), if_pos (by first | exact .inl (by omega) | exact .inr (by assumption))]; first | done | rfl) | (rw [if_neg (by omega), if_neg (by rintro (h | h | h) <;> first | omega | (simp_all; done)), if_neg (by rintro (h | h) <;> first | omega | exact h (by assumption))]; first | done | rfl)))), rfl⟩, ⟨(rfl : toAV (Al.look _ _) = some _).trans (congrArg some (by (unfold xg; (try simp only [ya] at *); ((try simp only [decide_eq_true_eq, decide_eq_false_iff_not, qc, ne_eq, beq_iff_eq, qd, beq_eq_false_iff_ne, Bool.not_eq_true', Bool.not_eq_false', gt_iff_lt, ge_iff_le] at *); (repeat simp (disch := omega) only [zO, z_] at *)); first | (rw [if_pos (by omega)]; first | done | rfl) | (rw [if_neg (by omega), if_pos (by first | exact .inl (by omega) | exact .inr (.inl (by omega)) | exact .inr (.inr (by assumption)))]; first | done | rfl) | (rw [if_neg (by omega), if_neg (by rintro (h | h | h) <;> first | omega | (simp_all; done)), if_pos (by first | exact .inl (by omega) | exact .inr (by assumption))]; first | done | rfl) | (rw [if_neg (by omega), if_neg (by rintro (h | h | h) <;> first | omega | (simp_all; done)), if_neg (by rintro (h | h) <;> first | omega | exact h (by assumption))]; first | done | rfl)))), rfl⟩, trivial⟩
    · refine zN ?_
      refine zA <| zE <| zB <| g_u (zC rfl rfl) <| g_u (zC rfl rfl) ?_
      refine g_u (si_l rfl rfl rfl Tryz.underlying9 (by ((try simp only [decide_eq_true_eq, decide_eq_false_iff_not, qc, ne_eq, beq_iff_eq, qd, beq_eq_false_iff_ne, Bool.not_eq_true', Bool.not_eq_false', gt_iff_lt, ge_iff_le] at *); (repeat simp (disch := omega) only [zO, z_] at *)); omega)) ?_
      refine g_u (zQ (guess_c _ (by ((try simp only [decide_eq_true_eq, decide_eq_false_iff_not, qc, ne_eq, beq_iff_eq, qd, beq_eq_false_iff_ne, Bool.not_eq_true', Bool.not_eq_false', gt_iff_lt, ge_iff_le] at *); (repeat simp (disch := omega) only [zO, z_] at *)); rw [ex_size _ _ _ (Nat.le_refl _)]; omega) (by ((try simp only [decide_eq_true_eq, decide_eq_false_iff_not, qc, ne_eq, beq_iff_eq, qd, beq_eq_false_iff_ne, Bool.not_eq_true', Bool.not_eq_false', gt_iff_lt, ge_iff_le] at *); (repeat simp (disch := omega) only [zO, z_] at *)); rw [ex_size _ _ _ (Nat.le_refl _)]; omega)) rfl rfl) ?_
      refine g_u (zD rfl rfl) <| zF <| zA <| zE <| zE <| zB <| g_u (zC rfl rfl) <| g_u (yO rfl rfl rfl) <| g_u (zC rfl rfl) <| z6 (t := 22) rfl ?_
      rintro (hb3 | hb3)
      · rw [hb3]
        refine zM rfl rfl rfl <| zM rfl rfl rfl <| g_u (zi rfl rfl rfl) <| g_u (zC rfl rfl) <| zM rfl rfl rfl <| zM rfl rfl rfl <| zM rfl rfl rfl <| zM rfl rfl rfl <| g_u (zi rfl rfl rfl) <| zF <| zA <| zu rfl <| zE <| zB <| g_u (zD rfl rfl) <| g_u (zD rfl rfl) <| zF <| zA <| zK <| zJ ?_
        exact ⟨⟨(rfl : toAV (Al.look _ _) = some _).trans (congrArg some (by (unfold xg; (try simp only [ya] at *); ((try simp only [decide_eq_true_eq, decide_eq_false_iff_not, qc, ne_eq, beq_iff_eq, qd, beq_eq_false_iff_ne, Bool.not_eq_true', Bool.not_eq_false', gt_iff_lt, ge_iff_le] at *); (repeat simp (disch := omega) only [zO, z_] at *)); first | (rw [if_pos (by omega)]; first | done | rfl) | (rw [if_neg (by omega), if_pos (by first | exact .inl (by omega) | exact .inr (.inl (by omega)) | exact .inr (.inr (by assumption)))]; first | done | rfl) | (rw [if_neg (by omega), if_neg (by rintro (h | h | h) <;> first | omega | (simp_all; done)), if_pos (by first | exact .inl (by omega) | exact .inr (by assumption))]; first | done | rfl) | (rw [if_neg (by omega), if_neg (by rintro (h | h | h) <;> first | omega | (simp_all; done)), if_neg (by rintro (h | h) <;> first | omega | exact h (by assumption))]; first | done | rfl)))), rfl⟩, ⟨(rfl : toAV (Al.look _ _) = some _).trans (congrArg some (by (unfold xg; (try simp only [ya] at *); ((try simp only [decide_eq_true_eq, decide_eq_false_iff_not, qc, ne_eq, beq_iff_eq, qd, beq_eq_false_iff_ne, Bool.not_eq_true', Bool.not_eq_false', gt_iff_lt, ge_iff_le] at *); (repeat simp (disch := omega) only [zO, z_] at *)); first | (rw [if_pos (by omega)]; first | done | rfl) | (rw [if_neg (by omega), if_pos (by first | exact .inl (by omega) | exact .inr (.inl (by omega)) | exact .inr (.inr (by assumption)))]; first | done | rfl) | (rw [if_neg (by omega), if_neg (by rintro (h | h | h) <;> first | omega | (simp_all; done)), if_pos (by first | exact .inl (by omega) | exact .inr (by assumption))]; first | done | rfl) | (rw [if_neg (by omega), if_neg (by rintro (h | h | h) <;> first | omega | (simp_all; done)), if_neg (by rintro (h | h) <;> first | omega | exact h (by assumption))]; first | done | rfl)))), rfl⟩, trivial⟩
      · rw [hb3]
        refine zX rfl rfl (zC rfl rfl) <| zX rfl rfl (xA rfl rfl rfl) <| g_u (zj rfl rfl rfl) <| g_u (zC rfl rfl) <| z6 (t := 26) rfl ?_
        rintro (hb4 | hb4)
        · rw [hb4]
          refine zM rfl rfl rfl <| zM rfl rfl rfl <| zM rfl rfl rfl <| zM rfl rfl rfl <| g_u (zi rfl rfl rfl) <| zF <| zA <| zu rfl <| zE <| zB <| g_u (zD rfl rfl) <| g_u (zD rfl rfl) <| zF <| zA <| zK <| zJ ?_
          exact ⟨⟨(rfl : toAV (Al.look _ _) = some _).trans (congrArg some (by (unfold xg; (try simp only [ya] at *); ((try simp only [decide_eq_true_eq, decide_eq_false_iff_not, qc, ne_eq, beq_iff_eq, qd, beq_eq_false_iff_ne, Bool.not_eq_true', Bool.not_eq_false', gt_iff_lt, ge_iff_le] at *); (repeat simp (disch := omega) only [zO, z_] at *)); first | (rw [if_pos (by omega)]; first | done | rfl) | (rw [if_neg (by omega), if_pos (by first | exact .inl (by omega) | exact .inr (.inl (by omega)) | exact .inr (.inr (by assumption)))]; first | done | rfl) | (rw [if_neg (by omega), if_neg (by rintro (h | h | h) <;> first | omega | (simp_all; done)), if_pos (by first | exact .inl (by omega) | exact .inr (by assumption))]; first | done | rfl) | (rw [if_neg (by omega), if_neg (by rintro (h | h | h) <;> first | omega | (simp_all; done)), if_neg (by rintro (h | h) <;> first | omega | exact h (by assumption))]; first | done | rfl)))), rfl⟩, ⟨(rfl : toAV (Al.look _ _) = some _).trans (congrArg some (by (unfold xg; (try simp only [ya] at *); ((try simp only [decide_eq_true_eq, decide_eq_false_iff_not, qc, ne_eq, beq_iff_eq, qd, beq_eq_false_iff_ne, Bool.not_eq_true', Bool.not_eq_false', gt_iff_lt, ge_iff_le] at *); (repeat simp (disch := omega) only [zO, z_] at *)); first | (rw [if_pos (by omega)]; first | done | rfl) | (rw [if_neg (by omega), if_pos (by first | exact .inl (by omega) | exact .inr (.inl (by omega)) | exact .inr (.inr (by assumption)))]; first | done | rfl) | (rw [if_neg (by omega), if_neg (by rintro (h | h | h) <;> first | omega | (simp_all; done)), if_pos (by first | exact .inl (by omega) | exact .inr (by assumption))]; first | done | rfl) | (rw [if_neg (by omega), if_neg (by rintro (h | h | h) <;> first | omega | (simp_all; done)), if_neg (by rintro (h | h) <;> first | omega | exact h (by assumption))]; first | done | rfl)))), rfl⟩, trivial⟩
        · rw [hb4]
          refine zX rfl rfl (zC rfl rfl) <| zX rfl rfl (xL rfl rfl Tryz.underlying3 Tryz.underlying21) <| zX rfl rfl (zQ (ris_c _) rfl rfl) <| zX rfl rfl (s_not rfl rfl) <| g_u (zj rfl rfl rfl) <| zF <| zA ?_
          refine zL rfl (fun hb5 => ?_) (fun hb5 => ?_)
          · refine zE ?_
            refine zB <| g_u (zD rfl rfl) <| g_u (zD rfl rfl) <| zF <| zA <| zK <| zJ ?_
            exact ⟨⟨(rfl : toAV (Al.look _ _) = some _).trans (congrArg some (by (unfold xg; (try simp only [ya] at *); ((try simp only [decide_eq_true_eq, decide_eq_false_iff_not, qc, ne_eq, beq_iff_eq, qd, beq_eq_false_iff_ne, Bool.not_eq_true', Bool.not_eq_false', gt_iff_lt, ge_iff_le] at *); (repeat simp (disch := omega) only [zO, z_] at *)); first | (rw [if_pos (by omega)]; first | done | rfl) | (rw [if_neg (by omega), if_pos (by first | exact .inl (by omega) | exact .inr (.inl (by omega)) | exact .inr (.inr (by assumption)))]; first | done | rfl) | (rw [if_neg (by omega), if_neg (by rintro (h | h | h) <;> first | omega | (simp_all; done)), if_pos (by first | exact .inl (by omega) | exact .inr (by assumption))]; first | done | rfl) | (rw [if_neg (by omega), if_neg (by rintro (h | h | h) <;> first | omega | (simp_all; done)), if_neg (by rintro (h | h) <;> first | omega | exact h (by assumption))]; first | done | rfl)))), rfl⟩, ⟨(rfl : toAV (Al.look _ _) = some _).trans (congrArg some (by (unfold xg; (try simp only [ya] at *); ((try simp only [decide_eq_true_eq, decide_eq_false_iff_not, qc, ne_eq, beq_iff_eq, qd, beq_eq_false_iff_ne, Bool.not_eq_true', Bool.not_eq_false', gt_iff_lt, ge_iff_le] at *); (repeat simp (disch := omega) only [zO, z_] at *)); first | (rw [if_pos (by omega)]; first | done | rfl) | (rw [if_neg (by omega), if_pos (by first | exact .inl (by omega) | exact .inr (.inl (by omega)) | exact .inr (.inr (by assumption)))]; first | done | rfl) | (rw [if_neg (by omega), if_neg (by rintro (h | h | h) <;> first | omega | (simp_all; done)), if_pos (by first | exact .inl (by omega) | exact .inr (by assumption))]; first | done | rfl) | (rw [if_neg (by omega), if_neg (by rintro (h | h | h) <;> first | omega | (simp_all; done)), if_neg (by rintro (h | h) <;> first | omega | exact h (by assumption))]; first | done | rfl)))), rfl⟩, trivial⟩
          · refine zN ?_
            refine zA <| zE <| zB <| g_u (zC rfl rfl) <| g_u (xL rfl rfl Tryz.underlying3 Tryz.underlying21) <| g_u (zQ (bytes_c _) rfl rfl) <| g_u (zD rfl rfl) <| zF <| zA <| zE <| zE <| zB <| g_u (zC rfl rfl) <| g_u (yR rfl rfl Tryz.underlying9) <| g_u (zC rfl rfl) <| g_u (yR rfl rfl Tryz.underlying9) <| g_u (zC rfl rfl) <| g_u (vK rfl rfl rfl) <| g_u (xA rfl rfl rfl) <| g_u (zC rfl rfl) <| z6 (t := 42) rfl ?_
            rintro (hb6 | hb6)
            · rw [hb6]
              refine zM rfl rfl rfl <| zM rfl rfl rfl <| zM rfl rfl rfl <| zM rfl rfl rfl <| zM rfl rfl rfl <| zM rfl rfl rfl <| zM rfl rfl rfl <| zM rfl rfl rfl <| zM rfl rfl rfl <| g_u (zi rfl rfl rfl) <| zF <| zA <| zu rfl <| zE <| zB <| g_u (zD rfl rfl) <| g_u (zD rfl rfl) <| zF <| zA <| zK <| zJ ?_
              exact ⟨⟨(rfl : toAV (Al.look _ _) = some _).trans (congrArg some (by (unfold xg; (try simp only [ya] at *); ((try simp only [decide_eq_true_eq, decide_eq_false_iff_not, qc, ne_eq, beq_iff_eq, qd, beq_eq_false_iff_ne, Bool.not_eq_true', Bool.not_eq_false', gt_iff_lt, ge_iff_le] at *); (repeat simp (disch := omega) only [zO, z_] at *)); first | (rw [if_pos (by omega)]; first | done | rfl) | (rw [if_neg (by omega), if_pos (by first | exact .inl (by omega) | exact .inr (.inl (by omega)) | exact .inr (.inr (by assumption)))]; first | done | rfl) | (rw [if_neg (by omega), if_neg (by rintro (h | h | h) <;> first | omega | (simp_all; done)), if_pos (by first | exact .inl (by omega) | exact .inr (by assumption))]; first | done | rfl) | (rw [if_neg (by omega), if_neg (by rintro (h | h | h) <;> first | omega | (simp_all; done)), if_neg (by rintro (h | h) <;> first | omega | exact h (by assumption))]; first | done | rfl)))), rfl⟩, ⟨(rfl : toAV (Al.look _ _) = some _).trans (congrArg some (by (unfold xg; (try simp only [ya] at *); ((try simp only [decide_eq_true_eq, decide_eq_false_iff_not, qc, ne_eq, beq_iff_eq, qd, beq_eq_false_iff_ne, Bool.not_eq_true', Bool.not_eq_false', gt_iff_lt, ge_iff_le] at *); (repeat simp (disch := omega) only [zO, z_] at *)); first | (rw [if_pos (by omega)]; first | done | rfl) | (rw [if_neg (by omega), if_pos (by first | exact .inl (by omega) | exact .inr (.inl (by omega)) | exact .inr (.inr (by assumption)))]; first | done | rfl) | (rw [if_neg (by omega), if_neg (by rintro (h | h | h) <;> first | omega | (simp_all; done)), if_pos (by first | exact .inl (by omega) | exact .inr (by assumption))]; first | done | rfl) | (rw [if_neg (by omega), if_neg (by rintro (h | h | h) <;> first | omega | (simp_all; done)), if_neg (by rintro (h | h) <;> first | omega | exact h (by assumption))]; first | done | rfl)))), rfl⟩, trivial⟩
            · rw [hb6]
              refine zX rfl rfl (zC rfl rfl) <| zX rfl rfl (zC rfl rfl) <| zX rfl rfl (zC rfl rfl) <| zX rfl rfl (zC rfl rfl) <| zX rfl rfl (yR rfl rfl Tryz.underlying9) <| zX rfl rfl (zt rfl rfl rfl) ?_
              refine zX rfl rfl (si_lh rfl rfl rfl rfl Tryz.underlying9 (by ((try simp only [decide_eq_true_eq, decide_eq_false_iff_not, qc, ne_eq, beq_iff_eq, qd, beq_eq_false_iff_ne, Bool.not_eq_true', Bool.not_eq_false', gt_iff_lt, ge_iff_le] at *); (repeat simp (disch := omega) only [zO, z_] at *)); omega)) ?_
              refine zX rfl rfl (zC rfl rfl) <| zX rfl rfl (s_neS rfl rfl rfl) <| g_u (zj rfl rfl rfl) <| zF <| zA ?_
              refine zL rfl (fun hb7 => ?_) (fun hb7 => ?_)
              · refine zE ?_
                refine zB <| g_u (zD rfl rfl) <| g_u (zD rfl rfl) <| zF <| zA <| zK <| zJ ?_
                exact ⟨⟨(rfl : toAV (Al.look _ _) = some _).trans (congrArg some (by (unfold xg; (try simp only [ya] at *); ((try simp only [decide_eq_true_eq, decide_eq_false_iff_not, qc, ne_eq, beq_iff_eq, qd, beq_eq_false_iff_ne, Bool.not_eq_true', Bool.not_eq_false', gt_iff_lt, ge_iff_le] at *); (repeat simp (disch := omega) only [zO, z_] at *)); first | (rw [if_pos (by omega)]; first | done | rfl) | (rw [if_neg (by omega), if_pos (by first | exact .inl (by omega) | exact .inr (.inl (by omega)) | exact .inr (.inr (by assumption)))]; first | done | rfl) | (rw [if_neg (by omega), if_neg (by rintro (h | h | h) <;> first | omega | (simp_all; done)), if_pos (by first | exact .inl (by omega) | exact .inr (by assumption))]; first | done | rfl) | (rw [if_neg (by omega), if_neg (by rintro (h | h | h) <;> first | omega | (simp_all; done)), if_neg (by rintro (h | h) <;> first | omega | exact h (by assumption))]; first | done | rfl)))), rfl⟩, ⟨(rfl : toAV (Al.look _ _) = some _).trans (congrArg some (by (unfold xg; (try simp only [ya] at *); ((try simp only [decide_eq_true_eq, decide_eq_false_iff_not, qc, ne_eq, beq_iff_eq, qd, beq_eq_false_iff_ne, Bool.not_eq_true', Bool.not_eq_false', gt_iff_lt, ge_iff_le] at *); (repeat simp (disch := omega) only [zO, z_] at *)); first | (rw [if_pos (by omega)]; first | done | rfl) | (rw [if_neg (by omega), if_pos (by first | exact .inl (by omega) | exact .inr (.inl (by omega)) | exact .inr (.inr (by assumption)))]; first | done | rfl) | (rw [if_neg (by omega), if_neg (by rintro (h | h | h) <;> first | omega | (simp_all; done)), if_pos (by first | exact .inl (by omega) | exact .inr (by assumption))]; first | done | rfl) | (rw [if_neg (by omega), if_neg (by rintro (h | h | h) <;> first | omega | (simp_all; done)), if_neg (by rintro (h | h) <;> first | omega | exact h (by assumption))]; first | done | rfl)))), rfl⟩, trivial⟩
              · refine zN ?_
                refine zA <| zE <| zB <| g_u (zC rfl rfl) <| g_u (xL rfl rfl Tryz.underlying3 Tryz.underlying21) <| g_u (zC rfl rfl) <| g_u (yR rfl rfl Tryz.underlying9) <| g_u (zD rfl rfl) <| g_u (zD rfl rfl) <| zF <| zA <| zK ?_
                exact ⟨⟨(rfl : toAV (Al.look _ _) = some _).trans (congrArg some (by (unfold xg; (try simp only [ya] at *); ((try simp only [decide_eq_true_eq, decide_eq_false_iff_not, qc, ne_eq, beq_iff_eq, qd, beq_eq_false_iff_ne, Bool.not_eq_true', Bool.not_eq_false', gt_iff_lt, ge_iff_le] at *); (repeat simp (disch := omega) only [zO, z_] at *)); first | (rw [if_pos (by omega)]; first | done | rfl) | (rw [if_neg (by omega), if_pos (by first | exact .inl (by omega) | exact .inr (.inl (by omega)) | exact .inr (.inr (by assumption)))]; first | done | rfl) | (rw [if_neg (by omega), if_neg (by rintro (h | h | h) <;> first | omega | (simp_all; done)), if_pos (by first | exact .inl (by omega) | exact .inr (by assumption))]; first | done | rfl) | (rw [if_neg (by omega), if_neg (by rintro (h | h | h) <;> first | omega | (simp_all; done)), if_neg (by rintro (h | h) <;> first | omega | exact h (by assumption))]; first | done | rfl)))), rfl⟩, ⟨(rfl : toAV (Al.look _ _) = some _).trans (congrArg some (by (unfold xg; (try simp only [ya] at *); ((try simp only [decide_eq_true_eq, decide_eq_false_iff_not, qc, ne_eq, beq_iff_eq, qd, beq_eq_false_iff_ne, Bool.not_eq_true', Bool.not_eq_false', gt_iff_lt, ge_iff_le] at *); (repeat simp (disch := omega) only [zO, z_] at *)); first | (rw [if_pos (by omega)]; first | done | rfl) | (rw [if_neg (by omega), if_pos (by first | exact .inl (by omega) | exact .inr (.inl (by omega)) | exact .inr (.inr (by assumption)))]; first | done | rfl) | (rw [if_neg (by omega), if_neg (by rintro (h | h | h) <;> first | omega | (simp_all; done)), if_pos (by first | exact .inl (by omega) | exact .inr (by assumption))]; first | done | rfl) | (rw [if_neg (by omega), if_neg (by rintro (h | h | h) <;> first | omega | (simp_all; done)), if_neg (by rintro (h | h) <;> first | omega | exact h (by assumption))]; first | done | rfl)))), rfl⟩, trivial⟩
attribute [local irreducible] wo xg
theorem walk_c (s : ByteArray) (hs : s.size < 9223372036854775808) : zn Tryz.prog Γ0 196 [sv s] [iv (rEnd s).1, iv (rEnd s).2] := by
  refine zZ Tryz.func196 rfl Tryz.ntmps196 (by kernel_rfl) rfl fun w0 I0 G0 => ?_
  refine zE <| zB <| g_u (zD rfl rfl) <| g_u (zD rfl rfl) <| zF <| zA <| zE <| zB <| g_u (zD rfl rfl) <| g_u (zD rfl rfl) <| zF <| zA <| zE <| zS ?_
  refine zr (fun j : Nat × Int × Int => [(0, .imm (sv s)), (4, .imm (iv j.2.1)), (5, .imm (iv j.2.2))]) (fun j => 0 ≤ j.2.1 ∧ j.2.1 ≤ s.size ∧ 0 ≤ j.2.2 ∧ j.2.2 ≤ j.2.1 ∧ (s.size : Int) < j.2.1 + j.1 ∧ goM (rF s) s.size j.1 j.2.1 j.2.2 = rEnd s) (fun j => j.1) (⟨s.size + 1, 0, 0⟩) ?_ ⟨rfl, rfl, rfl, trivial⟩ ?_
  · refine ⟨Int.le_refl 0, Int.natCast_nonneg _, Int.le_refl 0, Int.le_refl 0, ?_, rfl⟩; dsimp only; omega
  · rintro ⟨m, q, c⟩ ⟨h1, h2, h3, h4, h5, h6⟩; dsimp only at h1 h2 h3 h4 h5 h6; obtain ⟨m, rfl⟩ : ∃ k, m = k + 1 := ⟨m - 1, by omega⟩; have F := dec_rF s q
    refine zE <| zE <| zB <| g_u (zC rfl rfl) <| g_u (zC rfl rfl) <| g_u (yR rfl rfl Tryz.underlying9) <| g_u (yO rfl rfl rfl) <| zF <| zA ?_
    refine zL rfl (fun hb1 => ?_) (fun hb1 => ?_)
    · refine zN ?_
      refine zA <| zS <| zE <| zB <| g_u (zC rfl rfl) <| g_u (zC rfl rfl) ?_
      refine g_u (s_call2 (rrune_c _ _ (by assumption)) rfl rfl) ?_
      refine g_u (vC rfl rfl) <| g_u (zm rfl rfl rfl rfl) <| g_u (zm rfl rfl rfl rfl) <| g_u (zD rfl rfl) <| g_u (zD rfl rfl) <| zF <| zA <| zE <| zE <| zB <| g_u (zC rfl rfl) <| g_u (yM rfl rfl rfl) <| zF <| zA ?_
      refine zL rfl (fun hb2 => ?_) (fun hb2 => ?_)
      · refine zE ?_
        refine zB <| g_u (zC rfl rfl) <| g_u (zC rfl rfl) <| g_u (zD rfl rfl) <| g_u (zD rfl rfl) <| zF <| zA <| zK <| zJ <| zf <| zJ <| zf <| zJ ?_
        change decide (q < (s.size : Int)) = true at hb1
        change (rF s q == 0) = true at hb2
        rw [goM, if_pos (by ((try simp only [decide_eq_true_eq, decide_eq_false_iff_not, qc, ne_eq, beq_iff_eq, qd, beq_eq_false_iff_ne, Bool.not_eq_true', Bool.not_eq_false', gt_iff_lt, ge_iff_le] at *); (repeat simp (disch := omega) only [zO, z_] at *)); omega), if_pos (by ((try simp only [decide_eq_true_eq, decide_eq_false_iff_not, qc, ne_eq, beq_iff_eq, qd, beq_eq_false_iff_ne, Bool.not_eq_true', Bool.not_eq_false', gt_iff_lt, ge_iff_le] at *); (repeat simp (disch := omega) only [zO, z_] at *)); exact hb2)] at h6
        exact ⟨⟨(rfl : toAV (Al.look _ _) = some _).trans (congrArg some (by rw [← h6])), rfl⟩, ⟨(rfl : toAV (Al.look _ _) = some _).trans (congrArg some (by rw [← h6])), rfl⟩, trivial⟩
      · refine zN ?_
        refine zA <| zE <| zB <| g_u (zC rfl rfl) <| g_u (zC rfl rfl) <| g_u (zt rfl rfl rfl) <| g_u (zD rfl rfl) <| zF <| zA <| zB <| g_u (zC rfl rfl) <| g_u (zt rfl rfl rfl) <| g_u (zD rfl rfl) <| zF <| zP <| zA ?_
        change decide (q < (s.size : Int)) = true at hb1
        have F := F h1 (by ((try simp only [decide_eq_true_eq, decide_eq_false_iff_not, qc, ne_eq, beq_iff_eq, qd, beq_eq_false_iff_ne, Bool.not_eq_true', Bool.not_eq_false', gt_iff_lt, ge_iff_le] at *); (repeat simp (disch := omega) only [zO, z_] at *)); omega)
        rw [goM, if_pos (by ((try simp only [decide_eq_true_eq, decide_eq_false_iff_not, qc, ne_eq, beq_iff_eq, qd, beq_eq_false_iff_ne, Bool.not_eq_true', Bool.not_eq_false', gt_iff_lt, ge_iff_le] at *); (repeat simp (disch := omega) only [zO, z_] at *)); omega)] at h6
        change ((rF s q) == 0) = false at hb2
        rw [if_neg (by ((try simp only [decide_eq_true_eq, decide_eq_false_iff_not, qc, ne_eq, beq_iff_eq, qd, beq_eq_false_iff_ne, Bool.not_eq_true', Bool.not_eq_false', gt_iff_lt, ge_iff_le] at *); (repeat simp (disch := omega) only [zO, z_] at *)); exact hb2)] at h6
        have F : 1 ≤ rF s q ∧ q + rF s q ≤ s.size := by ((try simp only [decide_eq_true_eq, decide_eq_false_iff_not, qc, ne_eq, beq_iff_eq, qd, beq_eq_false_iff_ne, Bool.not_eq_true', Bool.not_eq_false', gt_iff_lt, ge_iff_le] at *); (repeat simp (disch := omega) only [zO, z_] at *)); omega
        have e1 : IntKind.i64.wrap (q + rF s q) = q + rF s q := by ((try simp only [decide_eq_true_eq, decide_eq_false_iff_not, qc, ne_eq, beq_iff_eq, qd, beq_eq_false_iff_ne, Bool.not_eq_true', Bool.not_eq_false', gt_iff_lt, ge_iff_le] at *); (repeat simp (disch := omega) only [zO, z_] at *))
        have e2 : IntKind.i64.wrap (c + 1) = c + 1 := by ((try simp only [decide_eq_true_eq, decide_eq_false_iff_not, qc, ne_eq, beq_iff_eq, qd, beq_eq_false_iff_ne, Bool.not_eq_true', Bool.not_eq_false', gt_iff_lt, ge_iff_le] at *); (repeat simp (disch := omega) only [zO, z_] at *))
        refine ⟨⟨m, IntKind.i64.wrap (q + rF s q), IntKind.i64.wrap (c + 1)⟩, ⟨?_, ?_, ?_, ?_, ?_, ?_⟩, ⟨rfl, rfl, rfl, trivial⟩, Nat.lt_succ_self _⟩
        · dsimp only; rw [e1]; omega
        · dsimp only; rw [e1]; omega
        · dsimp only; rw [e2]; omega
        · dsimp only; rw [e1, e2]; omega
        · dsimp only; rw [e1]; omega
        · dsimp only; rw [e1, e2]; exact h6
    · refine zw ?_
      refine zT <| zT <| zo <| zA <| zE <| zB <| g_u (zC rfl rfl) <| g_u (zC rfl rfl) <| g_u (zD rfl rfl) <| g_u (zD rfl rfl) <| zF <| zA <| zK ?_
      change decide (q < (s.size : Int)) = false at hb1
      rw [goM, if_neg (by ((try simp only [decide_eq_true_eq, decide_eq_false_iff_not, qc, ne_eq, beq_iff_eq, qd, beq_eq_false_iff_ne, Bool.not_eq_true', Bool.not_eq_false', gt_iff_lt, ge_iff_le] at *); (repeat simp (disch := omega) only [zO, z_] at *)); omega)] at h6
      exact ⟨⟨(rfl : toAV (Al.look _ _) = some _).trans (congrArg some (by rw [← h6])), rfl⟩, ⟨(rfl : toAV (Al.look _ _) = some _).trans (congrArg some (by rw [← h6])), rfl⟩, trivial⟩
theorem check_c (s : ByteArray) (hs : s.size < 9223372036854775808) : zn Tryz.prog Γ0 174 [sv s] [iv (checkM s)] := by
  refine zZ Tryz.func174 rfl Tryz.ntmps174 (by kernel_rfl) rfl fun w0 I0 G0 => ?_
  refine zE <| zB <| g_u (zD rfl rfl) <| zF <| zA <| zE <| zE <| zB <| g_u (zD rfl rfl) <| zF <| zA <| zS ?_
  refine zr (fun j : Nat × Int × Int => [(0, .imm (sv s)), (3, .imm (iv j.2.1))]) (fun j => 0 ≤ j.2.1 ∧ j.2.1 ≤ s.size ∧ 0 ≤ j.2.2 ∧ j.2.2 ≤ j.2.1 ∧ (s.size : Int) < j.2.1 + j.1 ∧ goM (fM s) s.size j.1 j.2.1 j.2.2 = endM s) (fun j => j.1) (⟨s.size + 1, 0, 0⟩) ?_ ⟨rfl, rfl, trivial⟩ ?_
  · refine ⟨Int.le_refl 0, Int.natCast_nonneg _, Int.le_refl 0, Int.le_refl 0, ?_, rfl⟩; dsimp only; omega
  · rintro ⟨m, q, c⟩ ⟨h1, h2, h3, h4, h5, h6⟩; dsimp only at h1 h2 h3 h4 h5 h6; obtain ⟨m, rfl⟩ : ∃ k, m = k + 1 := ⟨m - 1, by omega⟩; have F := dec_fM s q
    refine zE <| zE <| zB <| g_u (zC rfl rfl) <| g_u (zC rfl rfl) <| g_u (yR rfl rfl Tryz.underlying9) <| g_u (yO rfl rfl rfl) <| zF <| zA ?_
    refine zL rfl (fun hb1 => ?_) (fun hb1 => ?_)
    · refine zN ?_
      refine zA <| zS <| zE <| zB <| g_u (zC rfl rfl) <| g_u (zC rfl rfl) ?_
      refine g_u (s_call2 (rune_c _ _ (by assumption)) rfl rfl) ?_
      refine g_u (vC rfl rfl) <| g_u (zm rfl rfl rfl rfl) <| g_u (zm rfl rfl rfl rfl) <| g_u (zD rfl rfl) <| g_u (zD rfl rfl) <| zF <| zA <| zE <| zE <| zB <| g_u (zC rfl rfl) <| g_u (yM rfl rfl rfl) <| zF <| zA ?_
      refine zL rfl (fun hb2 => ?_) (fun hb2 => ?_)
      · refine zE ?_
        refine zB <| g_u (zC rfl rfl) <| g_u (zD rfl rfl) <| zF <| zA <| zK <| zJ <| zf <| zJ <| zf <| zJ ?_
        change decide (q < (s.size : Int)) = true at hb1
        change (fM s q == 0) = true at hb2
        rw [goM, if_pos (by ((try simp only [decide_eq_true_eq, decide_eq_false_iff_not, qc, ne_eq, beq_iff_eq, qd, beq_eq_false_iff_ne, Bool.not_eq_true', Bool.not_eq_false', gt_iff_lt, ge_iff_le] at *); (repeat simp (disch := omega) only [zO, z_] at *)); omega), if_pos (by ((try simp only [decide_eq_true_eq, decide_eq_false_iff_not, qc, ne_eq, beq_iff_eq, qd, beq_eq_false_iff_ne, Bool.not_eq_true', Bool.not_eq_false', gt_iff_lt, ge_iff_le] at *); (repeat simp (disch := omega) only [zO, z_] at *)); exact hb2)] at h6
        exact ⟨⟨(rfl : toAV (Al.look _ _) = some _).trans (congrArg some (by unfold checkM; rw [← h6]; rw [if_pos (by ((try simp only [decide_eq_true_eq, decide_eq_false_iff_not, qc, ne_eq, beq_iff_eq, qd, beq_eq_false_iff_ne, Bool.not_eq_true', Bool.not_eq_false', gt_iff_lt, ge_iff_le] at *); (repeat simp (disch := omega) only [zO, z_] at *)); omega)])), rfl⟩, trivial⟩
      · refine zN ?_
        refine zA <| zB <| g_u (zC rfl rfl) <| g_u (zC rfl rfl) <| g_u (zt rfl rfl rfl) <| g_u (zD rfl rfl) <| zF <| zP <| zA ?_
        change decide (q < (s.size : Int)) = true at hb1
        have F := F h1 (by ((try simp only [decide_eq_true_eq, decide_eq_false_iff_not, qc, ne_eq, beq_iff_eq, qd, beq_eq_false_iff_ne, Bool.not_eq_true', Bool.not_eq_false', gt_iff_lt, ge_iff_le] at *); (repeat simp (disch := omega) only [zO, z_] at *)); omega)
        rw [goM, if_pos (by ((try simp only [decide_eq_true_eq, decide_eq_false_iff_not, qc, ne_eq, beq_iff_eq, qd, beq_eq_false_iff_ne, Bool.not_eq_true', Bool.not_eq_false', gt_iff_lt, ge_iff_le] at *); (repeat simp (disch := omega) only [zO, z_] at *)); omega)] at h6
        change ((fM s q) == 0) = false at hb2
        rw [if_neg (by ((try simp only [decide_eq_true_eq, decide_eq_false_iff_not, qc, ne_eq, beq_iff_eq, qd, beq_eq_false_iff_ne, Bool.not_eq_true', Bool.not_eq_false', gt_iff_lt, ge_iff_le] at *); (repeat simp (disch := omega) only [zO, z_] at *)); exact hb2)] at h6
        have F : 1 ≤ fM s q ∧ q + fM s q ≤ s.size := by ((try simp only [decide_eq_true_eq, decide_eq_false_iff_not, qc, ne_eq, beq_iff_eq, qd, beq_eq_false_iff_ne, Bool.not_eq_true', Bool.not_eq_false', gt_iff_lt, ge_iff_le] at *); (repeat simp (disch := omega) only [zO, z_] at *)); omega
        have e1 : IntKind.i64.wrap (q + fM s q) = q + fM s q := by ((try simp only [decide_eq_true_eq, decide_eq_false_iff_not, qc, ne_eq, beq_iff_eq, qd, beq_eq_false_iff_ne, Bool.not_eq_true', Bool.not_eq_false', gt_iff_lt, ge_iff_le] at *); (repeat simp (disch := omega) only [zO, z_] at *))
        have e2 : IntKind.i64.wrap (c + 1) = c + 1 := by ((try simp only [decide_eq_true_eq, decide_eq_false_iff_not, qc, ne_eq, beq_iff_eq, qd, beq_eq_false_iff_ne, Bool.not_eq_true', Bool.not_eq_false', gt_iff_lt, ge_iff_le] at *); (repeat simp (disch := omega) only [zO, z_] at *))
        refine ⟨⟨m, IntKind.i64.wrap (q + fM s q), IntKind.i64.wrap (c + 1)⟩, ⟨?_, ?_, ?_, ?_, ?_, ?_⟩, ⟨rfl, rfl, trivial⟩, Nat.lt_succ_self _⟩
        · dsimp only; rw [e1]; omega
        · dsimp only; rw [e1]; omega
        · dsimp only; rw [e2]; omega
        · dsimp only; rw [e1, e2]; omega
        · dsimp only; rw [e1]; omega
        · dsimp only; rw [e1, e2]; exact h6
    · refine zw ?_
      refine zT <| zT <| zo <| zA <| zE <| zB <| g_u (zD rfl rfl) <| zF <| zA <| zK ?_
      change decide (q < (s.size : Int)) = false at hb1
      rw [goM, if_neg (by ((try simp only [decide_eq_true_eq, decide_eq_false_iff_not, qc, ne_eq, beq_iff_eq, qd, beq_eq_false_iff_ne, Bool.not_eq_true', Bool.not_eq_false', gt_iff_lt, ge_iff_le] at *); (repeat simp (disch := omega) only [zO, z_] at *)); omega)] at h6
      exact ⟨⟨(rfl : toAV (Al.look _ _) = some _).trans (congrArg some (by unfold checkM; rw [← h6]; rw [if_neg (by ((try simp only [decide_eq_true_eq, decide_eq_false_iff_not, qc, ne_eq, beq_iff_eq, qd, beq_eq_false_iff_ne, Bool.not_eq_true', Bool.not_eq_false', gt_iff_lt, ge_iff_le] at *); (repeat simp (disch := omega) only [zO, z_] at *)); omega)])), rfl⟩, trivial⟩
theorem rcheck_c (s : ByteArray) (hs : s.size < 9223372036854775808) : zn Tryz.prog Γ0 141 [sv s] [iv (rCheckM s)] := by
  refine zZ Tryz.func141 rfl Tryz.ntmps141 (by kernel_rfl) rfl fun w0 I0 G0 => ?_
  refine zE <| zB <| g_u (zD rfl rfl) <| zF <| zA <| zE <| zB <| g_u (zC rfl rfl) ?_
  refine g_u (s_call2 (walk_c _ (by assumption)) rfl rfl) ?_
  refine g_u (vC rfl rfl) <| g_u (zm rfl rfl rfl rfl) <| g_u (zm rfl rfl rfl rfl) <| g_u (zD rfl rfl) <| g_u (zD rfl rfl) <| zF <| zA <| zE <| zE <| zB <| g_u (zC rfl rfl) <| g_u (zC rfl rfl) <| g_u (yR rfl rfl Tryz.underlying9) <| g_u (yM rfl rfl rfl) <| zF <| zA ?_
  refine zL rfl (fun hb1 => ?_) (fun hb1 => ?_)
  · refine zE ?_
    refine zB <| g_u (zD rfl rfl) <| zF <| zA <| zK <| zJ ?_
    exact ⟨⟨(rfl : toAV (Al.look _ _) = some _).trans (congrArg some (by (unfold rCheckM; ((try simp only [decide_eq_true_eq, decide_eq_false_iff_not, qc, ne_eq, beq_iff_eq, qd, beq_eq_false_iff_ne, Bool.not_eq_true', Bool.not_eq_false', gt_iff_lt, ge_iff_le] at *); (repeat simp (disch := omega) only [zO, z_] at *)); first | rw [if_pos (by omega)] | rw [if_neg (by omega)]))), rfl⟩, trivial⟩
  · refine zN ?_
    refine zA <| zE <| zB <| g_u (zC rfl rfl) <| g_u (zD rfl rfl) <| zF <| zA <| zK ?_
    exact ⟨⟨(rfl : toAV (Al.look _ _) = some _).trans (congrArg some (by (unfold rCheckM; ((try simp only [decide_eq_true_eq, decide_eq_false_iff_not, qc, ne_eq, beq_iff_eq, qd, beq_eq_false_iff_ne, Bool.not_eq_true', Bool.not_eq_false', gt_iff_lt, ge_iff_le] at *); (repeat simp (disch := omega) only [zO, z_] at *)); first | rw [if_pos (by omega)] | rw [if_neg (by omega)]))), rfl⟩, trivial⟩
attribute [local irreducible] checkM countM cutM rCheckM rCountM rCutM
attribute [local irreducible] bytesM bytesP
end Go.Proofs
namespace Go.Proofs
open Go Go.Al
theorem size0 (k : ByteArray) : k = ⟨#[]⟩ ↔ k.size = 0 := by
  constructor
  · rintro rfl; rfl
  · intro h; refine str_ext ?_; have : k.data.toList.length = 0 := by simpa using h
    rw [List.length_eq_zero_iff.1 this]
theorem check_range (s : ByteArray) : checkM s = -1 ∨ 0 ≤ checkM s := by
  have h := end_spec s
  unfold checkM
  split
  · exact .inr h.2.2.1
  · exact .inl rfl
def prevOf (l : List GA) (i : Nat) : Option ByteArray := if i = 0 then none else some (nthA l (i - 1)).key
theorem entC_drop {l : List GA} {i : Nat} (d : Int) (h : i < l.length) : entC d (prevOf l i) (l.drop i) = orC (keyC (nthA l i).key) (if prevBad (prevOf l i) (nthA l i).key then 12 else orC (y3 d (nthA l i).val) (entC d (prevOf l (i + 1)) (l.drop (i + 1)))) := by
  rw [xM (d := a0) h, entC, checkA_eq]; rfl
theorem checkVs_drop {l : List GV} {i : Nat} (d : Int) (h : i < l.length) : xy d (l.drop i) = orC (y3 d (nthV l i)) (xy d (l.drop (i + 1))) := by
  rw [xM (d := v0) h, xy]; rfl
theorem prevBad_pos {l : List GA} {i : Nat} (h : i ≠ 0) (k : ByteArray) : prevBad (prevOf l i) k = !(ltB (nthA l (i - 1)).key k) := by unfold prevOf; rw [if_neg h]; rfl
theorem zI (a b : Int) (h : a = 0) : orC a b = b := by unfold orC; rw [if_neg (by omega)]
theorem zb (a b : Int) (h : a ≠ 0) : orC a b = a := by unfold orC; rw [if_pos h]
theorem xP (a : Int) : orC a 0 = a := by unfold orC; split <;> omega
def zd (v : GV) : GV := .mk v.kind (if v.kind = 1 ∨ v.kind = 5 then v.text else ⟨#[]⟩) (if v.kind = 2 ∨ v.kind = 3 then v.num else 0) (if v.kind = 4 then v.bits else 0) (if v.kind = 6 then v.list else []) (if v.kind = 7 then v.map else [])
def moreM (v : GV) : Bool := !(v.text.toList == (zd v).text.toList) || (v.num != (zd v).num) || (v.bits != (zd v).bits) || ((v.list.length : Int) != ((zd v).list.length : Int)) || ((v.map.length : Int) != ((zd v).map.length : Int))
theorem isEmpty_len {α : Type} (l : List α) : l.isEmpty = decide ((l.length : Int) = 0) := by cases l <;> simp <;> omega
theorem more_eq (v : GV) : moreM v = !wN v := by
  have e1 : (!(v.text.toList == (zd v).text.toList)) = !(v.kind == 1 || v.kind == 5 || decide (v.text.size = 0)) := by
    congr 1
    rw [ya]
    by_cases h : v.kind = 1 ∨ v.kind = 5
    · have : (zd v).text = v.text := by simp [zd, GV.text_mk, h]
      rw [this]
      rcases h with h | h <;> simp [h]
    · have : (zd v).text = ⟨#[]⟩ := by simp only [zd, GV.text_mk, if_neg h]
      rw [this]
      simp only [not_or] at h
      rw [Bool.eq_iff_iff]; simp [size0, h.1, h.2]
  have e2 : (v.num != (zd v).num) = !(v.kind == 2 || v.kind == 3 || v.num == 0) := by
    by_cases h : v.kind = 2 ∨ v.kind = 3
    · have : (zd v).num = v.num := by simp [zd, GV.num_mk, h]
      rw [this]; rcases h with h | h <;> simp [h]
    · have : (zd v).num = 0 := by simp only [zd, GV.num_mk, if_neg h]
      rw [this]; simp only [not_or] at h
      rw [beq_eq_false_iff_ne.2 h.1, beq_eq_false_iff_ne.2 h.2]; simp [bne]
  have e3 : (v.bits != (zd v).bits) = !(v.kind == 4 || v.bits == 0) := by
    by_cases h : v.kind = 4
    · have : (zd v).bits = v.bits := by simp [zd, GV.bits_mk, h]
      rw [this]; simp [h]
    · have : (zd v).bits = 0 := by simp only [zd, GV.bits_mk, if_neg h]
      rw [this, beq_eq_false_iff_ne.2 h]; simp [bne]
  have e4 : ((v.list.length : Int) != ((zd v).list.length : Int)) = !(v.kind == 6 || v.list.isEmpty) := by
    by_cases h : v.kind = 6
    · have : (zd v).list = v.list := by simp [zd, GV.list_mk, h]
      rw [this]; simp [h]
    · have : (zd v).list = [] := by simp only [zd, GV.list_mk, if_neg h]
      rw [this, Bool.eq_iff_iff]; simp [h]
  have e5 : ((v.map.length : Int) != ((zd v).map.length : Int)) = !(v.kind == 7 || v.map.isEmpty) := by
    by_cases h : v.kind = 7
    · have : (zd v).map = v.map := by simp [zd, GV.map_mk, h]
      rw [this]; simp [h]
    · have : (zd v).map = [] := by simp only [zd, GV.map_mk, if_neg h]
      rw [this, Bool.eq_iff_iff]; simp [h]
  unfold moreM wN
  rw [e1, e2, e3, e4, e5]
  simp only [Bool.not_and]
def wG (d : Int) (v : GV) : Int :=
  if v.kind = 1 then (if checkM v.text ≠ -1 then 5 else 0) else if v.kind = 2 then (if v.num ≠ 0 ∧ v.num ≠ 1 then 4 else 0)
  else if v.kind = 6 then xy (d + 1) v.list else if v.kind = 7 then entC (d + 1) none v.map else 0
theorem wR {v : GV} {d : Int} (h7 : ¬ 7 < v.kind) (he : wN v = true) (h16 : ¬ (6 ≤ v.kind ∧ 16 ≤ d)) : y3 d v = wG d v := by
  rw [zs, if_neg h7, if_neg (by rw [he]; decide), if_neg h16]
  have hl : v.kind ≠ 6 → v.list = [] := fun h => by
    unfold wN at he; simp only [Bool.and_eq_true, Bool.or_eq_true, beq_iff_eq, List.isEmpty_iff] at he
    exact he.1.2.resolve_left h
  have hm : v.kind ≠ 7 → v.map = [] := fun h => by
    unfold wN at he; simp only [Bool.and_eq_true, Bool.or_eq_true, beq_iff_eq, List.isEmpty_iff] at he
    exact he.2.resolve_left h
  unfold wG
  by_cases h1 : v.kind = 1
  · rw [if_pos h1, hl (by omega), hm (by omega)]
    simp only [h1, true_and, xy, entC, xP]
    split
    · rfl
    · rw [if_neg (by omega)]
  rw [if_neg (fun h => h1 h.1), if_neg h1]
  by_cases h2 : v.kind = 2
  · rw [if_pos h2, hl (by omega), hm (by omega)]
    simp only [h2, true_and, xy, entC, xP]
  rw [if_neg (fun h => h2 h.1), if_neg h2]
  by_cases h6 : v.kind = 6
  · rw [if_pos h6, hm (by omega)]; simp only [entC, xP]
  rw [if_neg h6, hl h6]
  by_cases h8 : v.kind = 7
  · rw [if_pos h8]; simp only [xy]; exact zI _ _ rfl
  · rw [if_neg h8, hm h8]; rfl
def textsC (l : List GA) : Int := if l.any (fun a => decide (1024 < (textM a.val).size)) then 35 else 0
theorem xS {l : List GA} {i : Nat} (h : i < l.length) : textsC (l.drop i) = if 1024 < (textM (nthA l i).val).size then 35 else textsC (l.drop (i + 1)) := by
  rw [xM (d := a0) h]
  unfold textsC nthA
  by_cases hc : 1024 < (textM (nth l i a0).val).size
  · simp [hc]
  · simp [hc]
theorem len_beq {α : Type} (l : List α) : (((l.length : Nat) : Int) == 0) = l.isEmpty := by
  rw [isEmpty_len, Bool.eq_iff_iff]; simp
theorem leB (s t : ByteArray) : (Op.bytesLess s.toList t.toList || s.toList == t.toList) = !(ltB t s) := by
  rw [less_eq, ya]
  cases h1 : ltB t s
  · cases h2 : ltB s t
    · rw [ltB_tri h2 h1]; simp
    · simp
  · have h2 : ltB s t = false := by
      cases h : ltB s t
      · rfl
      · have := ltB_trans h h1; rw [ltB_irrefl] at this; cases this
    have h3 : s ≠ t := by rintro rfl; rw [ltB_irrefl] at h1; cases h1
    simp [h2, h3]
end Go.Proofs
namespace Go.Al
open Go.RowKit
theorem aw_cut' {C : Cx} {x y : Code} {st : St} {Q : Exit → St → Prop} {ι : Type} (Inv : ι → St) (ok : ι → Prop)
    (h1 : AW C x st (thn (fun st' => ∃ j, ok j ∧ sub st' (Inv j)) Q)) (h2 : ∀ j, ok j → AW C y (Inv j) Q) : AW C x st (thn (fun st' => AW C y st' Q) Q) := by
  refine h1.mono ?_
  intro e st' q
  cases e <;> simp only [thn] at q ⊢ <;> first | exact q | (obtain ⟨j, a, b⟩ := q; exact aw_weak _ b (h2 j a))
end Go.Al
