/- Texts that the proofs of this claim share, part 5: the abstract logic, plain Lean on values and batches, and walks. No condition but those typed in each lemma. -/
import Derived.Test.YtiolofgnkkhjoaaDoorP4
set_option linter.unusedSimpArgs false
set_option linter.unusedVariables false
set_option maxHeartbeats 400000
namespace Go.Proofs
open Go Go.Al
set_option maxRecDepth 10000
set_option maxHeartbeats 4000000 in
theorem leftS_c (s : GSpan) (n : Int) (hn : -1000000000000 ≤ n ∧ n ≤ 1000000000) : zo Tryd.prog Γ0 7 [s.av, iv n] [iv (vG s n)] := by
  refine zf Tryd.func7 rfl Tryd.ntmps7 (by kernel_rfl) rfl fun w0 I0 G0 => ?_
  refine zD <| zB <| g_uG (zn 1002 rfl rfl rfl rfl) rfl <| g_u (zE rfl rfl) <| zH <| zA <| zD <| zD <| zB <| g_u (zC rfl rfl) <| g_u (yd rfl rfl rfl) <| g_u (zC rfl rfl) <| yL (t := 9) rfl ?_
  rintro (hb1 | hb1)
  · rw [hb1]
    have z1 : n < 0 := of_decide_eq_true hb1
    refine zI rfl rfl rfl <| zI rfl rfl rfl <| zI rfl rfl rfl <| zI rfl rfl rfl <| zI rfl rfl rfl <| g_u (zZ rfl rfl rfl) <| g_u (zC rfl rfl) <| zI rfl rfl rfl <| zI rfl rfl rfl <| zI rfl rfl rfl <| zI rfl rfl rfl <| zI rfl rfl rfl <| g_u (zZ rfl rfl rfl) <| g_u (zC rfl rfl) <| zI rfl rfl rfl <| zI rfl rfl rfl <| zI rfl rfl rfl <| zI rfl rfl rfl <| zI rfl rfl rfl <| zI rfl rfl rfl <| g_u (zZ rfl rfl rfl) <| zH <| zA <| zg rfl <| zD <| zB <| g_u (zE rfl rfl) <| zH <| zA <| zQ <| zM ?_
    exact ⟨⟨(rfl : toAV (Al.look _ _) = some _).trans (congrArg some (by (exact congrArg iv (by unfold vG; first | (rw [if_pos (by omega)]; done) | (rw [if_neg (by omega), g4, gfin]; done) | (rw [if_neg (by omega), g4, xr hi2 (by omega) hk2]; done) | (rw [if_neg (by omega), h4, xx hi (by omega) hk]; exact (xH _ (by omega)).symm))))), rfl⟩, trivial⟩
  · rw [hb1]
    have z1 : ¬ n < 0 := of_decide_eq_false hb1
    refine zO rfl rfl (zF rfl rfl fa36_3 rfl) <| zO rfl rfl (zG rfl rfl rfl tA9 tS9 rfl rfl) <| zO rfl rfl (xY rfl rfl Tryd.underlying9) <| zO rfl rfl (zC rfl rfl) <| zO rfl rfl (s_gtI rfl rfl rfl) <| g_u (zr rfl rfl rfl) <| g_u (zC rfl rfl) <| yL (t := 16) rfl ?_
    rintro (hb2 | hb2)
    · rw [hb2]
      have z2 : (s.state.size : Int) > n := of_decide_eq_true hb2
      refine zI rfl rfl rfl <| zI rfl rfl rfl <| zI rfl rfl rfl <| zI rfl rfl rfl <| zI rfl rfl rfl <| g_u (zZ rfl rfl rfl) <| g_u (zC rfl rfl) <| zI rfl rfl rfl <| zI rfl rfl rfl <| zI rfl rfl rfl <| zI rfl rfl rfl <| zI rfl rfl rfl <| zI rfl rfl rfl <| g_u (zZ rfl rfl rfl) <| zH <| zA <| zg rfl <| zD <| zB <| g_u (zE rfl rfl) <| zH <| zA <| zQ <| zM ?_
      exact ⟨⟨(rfl : toAV (Al.look _ _) = some _).trans (congrArg some (by (exact congrArg iv (by unfold vG; first | (rw [if_pos (by omega)]; done) | (rw [if_neg (by omega), g4, gfin]; done) | (rw [if_neg (by omega), g4, xr hi2 (by omega) hk2]; done) | (rw [if_neg (by omega), h4, xx hi (by omega) hk]; exact (xH _ (by omega)).symm))))), rfl⟩, trivial⟩
    · rw [hb2]
      have z2 : ¬ (s.state.size : Int) > n := of_decide_eq_false hb2
      refine zO rfl rfl (zF rfl rfl fa36_4 rfl) <| zO rfl rfl (zG rfl rfl rfl tA9 tS9 rfl rfl) <| zO rfl rfl (xY rfl rfl Tryd.underlying9) <| zO rfl rfl (zC rfl rfl) <| zO rfl rfl (s_gtI rfl rfl rfl) <| g_u (zr rfl rfl rfl) <| g_u (zC rfl rfl) <| yL (t := 23) rfl ?_
      rintro (hb3 | hb3)
      · rw [hb3]
        have z3 : (s.name.size : Int) > n := of_decide_eq_true hb3
        refine zI rfl rfl rfl <| zI rfl rfl rfl <| zI rfl rfl rfl <| zI rfl rfl rfl <| zI rfl rfl rfl <| zI rfl rfl rfl <| g_u (zZ rfl rfl rfl) <| zH <| zA <| zg rfl <| zD <| zB <| g_u (zE rfl rfl) <| zH <| zA <| zQ <| zM ?_
        exact ⟨⟨(rfl : toAV (Al.look _ _) = some _).trans (congrArg some (by (exact congrArg iv (by unfold vG; first | (rw [if_pos (by omega)]; done) | (rw [if_neg (by omega), g4, gfin]; done) | (rw [if_neg (by omega), g4, xr hi2 (by omega) hk2]; done) | (rw [if_neg (by omega), h4, xx hi (by omega) hk]; exact (xH _ (by omega)).symm))))), rfl⟩, trivial⟩
      · rw [hb3]
        have z3 : ¬ (s.name.size : Int) > n := of_decide_eq_false hb3
        refine zO rfl rfl (zF rfl rfl fa36_11 rfl) <| zO rfl rfl (zF rfl rfl fa34_1 rfl) <| zO rfl rfl (zG rfl rfl rfl tA9 tS9 rfl rfl) <| zO rfl rfl (xY rfl rfl Tryd.underlying9) <| zO rfl rfl (zC rfl rfl) <| zO rfl rfl (s_gtI rfl rfl rfl) <| g_u (zr rfl rfl rfl) <| zH <| zA ?_
        refine zV rfl (fun hb4 => ?_) (fun hb4 => ?_)
        · have z4 : (s.note.size : Int) > n := of_decide_eq_true hb4
          refine zD <| zB <| g_u (zE rfl rfl) <| zH <| zA <| zQ <| zM ?_
          exact ⟨⟨(rfl : toAV (Al.look _ _) = some _).trans (congrArg some (by (exact congrArg iv (by unfold vG; first | (rw [if_pos (by omega)]; done) | (rw [if_neg (by omega), g4, gfin]; done) | (rw [if_neg (by omega), g4, xr hi2 (by omega) hk2]; done) | (rw [if_neg (by omega), h4, xx hi (by omega) hk]; exact (xH _ (by omega)).symm))))), rfl⟩, trivial⟩
        · have z4 : ¬ (s.note.size : Int) > n := of_decide_eq_false hb4
          have bm := wE s.attrs (n - 1 - s.state.size - s.name.size - s.note.size)
          have ew : yO s.attrs (IntKind.i64.wrap (IntKind.i64.wrap (IntKind.i64.wrap (IntKind.i64.wrap (n - 1) - s.state.size) - s.name.size) - s.note.size)) = yO s.attrs (n - 1 - s.state.size - s.name.size - s.note.size) := by rw [z_ (n := n - 1) (by omega) (by omega), z_ (n := n - 1 - s.state.size) (by omega) (by omega), z_ (n := n - 1 - s.state.size - s.name.size) (by omega) (by omega), z_ (by omega) (by omega)]
          refine zY <| zA <| zD <| zB <| g_u (zF rfl rfl fa36_8 rfl) <| g_u (zG rfl rfl rfl tA30 tS30 rfl rfl) <| g_u (zC rfl rfl) <| g_u (s_sub rfl rfl rfl) <| g_u (zF rfl rfl fa36_3 rfl) <| g_u (zG rfl rfl rfl tA9 tS9 rfl rfl) <| g_u (xY rfl rfl Tryd.underlying9) <| g_u (s_sub rfl rfl rfl) <| g_u (zF rfl rfl fa36_4 rfl) <| g_u (zG rfl rfl rfl tA9 tS9 rfl rfl) <| g_u (xY rfl rfl Tryd.underlying9) <| g_u (s_sub rfl rfl rfl) <| g_u (zF rfl rfl fa36_11 rfl) <| g_u (zF rfl rfl fa34_1 rfl) <| g_u (zG rfl rfl rfl tA9 tS9 rfl rfl) <| g_u (xY rfl rfl Tryd.underlying9) <| g_u (s_sub rfl rfl rfl) ?_
          refine g_u (zR (leftAs_c _ _ ⟨by ((try simp only [qa, qb, qc, ne_eq, beq_iff_eq, qd, qe, Bool.not_eq_true', Bool.not_eq_false', gt_iff_lt, ge_iff_le] at *); (repeat simp (disch := omega) only [z_, yN] at *)); omega, by ((try simp only [qa, qb, qc, ne_eq, beq_iff_eq, qd, qe, Bool.not_eq_true', Bool.not_eq_false', gt_iff_lt, ge_iff_le] at *); (repeat simp (disch := omega) only [z_, yN] at *)); omega⟩) rfl rfl) ?_
          refine g_u (zE rfl rfl) <| zH <| zA <| zD <| zD <| zB <| g_u (zE rfl rfl) <| zH <| zA <| zT ?_
          refine zq (fun j : Nat × Int => [(2, .ptr 1002 0), (1002, .box 36 (.imm s.av)), (1, .imm (iv j.2)), (5, .imm (iv (j.1 : Int)))]) (fun j => j.1 ≤ s.events.length ∧ (-1000000000000 ≤ j.2 ∧ j.2 ≤ 1000000000) ∧ ((j.1 : Int) ≤ yO s.attrs (n - 1 - s.state.size - s.name.size - s.note.size) - j.2) ∧ leftE s.events (yO s.attrs (n - 1 - s.state.size - s.name.size - s.note.size)) = leftE (s.events.drop j.1) j.2) (fun j => s.events.length - j.1) (⟨0, yO s.attrs (n - 1 - s.state.size - s.name.size - s.note.size)⟩) ?_ ⟨rfl, rfl, zd rfl (by rw [ew]), rfl, trivial⟩ ?_
          · exact ⟨Nat.zero_le _, ⟨by have := bm.2.1; omega, by omega⟩, by simp, rfl⟩
          · rintro ⟨i, m⟩ ⟨h1, h2, h3, h4⟩; dsimp only at h1 h2 h3 h4
            refine zD <| zD <| zB <| g_u (zC rfl rfl) <| g_u (zF rfl rfl xI rfl) <| g_u (zG rfl rfl rfl tA31 tS31 rfl rfl) <| g_u (zz rfl rfl Tryd.underlying31) <| g_u (yd rfl rfl rfl) <| g_u (zC rfl rfl) <| yL (t := 54) rfl ?_
            rintro (hb5 | hb5)
            · rw [hb5]
              have hi : i < s.events.length := by have := of_decide_eq_true hb5; (try simp only [List.length_map] at this); omega
              refine zO rfl rfl (zC rfl rfl) <| zO rfl rfl (s_geI rfl rfl rfl) <| g_u (zZ rfl rfl rfl) <| zH <| zA ?_
              refine zV rfl (fun hb6 => ?_) (fun hb6 => ?_)
              · have hs : ¬ m < 0 := by have := of_decide_eq_true hb6; omega
                refine zY <| zA <| zD <| zT <| zD <| zD <| zB <| g_u (zF rfl rfl xI rfl) <| g_u (zG rfl rfl rfl tA31 tS31 rfl rfl) <| g_u (zC rfl rfl) ?_
                refine g_u (zJ rfl rfl rfl Tryd.underlying31 tS66 (by omega) (ixE hi)) ?_
                refine g_u (zL rfl rfl fa66_1 rfl rfl) <| g_u (zN rfl rfl tA9 tS9 rfl rfl) <| g_u (xY rfl rfl Tryd.underlying9) <| g_u (zC rfl rfl) <| g_u (s_gtI rfl rfl rfl) <| zH <| zA ?_
                refine zV rfl (fun hb7 => ?_) (fun hb7 => ?_)
                · have hk : ((nthE s.events i).name.size : Int) > m := of_decide_eq_true hb7
                  refine zD <| zB <| g_u (zE rfl rfl) <| zH <| zA <| zQ <| zM <| zp <| zM <| zM <| zp <| zM ?_
                  exact ⟨⟨(rfl : toAV (Al.look _ _) = some _).trans (congrArg some (by (exact congrArg iv (by unfold vG; first | (rw [if_pos (by omega)]; done) | (rw [if_neg (by omega), g4, gfin]; done) | (rw [if_neg (by omega), g4, xr hi2 (by omega) hk2]; done) | (rw [if_neg (by omega), h4, xx hi (by omega) hk]; exact (xH _ (by omega)).symm))))), rfl⟩, trivial⟩
                · have hk : ¬ ((nthE s.events i).name.size : Int) > m := of_decide_eq_false hb7
                  refine zY <| zA <| yM y6 <| g_u (zF rfl rfl xI rfl) <| g_u (zG rfl rfl rfl tA31 tS31 rfl rfl) <| g_u (zC rfl rfl) ?_
                  refine g_u (zJ rfl rfl rfl Tryd.underlying31 tS66 (by omega) (ixE hi)) ?_
                  refine g_u (zL rfl rfl fa66_2 rfl rfl) <| g_u (zN rfl rfl tA30 tS30 rfl rfl) <| g_u (zC rfl rfl) <| g_u (s_sub rfl rfl rfl) <| g_u (zF rfl rfl xI rfl) <| g_u (zG rfl rfl rfl tA31 tS31 rfl rfl) <| g_u (zC rfl rfl) ?_
                  refine g_u (zJ rfl rfl rfl Tryd.underlying31 tS66 (by omega) (ixE hi)) ?_
                  refine g_u (zL rfl rfl fa66_1 rfl rfl) <| g_u (zN rfl rfl tA9 tS9 rfl rfl) <| g_u (xY rfl rfl Tryd.underlying9) <| g_u (s_sub rfl rfl rfl) ?_
                  refine g_u (zR (leftAs_c _ _ ⟨by ((try simp only [qa, qb, qc, ne_eq, beq_iff_eq, qd, qe, Bool.not_eq_true', Bool.not_eq_false', gt_iff_lt, ge_iff_le] at *); (repeat simp (disch := omega) only [z_, yN] at *)); omega, by ((try simp only [qa, qb, qc, ne_eq, beq_iff_eq, qd, qe, Bool.not_eq_true', Bool.not_eq_false', gt_iff_lt, ge_iff_le] at *); (repeat simp (disch := omega) only [z_, yN] at *)); omega⟩) rfl rfl) ?_
                  refine g_u (zE rfl rfl) ?_
                  refine zH ⟨by kernel_rfl, ?_⟩
                  refine zW <| zA <| zB <| g_u (zC rfl rfl) <| g_u (yK rfl rfl rfl) <| g_u (zE rfl rfl) <| zH <| zA ?_
                  have ed := leftE_drop (m := m) hi (by omega) hk
                  have bl := wE (nthE s.events i).attrs (m - 1 - (nthE s.events i).name.size)
                  refine ⟨⟨i + 1, yO (nthE s.events i).attrs (m - 1 - (nthE s.events i).name.size)⟩, ⟨hi, ⟨by dsimp only; omega, by dsimp only; omega⟩, by dsimp only; omega, by dsimp only; rw [h4, ed]⟩, ⟨rfl, rfl, zd rfl (by dsimp only; rw [z_ (n := m - 1) (by omega) (by omega), z_ (by omega) (by omega)]), zd rfl (by rw [z_ (by omega) (by omega)]; rfl), trivial⟩, by dsimp only; omega⟩
              · have hs : m < 0 := by have := of_decide_eq_false hb6; omega
                have hm : leftE s.events (yO s.attrs (n - 1 - s.state.size - s.name.size - s.note.size)) = m := by rw [h4]; exact leftE_neg _ hs
                refine zt <| zP <| zP <| zj <| zA <| zD <| zD <| zB <| g_u (zE rfl rfl) <| zH <| zA <| zT ?_
                refine zq (fun j : Nat × Int => [(2, .ptr 1002 0), (1002, .box 36 (.imm s.av)), (1, .imm (iv j.2)), (6, .imm (iv (j.1 : Int)))]) (fun j => j.1 ≤ s.links.length ∧ (-1000000000000 ≤ j.2 ∧ j.2 ≤ 1000000000) ∧ ((j.1 : Int) ≤ leftE s.events (yO s.attrs (n - 1 - s.state.size - s.name.size - s.note.size)) - j.2) ∧ leftL s.links (leftE s.events (yO s.attrs (n - 1 - s.state.size - s.name.size - s.note.size))) = leftL (s.links.drop j.1) j.2) (fun j => s.links.length - j.1) (⟨0, m⟩) ?_ ⟨rfl, rfl, rfl, rfl, trivial⟩ ?_
                · exact ⟨Nat.zero_le _, h2, by rw [hm]; simp, by rw [hm]; rfl⟩
                · rintro ⟨i2, m2⟩ ⟨g1, g2, g3, g4⟩; dsimp only at g1 g2 g3 g4
                  refine zD <| zD <| zB <| g_u (zC rfl rfl) <| g_u (zF rfl rfl xk rfl) <| g_u (zG rfl rfl rfl tA32 tS32 rfl rfl) <| g_u (zz rfl rfl Tryd.underlying32) <| g_u (yd rfl rfl rfl) <| g_u (zC rfl rfl) <| yL (t := 91) rfl ?_
                  rintro (hb8 | hb8)
                  · rw [hb8]
                    have hi2 : i2 < s.links.length := by have := of_decide_eq_true hb8; (try simp only [List.length_map] at this); omega
                    refine zO rfl rfl (zC rfl rfl) <| zO rfl rfl (s_geI rfl rfl rfl) <| g_u (zZ rfl rfl rfl) <| zH <| zA ?_
                    refine zV rfl (fun hb9 => ?_) (fun hb9 => ?_)
                    · have hs2 : ¬ m2 < 0 := by have := of_decide_eq_true hb9; omega
                      refine zY <| zA <| zD <| zT <| zD <| zD <| zB <| g_u (zF rfl rfl xk rfl) <| g_u (zG rfl rfl rfl tA32 tS32 rfl rfl) <| g_u (zC rfl rfl) ?_
                      refine g_u (zJ rfl rfl rfl Tryd.underlying32 tS68 (by omega) (ixL hi2)) ?_
                      refine g_u (zL rfl rfl fa68_2 rfl rfl) <| g_u (zN rfl rfl tA9 tS9 rfl rfl) <| g_u (xY rfl rfl Tryd.underlying9) <| g_u (zC rfl rfl) <| g_u (s_gtI rfl rfl rfl) <| zH <| zA ?_
                      refine zV rfl (fun hb10 => ?_) (fun hb10 => ?_)
                      · have hk2 : ((nthL s.links i2).state.size : Int) > m2 := of_decide_eq_true hb10
                        refine zD <| zB <| g_u (zE rfl rfl) <| zH <| zA <| zQ <| zM <| zp <| zM <| zM <| zp <| zM ?_
                        exact ⟨⟨(rfl : toAV (Al.look _ _) = some _).trans (congrArg some (by (exact congrArg iv (by unfold vG; first | (rw [if_pos (by omega)]; done) | (rw [if_neg (by omega), g4, gfin]; done) | (rw [if_neg (by omega), g4, xr hi2 (by omega) hk2]; done) | (rw [if_neg (by omega), h4, xx hi (by omega) hk]; exact (xH _ (by omega)).symm))))), rfl⟩, trivial⟩
                      · have hk2 : ¬ ((nthL s.links i2).state.size : Int) > m2 := of_decide_eq_false hb10
                        refine zY <| zA <| yM y6 <| g_u (zF rfl rfl xk rfl) <| g_u (zG rfl rfl rfl tA32 tS32 rfl rfl) <| g_u (zC rfl rfl) ?_
                        refine g_u (zJ rfl rfl rfl Tryd.underlying32 tS68 (by omega) (ixL hi2)) ?_
                        refine g_u (zL rfl rfl fa68_3 rfl rfl) <| g_u (zN rfl rfl tA30 tS30 rfl rfl) <| g_u (zC rfl rfl) <| g_u (s_sub rfl rfl rfl) <| g_u (zF rfl rfl xk rfl) <| g_u (zG rfl rfl rfl tA32 tS32 rfl rfl) <| g_u (zC rfl rfl) ?_
                        refine g_u (zJ rfl rfl rfl Tryd.underlying32 tS68 (by omega) (ixL hi2)) ?_
                        refine g_u (zL rfl rfl fa68_2 rfl rfl) <| g_u (zN rfl rfl tA9 tS9 rfl rfl) <| g_u (xY rfl rfl Tryd.underlying9) <| g_u (s_sub rfl rfl rfl) ?_
                        refine g_u (zR (leftAs_c _ _ ⟨by ((try simp only [qa, qb, qc, ne_eq, beq_iff_eq, qd, qe, Bool.not_eq_true', Bool.not_eq_false', gt_iff_lt, ge_iff_le] at *); (repeat simp (disch := omega) only [z_, yN] at *)); omega, by ((try simp only [qa, qb, qc, ne_eq, beq_iff_eq, qd, qe, Bool.not_eq_true', Bool.not_eq_false', gt_iff_lt, ge_iff_le] at *); (repeat simp (disch := omega) only [z_, yN] at *)); omega⟩) rfl rfl) ?_
                        refine g_u (zE rfl rfl) ?_
                        refine zH ⟨by kernel_rfl, ?_⟩
                        refine zW <| zA <| zB <| g_u (zC rfl rfl) <| g_u (yK rfl rfl rfl) <| g_u (zE rfl rfl) <| zH <| zA ?_
                        have ed := leftL_drop (m := m2) hi2 (by omega) hk2
                        have bl := wE (nthL s.links i2).attrs (m2 - 1 - (nthL s.links i2).state.size)
                        refine ⟨⟨i2 + 1, yO (nthL s.links i2).attrs (m2 - 1 - (nthL s.links i2).state.size)⟩, ⟨hi2, ⟨by dsimp only; omega, by dsimp only; omega⟩, by dsimp only; omega, by dsimp only; rw [g4, ed]⟩, ⟨rfl, rfl, zd rfl (by dsimp only; rw [z_ (n := m2 - 1) (by omega) (by omega), z_ (by omega) (by omega)]), zd rfl (by rw [z_ (by omega) (by omega)]; rfl), trivial⟩, by dsimp only; omega⟩
                    · have hs2 : m2 < 0 := by have := of_decide_eq_false hb9; omega
                      have gfin : leftL (s.links.drop i2) m2 = m2 := xH _ hs2
                      refine zt <| zP <| zP <| zj <| zA <| zD <| zB <| g_u (zC rfl rfl) <| g_u (zE rfl rfl) <| zH <| zA <| zQ ?_
                      exact ⟨⟨(rfl : toAV (Al.look _ _) = some _).trans (congrArg some (by (exact congrArg iv (by unfold vG; first | (rw [if_pos (by omega)]; done) | (rw [if_neg (by omega), g4, gfin]; done) | (rw [if_neg (by omega), g4, xr hi2 (by omega) hk2]; done) | (rw [if_neg (by omega), h4, xx hi (by omega) hk]; exact (xH _ (by omega)).symm))))), rfl⟩, trivial⟩
                  · rw [hb8]
                    have hin2 : i2 = s.links.length := by have := of_decide_eq_false hb8; (try simp only [List.length_map] at this); omega
                    have gfin : leftL (s.links.drop i2) m2 = m2 := by rw [hin2, List.drop_length]; rfl
                    refine zI rfl rfl rfl <| zI rfl rfl rfl <| g_u (zr rfl rfl rfl) <| zH <| zA <| z7 rfl <| zt <| zP <| zP <| zj <| zA <| zD <| zB <| g_u (zC rfl rfl) <| g_u (zE rfl rfl) <| zH <| zA <| zQ ?_
                    exact ⟨⟨(rfl : toAV (Al.look _ _) = some _).trans (congrArg some (by (exact congrArg iv (by unfold vG; first | (rw [if_pos (by omega)]; done) | (rw [if_neg (by omega), g4, gfin]; done) | (rw [if_neg (by omega), g4, xr hi2 (by omega) hk2]; done) | (rw [if_neg (by omega), h4, xx hi (by omega) hk]; exact (xH _ (by omega)).symm))))), rfl⟩, trivial⟩
            · rw [hb5]
              have hin : i = s.events.length := by have := of_decide_eq_false hb5; (try simp only [List.length_map] at this); omega
              have hm : leftE s.events (yO s.attrs (n - 1 - s.state.size - s.name.size - s.note.size)) = m := by rw [h4, hin, List.drop_length]; rfl
              refine zI rfl rfl rfl <| zI rfl rfl rfl <| g_u (zr rfl rfl rfl) <| zH <| zA <| z7 rfl <| zt <| zP <| zP <| zj <| zA <| zD <| zD <| zB <| g_u (zE rfl rfl) <| zH <| zA <| zT ?_
              refine zq (fun j : Nat × Int => [(2, .ptr 1002 0), (1002, .box 36 (.imm s.av)), (1, .imm (iv j.2)), (6, .imm (iv (j.1 : Int)))]) (fun j => j.1 ≤ s.links.length ∧ (-1000000000000 ≤ j.2 ∧ j.2 ≤ 1000000000) ∧ ((j.1 : Int) ≤ leftE s.events (yO s.attrs (n - 1 - s.state.size - s.name.size - s.note.size)) - j.2) ∧ leftL s.links (leftE s.events (yO s.attrs (n - 1 - s.state.size - s.name.size - s.note.size))) = leftL (s.links.drop j.1) j.2) (fun j => s.links.length - j.1) (⟨0, m⟩) ?_ ⟨rfl, rfl, rfl, rfl, trivial⟩ ?_
              · exact ⟨Nat.zero_le _, h2, by rw [hm]; simp, by rw [hm]; rfl⟩
              · rintro ⟨i2, m2⟩ ⟨g1, g2, g3, g4⟩; dsimp only at g1 g2 g3 g4
                refine zD <| zD <| zB <| g_u (zC rfl rfl) <| g_u (zF rfl rfl xk rfl) <| g_u (zG rfl rfl rfl tA32 tS32 rfl rfl) <| g_u (zz rfl rfl Tryd.underlying32) <| g_u (yd rfl rfl rfl) <| g_u (zC rfl rfl) <| yL (t := 91) rfl ?_
                rintro (hb11 | hb11)
                · rw [hb11]
                  have hi2 : i2 < s.links.length := by have := of_decide_eq_true hb11; (try simp only [List.length_map] at this); omega
                  refine zO rfl rfl (zC rfl rfl) <| zO rfl rfl (s_geI rfl rfl rfl) <| g_u (zZ rfl rfl rfl) <| zH <| zA ?_
                  refine zV rfl (fun hb12 => ?_) (fun hb12 => ?_)
                  · have hs2 : ¬ m2 < 0 := by have := of_decide_eq_true hb12; omega
                    refine zY <| zA <| zD <| zT <| zD <| zD <| zB <| g_u (zF rfl rfl xk rfl) <| g_u (zG rfl rfl rfl tA32 tS32 rfl rfl) <| g_u (zC rfl rfl) ?_
                    refine g_u (zJ rfl rfl rfl Tryd.underlying32 tS68 (by omega) (ixL hi2)) ?_
                    refine g_u (zL rfl rfl fa68_2 rfl rfl) <| g_u (zN rfl rfl tA9 tS9 rfl rfl) <| g_u (xY rfl rfl Tryd.underlying9) <| g_u (zC rfl rfl) <| g_u (s_gtI rfl rfl rfl) <| zH <| zA ?_
                    refine zV rfl (fun hb13 => ?_) (fun hb13 => ?_)
                    · have hk2 : ((nthL s.links i2).state.size : Int) > m2 := of_decide_eq_true hb13
                      refine zD <| zB <| g_u (zE rfl rfl) <| zH <| zA <| zQ <| zM <| zp <| zM <| zM <| zp <| zM ?_
                      exact ⟨⟨(rfl : toAV (Al.look _ _) = some _).trans (congrArg some (by (exact congrArg iv (by unfold vG; first | (rw [if_pos (by omega)]; done) | (rw [if_neg (by omega), g4, gfin]; done) | (rw [if_neg (by omega), g4, xr hi2 (by omega) hk2]; done) | (rw [if_neg (by omega), h4, xx hi (by omega) hk]; exact (xH _ (by omega)).symm))))), rfl⟩, trivial⟩
                    · have hk2 : ¬ ((nthL s.links i2).state.size : Int) > m2 := of_decide_eq_false hb13
                      refine zY <| zA <| yM y6 <| g_u (zF rfl rfl xk rfl) <| g_u (zG rfl rfl rfl tA32 tS32 rfl rfl) <| g_u (zC rfl rfl) ?_
                      refine g_u (zJ rfl rfl rfl Tryd.underlying32 tS68 (by omega) (ixL hi2)) ?_
                      refine g_u (zL rfl rfl fa68_3 rfl rfl) <| g_u (zN rfl rfl tA30 tS30 rfl rfl) <| g_u (zC rfl rfl) <| g_u (s_sub rfl rfl rfl) <| g_u (zF rfl rfl xk rfl) <| g_u (zG rfl rfl rfl tA32 tS32 rfl rfl) <| g_u (zC rfl rfl) ?_
                      refine g_u (zJ rfl rfl rfl Tryd.underlying32 tS68 (by omega) (ixL hi2)) ?_
                      refine g_u (zL rfl rfl fa68_2 rfl rfl) <| g_u (zN rfl rfl tA9 tS9 rfl rfl) <| g_u (xY rfl rfl Tryd.underlying9) <| g_u (s_sub rfl rfl rfl) ?_
                      refine g_u (zR (leftAs_c _ _ ⟨by ((try simp only [qa, qb, qc, ne_eq, beq_iff_eq, qd, qe, Bool.not_eq_true', Bool.not_eq_false', gt_iff_lt, ge_iff_le] at *); (repeat simp (disch := omega) only [z_, yN] at *)); omega, by ((try simp only [qa, qb, qc, ne_eq, beq_iff_eq, qd, qe, Bool.not_eq_true', Bool.not_eq_false', gt_iff_lt, ge_iff_le] at *); (repeat simp (disch := omega) only [z_, yN] at *)); omega⟩) rfl rfl) ?_
                      refine g_u (zE rfl rfl) ?_
                      refine zH ⟨by kernel_rfl, ?_⟩
                      refine zW <| zA <| zB <| g_u (zC rfl rfl) <| g_u (yK rfl rfl rfl) <| g_u (zE rfl rfl) <| zH <| zA ?_
                      have ed := leftL_drop (m := m2) hi2 (by omega) hk2
                      have bl := wE (nthL s.links i2).attrs (m2 - 1 - (nthL s.links i2).state.size)
                      refine ⟨⟨i2 + 1, yO (nthL s.links i2).attrs (m2 - 1 - (nthL s.links i2).state.size)⟩, ⟨hi2, ⟨by dsimp only; omega, by dsimp only; omega⟩, by dsimp only; omega, by dsimp only; rw [g4, ed]⟩, ⟨rfl, rfl, zd rfl (by dsimp only; rw [z_ (n := m2 - 1) (by omega) (by omega), z_ (by omega) (by omega)]), zd rfl (by rw [z_ (by omega) (by omega)]; rfl), trivial⟩, by dsimp only; omega⟩
                  · have hs2 : m2 < 0 := by have := of_decide_eq_false hb12; omega
                    have gfin : leftL (s.links.drop i2) m2 = m2 := xH _ hs2
                    refine zt <| zP <| zP <| zj <| zA <| zD <| zB <| g_u (zC rfl rfl) <| g_u (zE rfl rfl) <| zH <| zA <| zQ ?_
                    exact ⟨⟨(rfl : toAV (Al.look _ _) = some _).trans (congrArg some (by (exact congrArg iv (by unfold vG; first | (rw [if_pos (by omega)]; done) | (rw [if_neg (by omega), g4, gfin]; done) | (rw [if_neg (by omega), g4, xr hi2 (by omega) hk2]; done) | (rw [if_neg (by omega), h4, xx hi (by omega) hk]; exact (xH _ (by omega)).symm))))), rfl⟩, trivial⟩
                · rw [hb11]
                  have hin2 : i2 = s.links.length := by have := of_decide_eq_false hb11; (try simp only [List.length_map] at this); omega
                  have gfin : leftL (s.links.drop i2) m2 = m2 := by rw [hin2, List.drop_length]; rfl
                  refine zI rfl rfl rfl <| zI rfl rfl rfl <| g_u (zr rfl rfl rfl) <| zH <| zA <| z7 rfl <| zt <| zP <| zP <| zj <| zA <| zD <| zB <| g_u (zC rfl rfl) <| g_u (zE rfl rfl) <| zH <| zA <| zQ ?_
                  exact ⟨⟨(rfl : toAV (Al.look _ _) = some _).trans (congrArg some (by (exact congrArg iv (by unfold vG; first | (rw [if_pos (by omega)]; done) | (rw [if_neg (by omega), g4, gfin]; done) | (rw [if_neg (by omega), g4, xr hi2 (by omega) hk2]; done) | (rw [if_neg (by omega), h4, xx hi (by omega) hk]; exact (xH _ (by omega)).symm))))), rfl⟩, trivial⟩
end Go.Proofs
namespace Go.Proofs
open Go Go.Al
theorem leftE_bd : ∀ (es : List GE) (m : Int), leftE es m ≤ m ∧ (0 ≤ m → -1 ≤ leftE es m)
  | [], m => ⟨Int.le_refl _, fun h => by simp only [leftE]; omega⟩
  | e :: es, m => by
    rw [leftE]
    split
    · exact ⟨Int.le_refl _, fun h => by omega⟩
    split
    · exact ⟨by omega, fun h => by omega⟩
    rename_i h1 h2
    have b := wE e.attrs (m - 1 - e.name.size)
    have c := leftE_bd es (yO e.attrs (m - 1 - e.name.size))
    refine ⟨by omega, fun h => ?_⟩
    rcases Int.lt_or_le (yO e.attrs (m - 1 - e.name.size)) 0 with h3 | h3
    · rw [leftE_neg _ h3]; omega
    · exact c.2 h3
theorem leftL_bd : ∀ (es : List GL) (m : Int), leftL es m ≤ m ∧ (0 ≤ m → -1 ≤ leftL es m)
  | [], m => ⟨Int.le_refl _, fun h => by simp only [leftL]; omega⟩
  | e :: es, m => by
    rw [leftL]
    split
    · exact ⟨Int.le_refl _, fun h => by omega⟩
    split
    · exact ⟨by omega, fun h => by omega⟩
    rename_i h1 h2
    have b := wE e.attrs (m - 1 - e.state.size)
    have c := leftL_bd es (yO e.attrs (m - 1 - e.state.size))
    refine ⟨by omega, fun h => ?_⟩
    rcases Int.lt_or_le (yO e.attrs (m - 1 - e.state.size)) 0 with h3 | h3
    · rw [xH _ h3]; omega
    · exact c.2 h3
theorem leftS_bd (s : GSpan) {n : Int} (h : 0 ≤ n) : vG s n ≤ n - 1 ∧ -(2 * n) - 1 ≤ vG s n := by
  unfold vG
  split
  · omega
  rename_i h1
  have a := wE s.attrs (n - 1 - s.state.size - s.name.size - s.note.size)
  generalize yO s.attrs (n - 1 - s.state.size - s.name.size - s.note.size) = m at a ⊢
  have b := leftE_bd s.events m
  have b2 := fun h => leftE_neg s.events (m := m) h
  generalize leftE s.events m = p at b b2 ⊢
  have c := leftL_bd s.links p
  have c2 := fun h => xH s.links (m := p) h
  generalize leftL s.links p = q at c c2 ⊢
  omega
theorem leftSp_bd : ∀ (es : List GSpan) (m : Int), wH es m ≤ m ∧ (0 ≤ m → -(2 * m) - 1 ≤ wH es m)
  | [], m => ⟨Int.le_refl _, fun h => by simp only [wH]; omega⟩
  | e :: es, m => by
    rw [wH]
    split
    · exact ⟨Int.le_refl _, fun h => by omega⟩
    rename_i h1
    have b := leftS_bd e (n := m) (by omega)
    have c := leftSp_bd es (vG e m)
    have d := fun h => leftSp_neg es (m := vG e m) h
    generalize wH es (vG e m) = q at *
    omega
theorem leftC_bd : ∀ (es : List GScope) (m : Int), leftC es m ≤ m ∧ (0 ≤ m → -(2 * m) - 1 ≤ leftC es m)
  | [], m => ⟨Int.le_refl _, fun h => by simp only [leftC]; omega⟩
  | e :: es, m => by
    rw [leftC]
    split
    · exact ⟨Int.le_refl _, fun h => by omega⟩
    split
    · exact ⟨by omega, fun h => by omega⟩
    rename_i h1 h2
    have b := leftSp_bd e.spans (m - 1 - e.name.size - e.version.size)
    have b2 := fun h => leftSp_neg e.spans (m := m - 1 - e.name.size - e.version.size) h
    generalize wH e.spans (m - 1 - e.name.size - e.version.size) = p at *
    have c := leftC_bd es p
    have d := fun h => leftC_neg es (m := p) h
    generalize leftC es p = q at *
    omega
theorem leftS_le {s : GSpan} {n : Int} (h : ¬ vG s n < 0) : (s.wt : Int) ≤ n := by have := leftS_wt (s := s) (n := n) (by omega); omega
theorem leftR_le {b : List GRes} {n : Int} (h : ¬ leftR b n < 0) : (wtB b : Int) ≤ n := by have := leftR_wt b (m := n) (by omega); omega
end Go.Proofs
namespace Go.Proofs
open Go Go.Al
set_option maxRecDepth 10000
set_option maxHeartbeats 4000000 in
theorem leftR_c (b : List GRes) (n : Int) (hn : -1000000000000 ≤ n ∧ n ≤ 1000000000) : zo Tryd.prog Γ0 6 [yV b, iv n] [iv (leftR b n)] := by
  refine zf Tryd.func6 rfl Tryd.ntmps6 (by kernel_rfl) rfl fun w0 I0 G0 => ?_
  refine zD <| zB <| g_uG (zn 1002 rfl rfl rfl rfl) rfl <| g_u (zE rfl rfl) <| zH <| zA <| zD <| zD <| zB <| g_u (zE rfl rfl) <| zH <| zA <| zT ?_
  refine zq (fun j : Nat × Int => [(2, .ptr 1002 0), (1002, .box 24 (.imm (yV b))), (1, .imm (iv j.2)), (5, .imm (iv (j.1 : Int)))]) (fun j => j.1 ≤ b.length ∧ (-1000000000000 ≤ j.2 ∧ j.2 ≤ 1000000000) ∧ ((j.1 : Int) ≤ n - j.2) ∧ leftR b n = leftR (b.drop j.1) j.2) (fun j => b.length - j.1) (⟨0, n⟩) ?_ ⟨rfl, rfl, rfl, rfl, trivial⟩ ?_
  · exact ⟨Nat.zero_le _, hn, by dsimp only; omega, rfl⟩
  · rintro ⟨i, m⟩ ⟨h1, h2, h3, h4⟩; dsimp only at h1 h2 h3 h4
    refine zD <| zD <| zB <| g_u (zC rfl rfl) <| g_u (zF rfl rfl xA rfl) <| g_u (zG rfl rfl rfl tA22 tS22 rfl rfl) <| g_u (zz rfl rfl Tryd.underlying22) <| g_u (yd rfl rfl rfl) <| g_u (zC rfl rfl) <| yL (t := 14) rfl ?_
    rintro (hb1 | hb1)
    · rw [hb1]
      have hi : i < b.length := by have := of_decide_eq_true hb1; (try simp only [List.length_map] at this); omega
      refine zO rfl rfl (zC rfl rfl) <| zO rfl rfl (s_geI rfl rfl rfl) <| g_u (zZ rfl rfl rfl) <| zH <| zA ?_
      refine zV rfl (fun hb2 => ?_) (fun hb2 => ?_)
      · have hs : m ≥ 0 := of_decide_eq_true hb2
        have b1 := wE (nthR b i).attrs (m - 1)
        refine zY <| zA <| zD <| zT <| zD <| zB <| g_u (zF rfl rfl xA rfl) <| g_u (zG rfl rfl rfl tA22 tS22 rfl rfl) <| g_u (zC rfl rfl) ?_
        refine g_u (zJ rfl rfl rfl Tryd.underlying22 tS61 (by omega) (ixR hi)) ?_
        refine g_u (zN rfl rfl tA61 tS61 rfl rfl) <| g_uG (z0 1006 rfl rfl rfl tZ61) rfl <| g_u (zX rfl rfl rfl tS61 rfl rfl) <| zH <| zA <| zD <| zB <| g_u (zF rfl rfl fa61_0 rfl) <| g_u (zG rfl rfl rfl tA30 tS30 rfl rfl) <| g_u (zC rfl rfl) <| g_u (s_sub rfl rfl rfl) ?_
        refine g_u (zR (leftAs_c _ _ ⟨by ((try simp only [qa, qb, qc, ne_eq, beq_iff_eq, qd, qe, Bool.not_eq_true', Bool.not_eq_false', gt_iff_lt, ge_iff_le] at *); (repeat simp (disch := omega) only [z_, yN] at *)); omega, by ((try simp only [qa, qb, qc, ne_eq, beq_iff_eq, qd, qe, Bool.not_eq_true', Bool.not_eq_false', gt_iff_lt, ge_iff_le] at *); (repeat simp (disch := omega) only [z_, yN] at *)); omega⟩) rfl rfl) ?_
        refine g_u (zE rfl rfl) <| zH <| zA <| zD <| zB <| g_u (zE rfl rfl) <| zH <| zA <| zT ?_
        refine zq (fun j : Nat × Int => [(2, .ptr 1002 0), (1002, .box 24 (.imm (yV b))), (1, .imm (iv j.2)), (5, .imm (iv (i : Int))), (6, .ptr 1006 0), (1006, .box 61 (.imm (nthR b i).av)), (7, .imm (iv (j.1 : Int)))]) (fun j => j.1 ≤ (nthR b i).scopes.length ∧ (-1000000000000 ≤ j.2 ∧ j.2 ≤ 1000000000) ∧ ((j.1 : Int) ≤ (yO (nthR b i).attrs (m - 1)) - j.2) ∧ leftC (nthR b i).scopes (yO (nthR b i).attrs (m - 1)) = leftC ((nthR b i).scopes.drop j.1) j.2) (fun j => (nthR b i).scopes.length - j.1) (⟨0, (yO (nthR b i).attrs (m - 1))⟩) ?_ ⟨rfl, rfl, zd rfl (by rw [z_ (by omega) (by omega)]), rfl, rfl, rfl, rfl, trivial⟩ ?_
        · exact ⟨Nat.zero_le _, ⟨by dsimp only; omega, by dsimp only; omega⟩, by simp, rfl⟩
        · rintro ⟨k, m1⟩ ⟨g1, g2, g3, g4⟩; dsimp only at g1 g2 g3 g4
          refine zD <| zD <| zB <| g_u (zC rfl rfl) <| g_u (zF rfl rfl wX rfl) <| g_u (zG rfl rfl rfl tA59 tS59 rfl rfl) <| g_u (zz rfl rfl Tryd.underlying59) <| g_u (yd rfl rfl rfl) <| g_u (zC rfl rfl) <| yL (t := 35) rfl ?_
          rintro (hb3 | hb3)
          · rw [hb3]
            have hk : k < (nthR b i).scopes.length := by have := of_decide_eq_true hb3; (try simp only [List.length_map] at this); omega
            refine zO rfl rfl (zC rfl rfl) <| zO rfl rfl (s_geI rfl rfl rfl) <| g_u (zZ rfl rfl rfl) <| zH <| zA ?_
            refine zV rfl (fun hb4 => ?_) (fun hb4 => ?_)
            · have hs1 : m1 ≥ 0 := of_decide_eq_true hb4
              refine zY <| zA <| zD <| zT <| zD <| zD <| zB <| g_u (zF rfl rfl wX rfl) <| g_u (zG rfl rfl rfl tA59 tS59 rfl rfl) <| g_u (zC rfl rfl) ?_
              refine g_u (zJ rfl rfl rfl Tryd.underlying59 tS64 (by omega) (ixC hk)) ?_
              refine g_u (zL rfl rfl fa64_0 rfl rfl) <| g_u (zN rfl rfl tA9 tS9 rfl rfl) <| g_u (xY rfl rfl Tryd.underlying9) <| g_u (zC rfl rfl) <| g_u (s_gtI rfl rfl rfl) <| g_u (zC rfl rfl) <| yL (t := 50) rfl ?_
              rintro (hb5 | hb5)
              · rw [hb5]
                have hA : (((nthC (nthR b i).scopes k).name.size : Int) > m1) := of_decide_eq_true hb5
                refine zI rfl rfl rfl <| zI rfl rfl rfl <| zI rfl rfl rfl <| zI rfl rfl rfl <| zI rfl rfl rfl <| zI rfl rfl rfl <| zI rfl rfl rfl <| zI rfl rfl rfl <| zI rfl rfl rfl <| g_u (zZ rfl rfl rfl) <| zH <| zA <| zg rfl <| zD <| zB <| g_u (zE rfl rfl) <| zH <| zA <| zQ <| zM <| zp <| zM <| zM <| zp <| zp <| zM <| zM <| zp <| zM ?_
                exact ⟨⟨(rfl : toAV (Al.look _ _) = some _).trans (congrArg some (by (exact congrArg iv (by first | (rw [h4, hfin]; done) | (rw [h4, xi hi (by omega), g4, leftC_out hk (by omega) (.inl hA), wh _ (by decide)]; done) | (rw [h4, xi hi (by omega), g4, leftC_out hk (by omega) (.inr hB), wh _ (by decide)]; done))))), rfl⟩, trivial⟩
              · rw [hb5]
                have hA : ¬ (((nthC (nthR b i).scopes k).name.size : Int) > m1) := of_decide_eq_false hb5
                refine zO rfl rfl (zF rfl rfl wX rfl) <| zO rfl rfl (zG rfl rfl rfl tA59 tS59 rfl rfl) <| zO rfl rfl (zC rfl rfl) ?_
                refine zO rfl rfl (zJ rfl rfl rfl Tryd.underlying59 tS64 (by omega) (ixC hk)) ?_
                refine zO rfl rfl (zL rfl rfl fa64_1 rfl rfl) <| zO rfl rfl (zN rfl rfl tA9 tS9 rfl rfl) <| zO rfl rfl (xY rfl rfl Tryd.underlying9) <| zO rfl rfl (zC rfl rfl) <| zO rfl rfl (s_gtI rfl rfl rfl) <| g_u (zr rfl rfl rfl) <| zH <| zA ?_
                refine zV rfl (fun hb6 => ?_) (fun hb6 => ?_)
                · have hB : (((nthC (nthR b i).scopes k).version.size : Int) > m1) := of_decide_eq_true hb6
                  refine zD <| zB <| g_u (zE rfl rfl) <| zH <| zA <| zQ <| zM <| zp <| zM <| zM <| zp <| zp <| zM <| zM <| zp <| zM ?_
                  exact ⟨⟨(rfl : toAV (Al.look _ _) = some _).trans (congrArg some (by (exact congrArg iv (by first | (rw [h4, hfin]; done) | (rw [h4, xi hi (by omega), g4, leftC_out hk (by omega) (.inl hA), wh _ (by decide)]; done) | (rw [h4, xi hi (by omega), g4, leftC_out hk (by omega) (.inr hB), wh _ (by decide)]; done))))), rfl⟩, trivial⟩
                · have hB : ¬ (((nthC (nthR b i).scopes k).version.size : Int) > m1) := of_decide_eq_false hb6
                  refine zY <| zA <| zD <| yM y6 <| g_u (zC rfl rfl) <| g_u (s_sub rfl rfl rfl) <| g_u (zF rfl rfl wX rfl) <| g_u (zG rfl rfl rfl tA59 tS59 rfl rfl) <| g_u (zC rfl rfl) ?_
                  refine g_u (zJ rfl rfl rfl Tryd.underlying59 tS64 (by omega) (ixC hk)) ?_
                  refine g_u (zL rfl rfl fa64_0 rfl rfl) <| g_u (zN rfl rfl tA9 tS9 rfl rfl) <| g_u (xY rfl rfl Tryd.underlying9) <| g_u (s_sub rfl rfl rfl) <| g_u (zF rfl rfl wX rfl) <| g_u (zG rfl rfl rfl tA59 tS59 rfl rfl) <| g_u (zC rfl rfl) ?_
                  refine g_u (zJ rfl rfl rfl Tryd.underlying59 tS64 (by omega) (ixC hk)) ?_
                  refine g_u (zL rfl rfl fa64_1 rfl rfl) <| g_u (zN rfl rfl tA9 tS9 rfl rfl) <| g_u (xY rfl rfl Tryd.underlying9) <| g_u (s_sub rfl rfl rfl) <| g_u (zE rfl rfl) ?_
                  refine zH ⟨by kernel_rfl, ?_⟩
                  refine zA <| zD <| zB <| g_u (zE rfl rfl) <| zH <| zA <| zT ?_
                  refine zq (fun j : Nat × Int => [(2, .ptr 1002 0), (1002, .box 24 (.imm (yV b))), (1, .imm (iv j.2)), (5, .imm (iv (i : Int))), (6, .ptr 1006 0), (1006, .box 61 (.imm (nthR b i).av)), (7, .imm (iv (k : Int))), (8, .imm (iv (j.1 : Int)))]) (fun j => j.1 ≤ (nthC (nthR b i).scopes k).spans.length ∧ (-1000000000000 ≤ j.2 ∧ j.2 ≤ 1000000000) ∧ ((j.1 : Int) ≤ (m1 - 1 - (nthC (nthR b i).scopes k).name.size - (nthC (nthR b i).scopes k).version.size) - j.2) ∧ wH (nthC (nthR b i).scopes k).spans (m1 - 1 - (nthC (nthR b i).scopes k).name.size - (nthC (nthR b i).scopes k).version.size) = wH ((nthC (nthR b i).scopes k).spans.drop j.1) j.2) (fun j => (nthC (nthR b i).scopes k).spans.length - j.1) (⟨0, (m1 - 1 - (nthC (nthR b i).scopes k).name.size - (nthC (nthR b i).scopes k).version.size)⟩) ?_ ⟨rfl, rfl, zd rfl (by (try dsimp only); rw [z_ (n := m1 - 1) (by omega) (by omega), z_ (n := m1 - 1 - (nthC (nthR b i).scopes k).name.size) (by omega) (by omega), z_ (by omega) (by omega)]), rfl, rfl, rfl, rfl, rfl, trivial⟩ ?_
                  · exact ⟨Nat.zero_le _, ⟨by dsimp only; omega, by dsimp only; omega⟩, by simp, rfl⟩
                  · rintro ⟨q, m2⟩ ⟨f1, f2, f3, f4⟩; dsimp only at f1 f2 f3 f4
                    refine zD <| zD <| zB <| g_u (zC rfl rfl) <| g_u (zF rfl rfl wX rfl) <| g_u (zG rfl rfl rfl tA59 tS59 rfl rfl) <| g_u (zC rfl rfl) ?_
                    refine g_u (zJ rfl rfl rfl Tryd.underlying59 tS64 (by omega) (ixC hk)) ?_
                    refine g_u (zL rfl rfl fa64_2 rfl rfl) <| g_u (zN rfl rfl tA44 tS44 rfl rfl) <| g_u (zz rfl rfl Tryd.underlying44) <| g_u (yd rfl rfl rfl) <| g_u (zC rfl rfl) <| yL (t := 88) rfl ?_
                    rintro (hb7 | hb7)
                    · rw [hb7]
                      have hq : q < (nthC (nthR b i).scopes k).spans.length := by have := of_decide_eq_true hb7; (try simp only [List.length_map] at this); omega
                      refine zO rfl rfl (zC rfl rfl) <| zO rfl rfl (s_geI rfl rfl rfl) <| g_u (zZ rfl rfl rfl) <| zH <| zA ?_
                      refine zV rfl (fun hb8 => ?_) (fun hb8 => ?_)
                      · have hs2 : m2 ≥ 0 := of_decide_eq_true hb8
                        refine zY <| zA <| zD <| zT <| zB <| g_u (zF rfl rfl wX rfl) <| g_u (zG rfl rfl rfl tA59 tS59 rfl rfl) <| g_u (zC rfl rfl) ?_
                        refine g_u (zJ rfl rfl rfl Tryd.underlying59 tS64 (by omega) (ixC hk)) ?_
                        refine g_u (zL rfl rfl fa64_2 rfl rfl) <| g_u (zN rfl rfl tA44 tS44 rfl rfl) <| g_u (zC rfl rfl) ?_
                        refine g_u (zJ rfl rfl rfl Tryd.underlying44 tS36 (by omega) (ixS hq)) ?_
                        refine g_u (zN rfl rfl tA36 tS36 rfl (by first | exact wG (GSpan.width _) rfl | rfl)) ?_
                        refine g_u (zC rfl rfl) ?_
                        refine g_u (zR (leftS_c _ _ ⟨by omega, by omega⟩) rfl rfl) ?_
                        refine g_u (zE rfl rfl) <| zH <| zW <| zA <| zB <| g_u (zC rfl rfl) <| g_u (yK rfl rfl rfl) <| g_u (zE rfl rfl) <| zH <| zA ?_
                        have bs := leftS_bd (nthS (nthC (nthR b i).scopes k).spans q) (n := m2) (by omega)
                        have ed := leftSp_drop hq (m := m2) (by omega)
                        refine ⟨⟨q + 1, vG (nthS (nthC (nthR b i).scopes k).spans q) m2⟩, ⟨hq, by dsimp only; omega, by dsimp only; omega, by dsimp only; rw [f4, ed]⟩, ⟨rfl, rfl, rfl, rfl, rfl, rfl, rfl, zd rfl (by rw [z_ (by omega) (by omega)]; rfl), trivial⟩, by dsimp only; omega⟩
                      · have hs2 : ¬ m2 ≥ 0 := of_decide_eq_false hb8
                        have hfin2 : wH (nthC (nthR b i).scopes k).spans (m1 - 1 - (nthC (nthR b i).scopes k).name.size - (nthC (nthR b i).scopes k).version.size) = m2 := by rw [f4]; exact leftSp_neg _ (by omega)
                        refine zt <| zP <| zP <| zj <| zW <| zA <| zB <| g_u (zC rfl rfl) <| g_u (yK rfl rfl rfl) <| g_u (zE rfl rfl) <| zH <| zA ?_
                        have bp := leftSp_bd (nthC (nthR b i).scopes k).spans (m1 - 1 - (nthC (nthR b i).scopes k).name.size - (nthC (nthR b i).scopes k).version.size)
                        have ed := leftC_drop hk (m := m1) (by omega) hA hB
                        refine ⟨⟨k + 1, m2⟩, ⟨hk, by dsimp only; omega, by dsimp only; omega, by dsimp only; rw [g4, ed, hfin2]⟩, ⟨rfl, rfl, rfl, rfl, rfl, rfl, zd rfl (by rw [z_ (by omega) (by omega)]; rfl), trivial⟩, by dsimp only; omega⟩
                    · rw [hb7]
                      have hqn : q = (nthC (nthR b i).scopes k).spans.length := by have := of_decide_eq_false hb7; (try simp only [List.length_map] at this); omega
                      have hfin2 : wH (nthC (nthR b i).scopes k).spans (m1 - 1 - (nthC (nthR b i).scopes k).name.size - (nthC (nthR b i).scopes k).version.size) = m2 := by rw [f4, hqn, List.drop_length]; rfl
                      refine zI rfl rfl rfl <| zI rfl rfl rfl <| g_u (zr rfl rfl rfl) <| zH <| zA <| z7 rfl <| zt <| zP <| zP <| zj <| zW <| zA <| zB <| g_u (zC rfl rfl) <| g_u (yK rfl rfl rfl) <| g_u (zE rfl rfl) <| zH <| zA ?_
                      have bp := leftSp_bd (nthC (nthR b i).scopes k).spans (m1 - 1 - (nthC (nthR b i).scopes k).name.size - (nthC (nthR b i).scopes k).version.size)
                      have ed := leftC_drop hk (m := m1) (by omega) hA hB
                      refine ⟨⟨k + 1, m2⟩, ⟨hk, by dsimp only; omega, by dsimp only; omega, by dsimp only; rw [g4, ed, hfin2]⟩, ⟨rfl, rfl, rfl, rfl, rfl, rfl, zd rfl (by rw [z_ (by omega) (by omega)]; rfl), trivial⟩, by dsimp only; omega⟩
            · have hs1 : ¬ m1 ≥ 0 := of_decide_eq_false hb4
              have hfin1 : leftC (nthR b i).scopes (yO (nthR b i).attrs (m - 1)) = m1 := by rw [g4]; exact leftC_neg _ (by omega)
              refine zt <| zP <| zP <| zj <| zW <| zA <| zB <| g_u (zC rfl rfl) <| g_u (yK rfl rfl rfl) <| g_u (zE rfl rfl) <| zH <| zA ?_
              have bc := leftC_bd (nthR b i).scopes (yO (nthR b i).attrs (m - 1))
              have ed := xi hi (m := m) (by omega)
              refine ⟨⟨i + 1, m1⟩, ⟨hi, by dsimp only; omega, by dsimp only; omega, by dsimp only; rw [h4, ed, hfin1]⟩, ⟨rfl, rfl, rfl, zd rfl (by rw [z_ (by omega) (by omega)]; rfl), trivial⟩, by dsimp only; omega⟩
          · rw [hb3]
            have hkn : k = (nthR b i).scopes.length := by have := of_decide_eq_false hb3; (try simp only [List.length_map] at this); omega
            have hfin1 : leftC (nthR b i).scopes (yO (nthR b i).attrs (m - 1)) = m1 := by rw [g4, hkn, List.drop_length]; rfl
            refine zI rfl rfl rfl <| zI rfl rfl rfl <| g_u (zr rfl rfl rfl) <| zH <| zA <| z7 rfl <| zt <| zP <| zP <| zj <| zW <| zA <| zB <| g_u (zC rfl rfl) <| g_u (yK rfl rfl rfl) <| g_u (zE rfl rfl) <| zH <| zA ?_
            have bc := leftC_bd (nthR b i).scopes (yO (nthR b i).attrs (m - 1))
            have ed := xi hi (m := m) (by omega)
            refine ⟨⟨i + 1, m1⟩, ⟨hi, by dsimp only; omega, by dsimp only; omega, by dsimp only; rw [h4, ed, hfin1]⟩, ⟨rfl, rfl, rfl, zd rfl (by rw [z_ (by omega) (by omega)]; rfl), trivial⟩, by dsimp only; omega⟩
      · have hs : ¬ m ≥ 0 := of_decide_eq_false hb2
        have hfin : leftR (b.drop i) m = m := wh _ (by omega)
        refine zt <| zP <| zP <| zj <| zA <| zD <| zB <| g_u (zC rfl rfl) <| g_u (zE rfl rfl) <| zH <| zA <| zQ ?_
        exact ⟨⟨(rfl : toAV (Al.look _ _) = some _).trans (congrArg some (by (exact congrArg iv (by first | (rw [h4, hfin]; done) | (rw [h4, xi hi (by omega), g4, leftC_out hk (by omega) (.inl hA), wh _ (by decide)]; done) | (rw [h4, xi hi (by omega), g4, leftC_out hk (by omega) (.inr hB), wh _ (by decide)]; done))))), rfl⟩, trivial⟩
    · rw [hb1]
      have hin : i = b.length := by have := of_decide_eq_false hb1; (try simp only [List.length_map] at this); omega
      have hfin : leftR (b.drop i) m = m := by rw [hin, List.drop_length]; rfl
      refine zI rfl rfl rfl <| zI rfl rfl rfl <| g_u (zr rfl rfl rfl) <| zH <| zA <| z7 rfl <| zt <| zP <| zP <| zj <| zA <| zD <| zB <| g_u (zC rfl rfl) <| g_u (zE rfl rfl) <| zH <| zA <| zQ ?_
      exact ⟨⟨(rfl : toAV (Al.look _ _) = some _).trans (congrArg some (by (exact congrArg iv (by first | (rw [h4, hfin]; done) | (rw [h4, xi hi (by omega), g4, leftC_out hk (by omega) (.inl hA), wh _ (by decide)]; done) | (rw [h4, xi hi (by omega), g4, leftC_out hk (by omega) (.inr hB), wh _ (by decide)]; done))))), rfl⟩, trivial⟩
end Go.Proofs
namespace Go.Proofs
open Go Go.Al
set_option maxRecDepth 10000
attribute [local irreducible] runeM rRuneM
attribute [local irreducible] checkM countM cutM rCheckM rCountM rCutM
attribute [local irreducible] bytesM bytesP
end Go.Proofs
namespace Go.Proofs
open Go Go.Al
end Go.Proofs
namespace Go.Al
open Go.RowKit
theorem aw_cut' {C : Cx} {x y : Code} {st : St} {Q : Exit → St → Prop} {ι : Type} (Inv : ι → St) (ok : ι → Prop)
    (h1 : AW C x st (thn (fun st' => ∃ j, ok j ∧ sub st' (Inv j)) Q)) (h2 : ∀ j, ok j → AW C y (Inv j) Q) : AW C x st (thn (fun st' => AW C y st' Q) Q) := by
  refine h1.mono ?_
  intro e st' q
  cases e <;> simp only [thn] at q ⊢ <;> first | exact q | (obtain ⟨j, a, b⟩ := q; exact aw_weak _ b (h2 j a))
theorem aw_pack {C : Cx} {c : Code} {st : St} {Q : Exit → St → Prop} (g : Nat) {T : TypeId} {X : SV} {y : AV} (hg : look st g = .box T X) (hy : toAV X = some y) (h : AW C c ((g, .box T (.imm y)) :: st) Q) : AW C c st Q := by
  intro a w ⟨G, S⟩
  refine h a w ⟨G, S.os, S.tape, S.output, S.size, S.block, S.sub, S.rel, S.glob, S.new, S.val, S.nts, S.dfs, fun j => ?_, fun j j' b hj h1 h2 => ?_⟩
  · have e := xQ (look st) g (.box T (.imm y)) j
    rw [xU] at e
    rw [show ((g, SV.box T (.imm y)) :: st) = [(g, SV.box T (.imm y))] ++ st from rfl, e]
    split
    · rename_i hjk; subst hjk
      have := S.holds j
      rw [hg] at this
      simp only [Holds, BoxS] at this ⊢
      obtain ⟨h1, ⟨cs, fr, hb, hr, hu⟩, h2⟩ := this
      exact ⟨h1, ⟨cs, fr, hb, by simp only [RepS]; exact we X y _ hy hr, hu⟩, h2⟩
    · exact S.holds j
  · have conv : ∀ j b, zh G j b (look ((g, SV.box T (.imm y)) :: st) j) → zh G j b (look st j) := by
      intro j b hb
      have e := xQ (look st) g (.box T (.imm y)) j
      rw [xU] at e
      rw [show ((g, SV.box T (.imm y)) :: st) = [(g, SV.box T (.imm y))] ++ st from rfl, e] at hb
      split at hb
      · rename_i hjk; subst hjk; rw [hg]; simp only [zh] at hb ⊢; exact hb
      · exact hb
    exact S.apart j j' b hj (conv j b h1) (conv j' b h2)
end Go.Al
namespace Go.Proofs
open Go Go.Al
set_option maxRecDepth 10000
end Go.Proofs
namespace Go.Al
open Go.RowKit
section
variable {C : Cx} {A : Nat → SV} {d : Nat} {ty : TypeId} {pos : String} {af : Array Edge} {gd : Option (Nat × Bool)} {x y : Operand} {T T' : TypeId}
theorem s_ixOsl {g n len cap : Nat} {el : TypeId} {i : Nat} {z : Int} {k : IntKind} (hN : Nat.blt d C.N = true) (hx : opS A x = .osl g 0 len cap) (hy : opV A y = some (.v (.int k z))) (hT : C.P.underlying T = some (.slice el)) (hn : yI C.P el = some n)
    (hz : z = i) (h : i < len) : zk C ⟨some d, .indexAddr T x y, ty, pos, af, gd⟩ (opR x ++ opR y) [] A [(d, .ptr g (i * n))] := by
  refine zk.value rfl hN fun A' G a w hR S => ?_
  obtain ⟨c, hc1, hc2⟩ := S.opS ((yZ (fun k hk => hR k (List.mem_append_left _ hk))).trans hx) rfl
  simp only [RepS] at hc1
  have hev : a.eval x = .slice (some ⟨G.blk g, 0, none⟩) len cap := by rw [hc2, hc1]; rfl
  rw [← yR (fun k hk => hR k (List.mem_append_right _ hk))] at hy
  have hi := yS (S.opV hy)
  subst hz
  refine ⟨.pointer (some ⟨G.blk g, i * n, none⟩), ?_, [.pointer (some ⟨G.blk g, i * n, none⟩)], by simp only [RepS], rfl⟩
  have hb : (0 : Int) ≤ (i : Int) ∧ (i : Int) < (len : Int) := by omega
  simp only [execOp, Instr.indexAt, hi, hev, asIntOf, Instr.sureAddr, Sem.run_bind, Sem.run_pure, Result.andThen_ok, zU hT, hb, and_self, if_true, yD hn, xL, Int.toNat_natCast, Nat.zero_add]
theorem s_slOsl {g n len cap : Nat} {el : TypeId} {lo : Nat} {z : Int} {k : IntKind} (hN : Nat.blt d C.N = true) (hx : opS A x = .osl g 0 len cap) (hy : opV A y = some (.v (.int k z))) (hT : C.P.underlying T = some (.slice el)) (hn : yI C.P el = some n)
    (hz : z = lo) (h : lo ≤ len) : zk C ⟨some d, .slice T x (some y) none none, ty, pos, af, gd⟩ (opR x ++ opR y) [] A [(d, .osl g (if cap = lo then 0 else lo * n) (len - lo) (cap - lo))] := by
  refine zk.value rfl hN fun A' G a w hR S => ?_
  obtain ⟨c, hc1, hc2⟩ := S.opS ((yZ (fun k hk => hR k (List.mem_append_left _ hk))).trans hx) rfl
  simp only [RepS] at hc1
  have hev : a.eval x = .slice (some ⟨G.blk g, 0, none⟩) len cap := by rw [hc2, hc1]; rfl
  rw [← yR (fun k hk => hR k (List.mem_append_right _ hk))] at hy
  have hi := yS (S.opV hy)
  refine ⟨.slice (some ⟨G.blk g, if cap = lo then 0 else lo * n, none⟩) (len - lo) (cap - lo), ?_, [.slice (some ⟨G.blk g, if cap = lo then 0 else lo * n, none⟩) (len - lo) (cap - lo)], by simp only [RepS], rfl⟩
  have e3 : (Instr.sliceBounds true len cap (some (a.eval y)) none none).run C.P w = .ok (lo, len, cap) w := by
    simp only [Instr.sliceBounds, Sem.run_bind, Sem.run_pure, Result.andThen_ok, Option.isSome_none, Bool.false_eq_true, if_false, if_true, hi, run_bound hz h]
  simp only [execOp, Option.map_none, Option.map_some, Sem.run_bind, hev, Instr.sliceAt, zU hT, Result.andThen_ok, Instr.slice, e3, yD hn, Sem.run_pure]
  by_cases hc : cap = lo
  · rw [if_pos hc, if_pos hc]
  · rw [if_neg hc, if_neg hc]; first | rfl | rw [xL, Nat.zero_add]
theorem s_storeElt {g n i : Nat} {xs : List AV} {v : AV} {T0 : TypeId} (h : opS A x = .ptr g (i * n)) (hg : A g = .box T0 (.imm (.agg xs))) (hy : opV A y = some v) (hn : yI C.P T = some n)
    (hw : ∀ x ∈ xs, x.width = n) (hv : v.width = n) (hi : i < xs.length) :
    zk C ⟨none, .store T x y, ty, pos, af, gd⟩ (g :: (opR x ++ opR y)) [] A [(g, .box T0 (.imm (.agg (xs.take i ++ v :: xs.drop (i + 1)))))] := by
  intro A' a w hR hF ⟨G, S⟩
  have hgA : A' g = .box T0 (.imm (.agg xs)) := (hR g List.mem_cons_self).trans hg
  obtain ⟨c, hc1, hc2⟩ := S.opS ((yZ (fun k hk => hR k (List.mem_cons_of_mem _ (List.mem_append_left _ hk)))).trans h) rfl
  simp only [RepS] at hc1
  have hev : a.eval x = .pointer (some ⟨G.blk g, i * n, none⟩) := by rw [hc2, hc1]; rfl
  rw [← yR (fun k hk => hR k (List.mem_cons_of_mem _ (List.mem_append_right _ hk)))] at hy
  have hyR := S.opV hy
  obtain ⟨vc, hv1, hv2⟩ := hyR
  have hvc : (a.eval y).cells.toList = vc := by rw [hv2]; exact mkV_cells hv1
  have hvl := hv1.len
  have hb := S.holds g
  rw [hgA] at hb
  simp only [Holds] at hb
  obtain ⟨_, ⟨cs, fr, hb2, hb3, hb4⟩, _⟩ := hb
  simp only [RepS, RepC] at hb3
  have hE := (repCs_E hw).1 hb3
  have hcl := hE.len
  simp only [Array.length_toList] at hcl
  have hfit : i * n + vc.length ≤ cs.size := by
    have := xg (n := n) (show i + 1 ≤ xs.length from hi)
    rw [Nat.add_mul] at this; omega
  have hst := xu (P := C.P) (b := G.blk g) (o := i * n) vc w cs hb2 hb4 hfit hv1.plain
  have hnew : RepS w G (.imm (.agg (xs.take i ++ v :: xs.drop (i + 1)))) (yq cs (i * n) vc).toList := by
    simp only [RepS, RepC]
    refine (repCs_E (n := n) ?_).2 ?_
    · intro z hz
      rcases List.mem_append.1 hz with hz | hz
      · exact hw z (List.mem_of_mem_take hz)
      · rcases List.mem_cons.1 hz with rfl | hz
        · exact hv
        · exact hw z (List.mem_of_mem_drop hz)
    · rw [xF _ _ _ hfit, List.append_assoc]
      refine (hE.split i (by omega)).1.append ?_
      have h2 := (hE.split (i + 1) (by omega)).2
      have ev : vc.length = n := by rw [hvl, hv]
      rw [Nat.add_mul, Nat.one_mul] at h2
      simp only [RepE]
      exact ⟨vc, _, rfl, ev, hv1, by rw [ev]; exact h2⟩
  unfold Oper.wp
  have hrun : (storeVar T ⟨G.blk g, i * n, none⟩ (a.eval y)).run C.P w = .ok () (yP w (G.blk g) (.cells (yq cs (i * n) vc) T0 fr)) := by
    simp only [storeVar, Sem.run_bind, yD hn, Result.andThen_ok, hvc]
    have e : (a.eval y).cells.size = n := by rw [← Array.length_toList, hvc, hvl, hv]
    rw [if_neg (by omega)]
    exact hst
  simp only [execOp, Instr.storeAt, Instr.sureAddr, hev, Sem.run_bind, Sem.run_pure, Result.andThen_ok, hrun]
  rw [Oper.upon_skip]
  exact S.storeBox hgA hb2 (xv _ _ _) hnew
theorem s_copy_at {g off len cap n o : Nat} {xs m : List AV} {el : TypeId} {T0 : TypeId} (hd' : ∀ d', d = d' → True) (hgN : Nat.ble C.N g = true) (hx : opS A x = .osl g off len cap) (hg : A g = .box T0 (.imm (.agg xs))) (hy : opV A y = some (.sl n m)) (hT : C.P.underlying T = some (.slice el)) (hn : yI C.P el = some n)
    (hN : Nat.blt d C.N = true) (ho : off = o * n) (hw : ∀ x ∈ xs, x.width = n) (hlen : o + len ≤ xs.length) :
    zk C ⟨some d, .call { callee := .builtin .copy, args := #[x, y], argTypes := #[T, T'] }, ty, pos, af, gd⟩ (g :: (opR x ++ opR y)) [] A
      [(g, .box T0 (.imm (.agg (xs.take o ++ (m.take (min m.length len) ++ xs.drop (o + min m.length len)))))), (d, .imm (.v (.int .i64 (min m.length len : Nat))))] := by
  intro A' a w hR hF ⟨G, S⟩
  have hgA : A' g = .box T0 (.imm (.agg xs)) := (hR g List.mem_cons_self).trans hg
  have hN' : d < C.N := by simpa [Nat.blt_eq] using hN
  have hgd : g ≠ d := by have := Nat.le_of_ble_eq_true hgN; omega
  obtain ⟨c, hc1, hc2⟩ := S.opS ((yZ (fun k hk => hR k (List.mem_cons_of_mem _ (List.mem_append_left _ hk)))).trans hx) rfl
  simp only [RepS] at hc1
  have hev : a.eval x = .slice (some ⟨G.blk g, off, none⟩) len cap := by rw [hc2, hc1]; rfl
  rw [← yR (fun k hk => hR k (List.mem_cons_of_mem _ (List.mem_append_right _ hk)))] at hy
  have hyR := S.opV hy
  have hb := S.holds g
  rw [hgA] at hb
  simp only [Holds] at hb
  obtain ⟨how, ⟨cs, fr, hb2, hb3, hb4⟩, hni⟩ := hb
  simp only [RepS, RepC] at hb3
  have hE := (repCs_E hw).1 hb3
  obtain ⟨k, hk⟩ : ∃ k, k = min m.length len := ⟨_, rfl⟩
  rw [← hk]
  have hkm : k ≤ m.length := by omega
  have hkx : o + k ≤ xs.length := by omega
  obtain ⟨es, e1, e2, e3⟩ : ∃ es, RepE w G.I n (m.take k) es ∧ (Builtin.lenOf (a.eval y)).run C.P w = .ok m.length w ∧ (Builtin.firstCells n k (a.eval y)).run C.P w = .ok es.toArray w := by
    rcases rep_sl hyR with ⟨p, cap', h1, rfl, _, _⟩ | ⟨b, o, cap', h1, h2, h3, h4⟩
    · have hk0 : k = 0 := by rw [hk]; simp
      refine ⟨[], ?_, by rw [h1]; rfl, by rw [h1, hk0]; cases p <;> first | rfl | (simp only [Builtin.firstCells, Nat.zero_mul, Nat.mul_zero, loadCells, loadCellsFrom]; rfl)⟩
      simp [RepE]
    · obtain ⟨ds, q1, q2⟩ := h4.cells
      obtain ⟨q3, _⟩ := q1.split k hkm
      refine ⟨ds.take (k * n), q3, by rw [h1]; rfl, ?_⟩
      rw [h1]
      simp only [Builtin.firstCells]
      have hdl := q1.len
      have : (ds.take (k * n)).length = k * n := by
        have := xg (n := n) hkm
        rw [List.length_take]; omega
      have hld := x_ (P := C.P) (w := w) (b := b) (o := o) (ds.take (k * n)) (fun j hj => by
        rw [this] at hj
        have := (q2 j (by have := xg (n := n) hkm; omega)).1
        simp only [List.getElem_take]
        exact this)
      rw [this] at hld
      exact hld
  have hel := e1.len
  rw [List.length_take, Nat.min_eq_left hkm] at hel
  have hcl := hE.len
  simp only [Array.length_toList] at hcl
  have hfit : off + es.length ≤ cs.size := by rw [hel, hcl, ho, ← Nat.add_mul]; exact xg hkx
  have hst := xu (P := C.P) (b := G.blk g) (o := off) es w cs hb2 hb4 (by omega) e1.plain
  have q5 := (hE.split o (by omega)).1
  have q4 := (hE.split (o + k) hkx).2
  have hnew : RepS w G (.imm (.agg (xs.take o ++ (m.take k ++ xs.drop (o + k))))) (yq cs off es).toList := by
    simp only [RepS, RepC]
    refine (repCs_E (n := n) ?_).2 ?_
    · intro z hz
      rcases List.mem_append.1 hz with hz | hz
      · exact hw z (List.mem_of_mem_take hz)
      rcases List.mem_append.1 hz with hz | hz
      · have : ∀ (l : List AV) (c : List Value), RepE w G.I n l c → ∀ z ∈ l, z.width = n := by
          intro l
          induction l with
          | nil => intro c _ z hz; cases hz
          | cons p l ih =>
            intro c h z hz
            simp only [RepE] at h
            obtain ⟨c1, c2, _, h1, h2, h3⟩ := h
            rcases List.mem_cons.1 hz with rfl | hz
            · rw [← RepC.len _ _ h2]; exact h1
            · exact ih c2 h3 z hz
        exact this _ _ e1 z hz
      · exact hw z (List.mem_of_mem_drop hz)
    · rw [xF _ _ _ hfit, List.append_assoc, hel, ho, ← Nat.add_mul]
      exact q5.append (e1.append q4)
  have S1 := S.storeBox hgA hb2 (xv _ _ _) hnew
  obtain ⟨G1, S1⟩ := S1
  have S2 := S1.put hN' (x := .imm (.v (.int .i64 (k : Nat)))) (v := .int .i64 k) (yf.2 (xl _ _ rfl))
  have eu : upd (upd A' [(g, .box T0 (.imm (.agg (xs.take o ++ (m.take k ++ xs.drop (o + k))))))]) [(d, .imm (.v (.int .i64 (k : Nat))))] = upd A' [(g, .box T0 (.imm (.agg (xs.take o ++ (m.take k ++ xs.drop (o + k)))))), (d, .imm (.v (.int .i64 (k : Nat))))] := by
    funext j
    simp only [upd]
    by_cases hkd : d = j
    · subst hkd; rw [zK hgd]; simp
    · rw [zK hkd]; simp
  rw [eu] at S2
  unfold Oper.wp
  have hrun : (execOp a.eval ⟨some d, .call { callee := .builtin .copy, args := #[x, y], argTypes := #[T, T'] }, ty, pos, af, gd⟩).run C.P w = .ok (.value (.int .i64 k)) (yP w (G.blk g) (.cells (yq cs off es) T0 fr)) := by
    simp only [execOp, resolve, Sem.run_bind, Sem.run_pure, Result.andThen_ok, invoke, builtin]
    have e0 : (#[x, y].map a.eval) = #[a.eval x, a.eval y] := by simp
    have f1 : (#[T, T'] : Array TypeId)[0]? = some T := rfl
    have f3 : (#[a.eval x, a.eval y] : Array Value)[0]? = some (a.eval x) := rfl
    have f4 : (#[a.eval x, a.eval y] : Array Value)[1]? = some (a.eval y) := rfl
    rw [e0]
    simp only [Builtin.copy_, f1, f3, f4]
    simp only [hev, Sem.run_bind, zU hT, Result.andThen_ok, e2, yD hn]
    have : Nat.min m.length len = k := hk.symm
    simp only [this, e3, Result.andThen_ok, hst, Sem.run_pure, goInt]
  rw [hrun, Oper.upon_value]
  exact ⟨G1, S2⟩
end
theorem look_bagg {st : St} {k : Nat} {T : TypeId} {l m : List AV} (h : look st k = .box T (.imm (.agg l))) (e : l = m) : look st k = .box T (.imm (.agg m)) := by rw [h, e]
theorem row1 {m : List AV} {z : AV} {p r N : Nat} (hm : m.length = p) (hN : N = p + 1 + r) : m.take (min m.length N) ++ (List.replicate N z).drop (min m.length N) = m ++ List.replicate (1 + r) z := by
  rw [Nat.min_eq_left (by omega), List.take_length, List.drop_replicate, show N - m.length = 1 + r by omega]
theorem row2 {m : List AV} {z e : AV} {p r : Nat} (hm : m.length = p) : (m ++ List.replicate (1 + r) z).take p ++ e :: (m ++ List.replicate (1 + r) z).drop (p + 1) = m ++ e :: List.replicate r z := by
  rw [List.take_append_of_le_length (by omega), List.take_of_length_le (by omega), List.drop_append, List.drop_of_length_le (by omega), List.nil_append, List.drop_replicate, show 1 + r - (p + 1 - m.length) = r by omega]
theorem row3 {m R : List AV} {z e : AV} {p r N : Nat} (hm : m.length = p) (hR : R.length = r) (hN : N = p + 1 + r) :
    (m ++ e :: List.replicate r z).take (if N = p + 1 then 0 else p + 1) ++ (R.take (min R.length (N - (p + 1))) ++ (m ++ e :: List.replicate r z).drop ((if N = p + 1 then 0 else p + 1) + min R.length (N - (p + 1)))) = m ++ e :: R := by
  by_cases h : N = p + 1
  · have hr : r = 0 := by omega
    subst hr
    obtain rfl := List.eq_nil_of_length_eq_zero hR
    rw [if_pos h]; simp
  · rw [if_neg h, show N - (p + 1) = r by omega, hR, Nat.min_self, ← hR, List.take_length]
    have e1 : (m ++ e :: List.replicate R.length z).take (p + 1) = m ++ [e] := by
      rw [List.take_append, List.take_of_length_le (by omega), show p + 1 - m.length = 1 by omega]; rfl
    have e2 : (m ++ e :: List.replicate R.length z).drop (p + 1 + R.length) = [] := List.drop_of_length_le (by simp; omega)
    rw [e1, e2, List.append_nil, List.append_assoc]; rfl
theorem widths_mem {n : Nat} {l : List AV} (h : ∀ x ∈ l, x.width = n) {z : AV} (hz : z.width = n) (r : Nat) : ∀ x ∈ l ++ List.replicate r z, x.width = n := fun x hx => (List.mem_append.1 hx).elim (h x) fun hx => by rw [List.eq_of_mem_replicate hx]; exact hz
end Go.Al
namespace Go.Proofs
open Go Go.Al
def firstI {α : Type} (p : α → Bool) : List α → Nat → Int
  | [], _ => -1
  | x :: xs, n => if p x then n else firstI p xs (n + 1)
theorem firstI_any {α : Type} (p : α → Bool) : ∀ (l : List α) (n : Nat), decide (firstI p l n ≥ 0) = l.any p
  | [], n => by simp [firstI]
  | x :: xs, n => by
    rw [firstI, List.any_cons]
    cases h : p x
    · rw [if_neg (by simp), firstI_any p xs (n + 1)]; rfl
    · simp
theorem vA {α : Type} {p : α → Bool} {l : List α} {i : Nat} {d : α} (h : i < l.length) : firstI p (l.drop i) i = if p (nth l i d) then (i : Int) else firstI p (l.drop (i + 1)) (i + 1) := by
  rw [drop_nth (d := d) h, firstI]
theorem any_drop {α : Type} {p : α → Bool} {l : List α} {i : Nat} {d : α} (h : i < l.length) : (l.drop i).any p = (p (nth l i d) || (l.drop (i + 1)).any p) := by
  rw [drop_nth (d := d) h, List.any_cons]
theorem str_nth {l : List ByteArray} {i : Nat} (h : i < l.length) : (l.map fun x => sv x)[((i : Nat) : Int).toNat]? = some (sv (nth l i ⟨#[]⟩)) := wl (d := ⟨#[]⟩) h
theorem u8_nth {l : List Int} {i : Nat} (h : i < l.length) : (l.map fun x => cv x)[((i : Nat) : Int).toNat]? = some (cv (nth l i 0)) := wl (d := 0) h
theorem dropA_snoc (keys : List ByteArray) : ∀ (l : List GA) (x : GA), yu keys (l ++ [x]) = yu keys l ++ (if keys.any (fun k => decide (k = x.key)) then [] else [x])
  | [], x => by simp only [List.nil_append, yu]
  | y :: l, x => by
    simp only [List.cons_append, yu, dropA_snoc keys l x]
    split <;> simp
theorem dropA_take {keys : List ByteArray} {l : List GA} {i : Nat} (h : i < l.length) : yu keys (l.take (i + 1)) = yu keys (l.take i) ++ (if keys.any (fun k => decide (k = (nthA l i).key)) then [] else [nthA l i]) := by
  rw [zu (ye (d := a0) h), dropA_snoc]; rfl
theorem dropA_len (keys : List ByteArray) : ∀ l : List GA, (yu keys l).length ≤ l.length
  | [] => Nat.le_refl _
  | x :: l => by rw [yu]; have := dropA_len keys l; split <;> simp <;> omega
theorem plain_take {kinds : List Int} {l : List GA} {i : Nat} (h : i < l.length) : (l.take (i + 1)).map (yT kinds) = (l.take i).map (yT kinds) ++ [yT kinds (nthA l i)] := by
  rw [zu (ye (d := a0) h), List.map_append]; rfl
theorem sameV_ne {a b : GV} (h : a ≠ b) : sameV a b = false := by cases hs : sameV a b; rfl; exact absurd ((sameV_iff _ _).1 hs) h
theorem sameAs_ne {a b : List GA} (h : a ≠ b) : sameAs a b = false := by cases hs : sameAs a b; rfl; exact absurd ((y3 _ _).1 hs) h
theorem zy {α : Type} {l m : List α} (d : α) (hl : l.length = m.length) (h : ∀ i, i < l.length → nth l i d = nth m i d) : l = m := by
  refine List.ext_getElem hl fun i h1 h2 => ?_
  have := h i h1
  unfold nth at this
  rwa [List.getD_eq_getElem?_getD, List.getD_eq_getElem?_getD, List.getElem?_eq_getElem h1, List.getElem?_eq_getElem h2] at this
theorem GA.ext' {a b : GA} (h1 : a.key = b.key) (h2 : a.val = b.val) : a = b := by cases a; cases b; simp only [GA.key_mk, GA.val_mk] at h1 h2; rw [h1, h2]
theorem GV.ext' {a b : GV} (h1 : a.kind = b.kind) (h2 : a.text = b.text) (h3 : a.num = b.num) (h4 : a.bits = b.bits) (h5 : a.list = b.list) (h6 : a.map = b.map) : a = b := by
  cases a; cases b
  simp only [GV.kind_mk, GV.text_mk, GV.num_mk, GV.bits_mk, GV.list_mk, GV.map_mk] at h1 h2 h3 h4 h5 h6
  rw [h1, h2, h3, h4, h5, h6]
theorem sameV_map {a b : GV} (h1 : a.kind = b.kind) (h2 : a.text = b.text) (h3 : a.num = b.num) (h4 : a.bits = b.bits) (h5 : a.list = b.list) : sameAs a.map b.map = sameV a b := by
  rw [Bool.eq_iff_iff, y3, sameV_iff]
  exact ⟨fun h => GV.ext' h1 h2 h3 h4 h5 h, fun h => by rw [h]⟩
def restA (l : List GA) (k : ByteArray) : List GA := if hasA l k then l.drop (posA l k + 1) else l.drop (posA l k)
theorem restA_yes {l : List GA} {k : ByteArray} (h : hasA l k = true) : restA l k = l.drop (posA l k + 1) := by unfold restA; rw [if_pos h]
theorem restA_no {l : List GA} {k : ByteArray} (h : hasA l k = false) : restA l k = l.drop (posA l k) := by unfold restA; rw [if_neg (by rw [h]; decide)]
theorem restA_len (l : List GA) (k : ByteArray) : (restA l k).length ≤ l.length := by unfold restA; split <;> simp
theorem into_row {l : List GA} (k : ByteArray) (v : GV) : (l.take (posA l k)).map avA ++ (GA.mk k v).av :: (restA l k).map avA = (xp l (.mk k v)).map avA := by
  rw [wm]
  simp only [List.map_append, List.map_cons, List.map_nil, xS, List.append_assoc, List.cons_append, List.nil_append]
  rfl
theorem avA_w (l : List GA) : ∀ x ∈ l.map avA, x.width = 7 := fun x hx => by
  obtain ⟨y, _, rfl⟩ := List.mem_map.1 hx
  rw [xS]; rfl
theorem rowW {z : AV} (hz : z.width = 7) (l : List GA) (e : GA) (r : Nat) : ∀ x ∈ l.map avA ++ e.av :: List.replicate r z, x.width = 7 := fun x hx => by
  rcases List.mem_append.1 hx with hx | hx
  · exact avA_w l x hx
  · rcases List.mem_cons.1 hx with rfl | hx
    · rfl
    · rw [List.eq_of_mem_replicate hx]; exact hz
theorem rowW2 (l : List GA) (e : GA) (R : List GA) : ∀ x ∈ l.map avA ++ e.av :: R.map avA, x.width = 7 := fun x hx => by
  rcases List.mem_append.1 hx with hx | hx
  · exact avA_w l x hx
  · rcases List.mem_cons.1 hx with rfl | hx
    · rfl
    · exact avA_w R x hx
end Go.Proofs
namespace Go.Al
open Go.RowKit
section
variable {C : Cx} {A : Nat → SV} {d : Nat} {ty : TypeId} {pos : String} {af : Array Edge} {gd : Option (Nat × Bool)} {x y : Operand} {T T' : TypeId}
theorem look_bimm {st : St} {k : Nat} {T : TypeId} {l m : AV} (h : look st k = .box T (.imm l)) (e : l = m) : look st k = .box T (.imm m) := by rw [h, e]
end
end Go.Al
namespace Go.Proofs
open Go Go.Al
set_option maxRecDepth 10000
theorem vplain_c (v : GV) (ho : v.ok) (hw : v.wt ≤ 10000000) : zo Tryd.prog Γ0 59 [v.av] [(xq v).av] := by
  refine zf Tryd.func59 rfl Tryd.ntmps59 (by kernel_rfl) rfl fun w0 I0 G0 => ?_
  refine zD <| zB <| g_uG (zn 1001 rfl rfl rfl rfl) rfl <| g_uG (z0 1002 rfl rfl rfl tZ71) rfl <| zH <| zA <| zD <| zB <| g_u (zG rfl rfl rfl tA71 tS71 rfl rfl) <| g_u (zR (text_c v ho hw) rfl rfl) <| g_u (yh rfl tU71 us71 pl71 rfl rfl rfl rfl) <| g_u (zX rfl rfl rfl tS71 rfl rfl) <| zH <| zA <| zQ ?_
  exact ⟨⟨_, _, _, _, _, _, _, rfl, rfl, tA71, tS71, rfl, rfl, (rfl : toAV _ = some _).trans (congrArg some (by rfl))⟩, trivial⟩
theorem indexS_c (ks : List ByteArray) (k : ByteArray) (hk : ks.length ≤ 1000000000) : zo Tryd.prog Γ0 83 [(.sl 1 (ks.map fun x => sv x)), sv k] [iv (firstI (fun x => decide (x = k)) ks 0)] := by
  refine zf Tryd.func83 rfl Tryd.ntmps83 (by kernel_rfl) rfl fun w0 I0 G0 => ?_
  refine zD <| zB <| g_u (zE rfl rfl) <| zH <| zA <| zD <| zD <| zB <| g_u (zC rfl rfl) <| g_u (zz rfl rfl Tryd.underlying37) <| g_u (zC rfl rfl) <| zH <| zA <| zT ?_
  refine zq (fun i : Nat => [(0, .imm (.sl 1 (ks.map fun x => sv x))), (1, .imm (sv k)), (7, .imm (iv (ks.length : Int))), (8, .imm (iv (i : Int)))]) (fun i => i ≤ ks.length ∧ firstI (fun x => decide (x = k)) ks 0 = firstI (fun x => decide (x = k)) (ks.drop i) i) (fun i => ks.length - i) (0) ?_ ⟨rfl, rfl, zd rfl (by rw [List.length_map]), rfl, trivial⟩ ?_
  · exact ⟨Nat.zero_le _, rfl⟩
  · rintro i ⟨h1, h2⟩; (try dsimp only at h1 h2)
    refine zD <| zB <| g_u (yd rfl rfl rfl) <| zH <| zA <| zD ?_
    refine zV rfl (fun hb1 => ?_) (fun hb1 => ?_)
    · have hi : i < ks.length := by have := of_decide_eq_true hb1; (try simp only [List.length_map] at this); omega
      refine zY <| zA <| zD <| zT <| zD <| zB <| g_u (zC rfl rfl) <| g_u (zE rfl rfl) <| zH <| zA <| zD <| zB <| g_u (zC rfl rfl) <| g_u (zC rfl rfl) <| g_u (zC rfl rfl) ?_
      refine g_u (zJ rfl rfl rfl Tryd.underlying37 tS9 (by omega) (str_nth hi)) ?_
      refine g_u (zN rfl rfl tA9 tS9 rfl rfl) <| g_u (s_eqS rfl rfl rfl) <| zH <| zA ?_
      refine zV rfl (fun hb2 => ?_) (fun hb2 => ?_)
      · have q : decide (nth ks i ⟨#[]⟩ = k) = true := by have e := hb2; rw [yg] at e; exact decide_eq_true (of_decide_eq_true e).symm
        refine zD <| zB <| g_u (zC rfl rfl) <| g_u (zE rfl rfl) <| zH <| zA <| zQ <| zp <| zM <| zM <| zp <| zM ?_
        exact ⟨⟨(rfl : toAV (Al.look _ _) = some _).trans (congrArg some (by (exact congrArg iv (by first | (rw [h2, hin, List.drop_length]; rfl) | rw [h2, vA (d := ⟨#[]⟩) hi, if_pos q])))), rfl⟩, trivial⟩
      · have q : decide (nth ks i ⟨#[]⟩ = k) = false := by have e := hb2; rw [yg] at e; exact decide_eq_false fun h => of_decide_eq_false e h.symm
        refine zY <| zW <| zA <| zB <| g_u (yK rfl rfl rfl) <| g_u (zC rfl rfl) <| zH <| zA ?_
        refine ⟨i + 1, ⟨hi, by (try dsimp only); rw [h2, vA (d := ⟨#[]⟩) hi, if_neg (by rw [q]; decide)]⟩, ⟨rfl, rfl, rfl, zd rfl (by rw [z_ (by omega) (by omega)]; rfl), trivial⟩, by (try dsimp only); omega⟩
    · have hin : i = ks.length := by have := of_decide_eq_false hb1; (try simp only [List.length_map] at this); omega
      refine zt <| zP <| zP <| zj <| zA <| zD <| zB <| g_u (zE rfl rfl) <| zH <| zA <| zQ ?_
      exact ⟨⟨(rfl : toAV (Al.look _ _) = some _).trans (congrArg some (by (exact congrArg iv (by first | (rw [h2, hin, List.drop_length]; rfl) | rw [h2, vA (d := ⟨#[]⟩) hi, if_pos q])))), rfl⟩, trivial⟩
theorem containsS_c (ks : List ByteArray) (k : ByteArray) (hk : ks.length ≤ 1000000000) : zo Tryd.prog Γ0 60 [(.sl 1 (ks.map fun x => sv x)), sv k] [bv (ks.any (fun x => decide (x = k)))] := by
  refine zf Tryd.func60 rfl Tryd.ntmps60 (by kernel_rfl) rfl fun w0 I0 G0 => ?_
  refine zD <| zB <| g_u (zE rfl rfl) <| zH <| zA <| zD <| zB <| g_u (zC rfl rfl) <| g_u (zC rfl rfl) ?_
  refine g_u (zR (indexS_c _ _ (by omega)) rfl rfl) ?_
  refine g_u (s_geI rfl rfl rfl) <| g_u (zE rfl rfl) <| zH <| zA <| zQ ?_
  exact ⟨⟨(rfl : toAV (Al.look _ _) = some _).trans (congrArg some (by (exact congrArg bv (firstI_any _ _ 0)))), rfl⟩, trivial⟩
theorem indexU_c (ks : List Int) (k : Int) (hk : ks.length ≤ 1000000000) : zo Tryd.prog Γ0 82 [(.sl 1 (ks.map fun x => cv x)), cv k] [iv (firstI (fun x => x == k) ks 0)] := by
  refine zf Tryd.func82 rfl Tryd.ntmps82 (by kernel_rfl) rfl fun w0 I0 G0 => ?_
  refine zD <| zB <| g_u (zE rfl rfl) <| zH <| zA <| zD <| zD <| zB <| g_u (zC rfl rfl) <| g_u (zz rfl rfl Tryd.underlying90) <| g_u (zC rfl rfl) <| zH <| zA <| zT ?_
  refine zq (fun i : Nat => [(0, .imm (.sl 1 (ks.map fun x => cv x))), (1, .imm (cv k)), (7, .imm (iv (ks.length : Int))), (8, .imm (iv (i : Int)))]) (fun i => i ≤ ks.length ∧ firstI (fun x => x == k) ks 0 = firstI (fun x => x == k) (ks.drop i) i) (fun i => ks.length - i) (0) ?_ ⟨rfl, rfl, zd rfl (by rw [List.length_map]), rfl, trivial⟩ ?_
  · exact ⟨Nat.zero_le _, rfl⟩
  · rintro i ⟨h1, h2⟩; (try dsimp only at h1 h2)
    refine zD <| zB <| g_u (yd rfl rfl rfl) <| zH <| zA <| zD ?_
    refine zV rfl (fun hb1 => ?_) (fun hb1 => ?_)
    · have hi : i < ks.length := by have := of_decide_eq_true hb1; (try simp only [List.length_map] at this); omega
      refine zY <| zA <| zD <| zT <| zD <| zB <| g_u (zC rfl rfl) <| g_u (zE rfl rfl) <| zH <| zA <| zD <| zB <| g_u (zC rfl rfl) <| g_u (zC rfl rfl) <| g_u (zC rfl rfl) ?_
      refine g_u (zJ rfl rfl rfl Tryd.underlying90 tS5 (by omega) (u8_nth hi)) ?_
      refine g_u (zN rfl rfl tA5 tS5 rfl rfl) <| g_u (xM rfl rfl rfl) <| zH <| zA ?_
      refine zV rfl (fun hb2 => ?_) (fun hb2 => ?_)
      · have q : (nth ks i 0 == k) = true := beq_iff_eq.2 (beq_iff_eq.1 hb2).symm
        refine zD <| zB <| g_u (zC rfl rfl) <| g_u (zE rfl rfl) <| zH <| zA <| zQ <| zp <| zM <| zM <| zp <| zM ?_
        exact ⟨⟨(rfl : toAV (Al.look _ _) = some _).trans (congrArg some (by (exact congrArg iv (by first | (rw [h2, hin, List.drop_length]; rfl) | rw [h2, vA (d := 0) hi, if_pos q])))), rfl⟩, trivial⟩
      · have q : (nth ks i 0 == k) = false := qe.2 (Ne.symm (qe.1 hb2))
        refine zY <| zW <| zA <| zB <| g_u (yK rfl rfl rfl) <| g_u (zC rfl rfl) <| zH <| zA ?_
        refine ⟨i + 1, ⟨hi, by (try dsimp only); rw [h2, vA (d := 0) hi, if_neg (by rw [q]; decide)]⟩, ⟨rfl, rfl, rfl, zd rfl (by rw [z_ (by omega) (by omega)]; rfl), trivial⟩, by (try dsimp only); omega⟩
    · have hin : i = ks.length := by have := of_decide_eq_false hb1; (try simp only [List.length_map] at this); omega
      refine zt <| zP <| zP <| zj <| zA <| zD <| zB <| g_u (zE rfl rfl) <| zH <| zA <| zQ ?_
      exact ⟨⟨(rfl : toAV (Al.look _ _) = some _).trans (congrArg some (by (exact congrArg iv (by first | (rw [h2, hin, List.drop_length]; rfl) | rw [h2, vA (d := 0) hi, if_pos q])))), rfl⟩, trivial⟩
theorem containsU_c (ks : List Int) (k : Int) (hk : ks.length ≤ 1000000000) : zo Tryd.prog Γ0 58 [(.sl 1 (ks.map fun x => cv x)), cv k] [bv (ks.any (fun x => x == k))] := by
  refine zf Tryd.func58 rfl Tryd.ntmps58 (by kernel_rfl) rfl fun w0 I0 G0 => ?_
  refine zD <| zB <| g_u (zE rfl rfl) <| zH <| zA <| zD <| zB <| g_u (zC rfl rfl) <| g_u (zC rfl rfl) ?_
  refine g_u (zR (indexU_c _ _ (by omega)) rfl rfl) ?_
  refine g_u (s_geI rfl rfl rfl) <| g_u (zE rfl rfl) <| zH <| zA <| zQ ?_
  exact ⟨⟨(rfl : toAV (Al.look _ _) = some _).trans (congrArg some (by (exact congrArg bv (firstI_any _ _ 0)))), rfl⟩, trivial⟩
theorem in_c (k : ByteArray) (ks : List ByteArray) (hk : ks.length ≤ 1000000000) : zo Tryd.prog Γ0 67 [sv k, (.sl 1 (ks.map fun x => sv x))] [bv (ks.any (fun x => decide (x = k)))] := by
  refine zf Tryd.func67 rfl Tryd.ntmps67 (by kernel_rfl) rfl fun w0 I0 G0 => ?_
  refine zD <| zB <| g_u (zE rfl rfl) <| zH <| zA <| zD <| zD <| zB <| g_u (zE rfl rfl) <| zH <| zA <| zT ?_
  refine zq (fun i : Nat => [(0, .imm (sv k)), (1, .imm (.sl 1 (ks.map fun x => sv x))), (5, .imm (iv (i : Int)))]) (fun i => i ≤ ks.length ∧ ks.any (fun x => decide (x = k)) = (ks.drop i).any (fun x => decide (x = k))) (fun i => ks.length - i) (0) ?_ ⟨rfl, rfl, rfl, trivial⟩ ?_
  · exact ⟨Nat.zero_le _, rfl⟩
  · rintro i ⟨h1, h2⟩; (try dsimp only at h1 h2)
    refine zD <| zD <| zB <| g_u (zC rfl rfl) <| g_u (zC rfl rfl) <| g_u (zz rfl rfl Tryd.underlying37) <| g_u (yd rfl rfl rfl) <| zH <| zA ?_
    refine zV rfl (fun hb1 => ?_) (fun hb1 => ?_)
    · have hi : i < ks.length := by have := of_decide_eq_true hb1; (try simp only [List.length_map] at this); omega
      refine zY <| zA <| zD <| zT <| zD <| zB <| g_u (zC rfl rfl) <| g_u (zC rfl rfl) ?_
      refine g_u (zJ rfl rfl rfl Tryd.underlying37 tS9 (by omega) (str_nth hi)) ?_
      refine g_u (zN rfl rfl tA9 tS9 rfl rfl) <| g_u (zC rfl rfl) <| g_u (s_eqS rfl rfl rfl) <| zH <| zA ?_
      refine zV rfl (fun hb2 => ?_) (fun hb2 => ?_)
      · have q : decide (nth ks i ⟨#[]⟩ = k) = true := by have e := hb2; rw [yg] at e; exact e
        refine zD <| zB <| g_u (zE rfl rfl) <| zH <| zA <| zQ <| zp <| zM <| zM <| zp <| zM ?_
        exact ⟨⟨(rfl : toAV (Al.look _ _) = some _).trans (congrArg some (by (exact congrArg bv (by first | (rw [h2, hin, List.drop_length]; rfl) | (rw [h2, any_drop (d := ⟨#[]⟩) hi, q]; rfl))))), rfl⟩, trivial⟩
      · have q : decide (nth ks i ⟨#[]⟩ = k) = false := by have e := hb2; rw [yg] at e; exact e
        refine zY <| zW <| zA <| zB <| g_u (zC rfl rfl) <| g_u (yK rfl rfl rfl) <| g_u (zE rfl rfl) <| zH <| zA ?_
        refine ⟨i + 1, ⟨hi, by (try dsimp only); rw [h2, any_drop (d := ⟨#[]⟩) hi, q]; rfl⟩, ⟨rfl, rfl, zd rfl (by rw [z_ (by omega) (by omega)]; rfl), trivial⟩, by (try dsimp only); omega⟩
    · have hin : i = ks.length := by have := of_decide_eq_false hb1; (try simp only [List.length_map] at this); omega
      refine zt <| zP <| zP <| zj <| zA <| zD <| zB <| g_u (zE rfl rfl) <| zH <| zA <| zQ ?_
      exact ⟨⟨(rfl : toAV (Al.look _ _) = some _).trans (congrArg some (by (exact congrArg bv (by first | (rw [h2, hin, List.drop_length]; rfl) | (rw [h2, any_drop (d := ⟨#[]⟩) hi, q]; rfl))))), rfl⟩, trivial⟩
theorem drop_c (l : List GA) (ks : List ByteArray) (hl : l.length ≤ 10000000) (hk : ks.length ≤ 1000000000) : zo Tryd.prog Γ0 33 [(.sl 7 (l.map avA)), (.sl 1 (ks.map fun x => sv x))] [.sl 7 ((yu ks l).map avA)] := by
  refine zf Tryd.func33 rfl Tryd.ntmps33 (by kernel_rfl) rfl fun w0 I0 G0 => ?_
  refine zD <| zB <| g_u (zE rfl rfl) <| zH <| zA <| zD <| zB <| g_u (zE rfl rfl) <| zH <| zA <| zD <| zD <| xN 3005 5 7 rfl rfl rfl rfl <| zB <| g_u (zC rfl rfl) <| g_u (zz rfl rfl Tryd.underlying30) <| g_u (zC rfl rfl) <| zH <| zA <| zT ?_
  refine zq (fun i : Nat => [(1, .imm (.sl 1 (ks.map fun x => sv x))), (8, .imm (.sl 7 (l.map avA))), (9, .imm (iv (l.length : Int))), (5, .slg 3005 7 ((yu ks (l.take i)).map avA)), (3005, .tok 7 ((yu ks (l.take i)).map avA)), (10, .imm (iv (i : Int)))]) (fun i => i ≤ l.length) (fun i => l.length - i) (0) ?_ ⟨rfl, rfl, zd rfl (by rw [List.length_map]), rfl, rfl, rfl, trivial⟩ ?_
  · exact Nat.zero_le _
  · rintro i h1; have h1 : i ≤ l.length := h1
    refine zD <| zB <| g_u (yd rfl rfl rfl) <| zH <| zA <| zD ?_
    refine zV rfl (fun hb1 => ?_) (fun hb1 => ?_)
    · have hi : i < l.length := by have := of_decide_eq_true hb1; (try simp only [List.length_map] at this); omega
      refine zY <| zA <| zD <| zT <| zD <| zB ?_
      refine g_u (zJ rfl rfl rfl Tryd.underlying30 tS73 (by omega) (ixA hi)) ?_
      refine g_u (zN rfl rfl tA73 tS73 rfl rfl) <| g_uG (z0 1007 rfl rfl rfl tZ73) rfl <| g_u (zX rfl rfl rfl tS73 rfl rfl) <| zH <| zA <| zD <| zB <| g_u (zC rfl rfl) <| g_u (zF rfl rfl wq rfl) <| g_u (zG rfl rfl rfl tA9 tS9 rfl rfl) ?_
      refine g_u (zR (containsS_c _ _ (by omega)) rfl rfl) ?_
      refine g_u (s_not rfl rfl) <| zH <| zA ?_
      refine zV rfl (fun hb2 => ?_) (fun hb2 => ?_)
      · have et : (yu ks (l.take (i + 1))).map avA = (yu ks (l.take i)).map avA ++ [(nthA l i).av] := by rw [dropA_take hi, if_neg (by have e := hb2; simp only [Bool.not_eq_true'] at e; rw [e]; decide)]; simp [xS]
        refine zB <| g_u (zs rfl rfl) <| g_u (yW rfl rfl rfl tA73 tS73 rfl rfl) <| g_u (ze (X0 := z73) rfl Tryd.underlying30 tS73 tZ73 rfl rfl rfl rfl rfl rfl rfl rfl) ?_
        refine g_u (z8 rfl rfl rfl rfl rfl Tryd.underlying30 Tryd.underlying30 tS73 zv73 rfl (by decide) by73 (by (try dsimp only); have hdl := dropA_len ks (l.take i); simp only [List.length_append, List.length_cons, List.length_nil, List.length_map, List.length_take] at *; omega) (by (try dsimp only); have hdl := dropA_len ks (l.take i); simp only [List.length_append, List.length_cons, List.length_nil, List.length_map, List.length_take] at *; omega)) ?_
        refine g_u (zx rfl rfl) <| zH <| zW <| zA <| zB <| g_u (yK rfl rfl rfl) <| g_u (zC rfl rfl) <| zH <| zA ?_
        refine ⟨i + 1, hi, ⟨rfl, rfl, rfl, yU rfl et.symm, yB rfl et.symm, zd rfl (by rw [z_ (by omega) (by omega)]; rfl), trivial⟩, by (try dsimp only); omega⟩
      · have et : (yu ks (l.take (i + 1))).map avA = (yu ks (l.take i)).map avA := by rw [dropA_take hi, if_pos (by have e := hb2; simp only [Bool.not_eq_false'] at e; exact e)]; simp [xS]
        refine zY <| zW <| zA <| zB <| g_u (yK rfl rfl rfl) <| g_u (zC rfl rfl) <| zH <| zA ?_
        refine ⟨i + 1, hi, ⟨rfl, rfl, rfl, yU rfl et.symm, yB rfl et.symm, zd rfl (by rw [z_ (by omega) (by omega)]; rfl), trivial⟩, by (try dsimp only); omega⟩
    · have hin : i = l.length := by have := of_decide_eq_false hb1; (try simp only [List.length_map] at this); omega
      refine zt <| zP <| zP <| zj <| zA <| zD <| zB <| g_u (zs rfl rfl) <| g_u (zx rfl rfl) <| zH <| zA <| zQ ?_
      exact ⟨⟨(rfl : toAV (Al.look _ _) = some _).trans (congrArg some (by (rw [hin, List.take_length]))), rfl⟩, trivial⟩
theorem rdrop_c (l : List GA) (ks : List ByteArray) (hl : l.length ≤ 10000000) (hk : ks.length ≤ 1000000000) : zo Tryd.prog Γ0 38 [(.sl 7 (l.map avA)), (.sl 1 (ks.map fun x => sv x))] [.sl 7 ((yu ks l).map avA)] := by
  refine zf Tryd.func38 rfl Tryd.ntmps38 (by kernel_rfl) rfl fun w0 I0 G0 => ?_
  refine zD <| zB <| g_u (zE rfl rfl) <| zH <| zA <| zD <| zB <| g_u (zE rfl rfl) <| zH <| zA <| zD <| zD <| xN 3005 5 7 rfl rfl rfl rfl <| zB <| g_u (zE rfl rfl) <| zH <| zA <| zT ?_
  refine zq (fun i : Nat => [(0, .imm (.sl 7 (l.map avA))), (1, .imm (.sl 1 (ks.map fun x => sv x))), (5, .slg 3005 7 ((yu ks (l.take i)).map avA)), (3005, .tok 7 ((yu ks (l.take i)).map avA)), (6, .imm (iv (i : Int)))]) (fun i => i ≤ l.length) (fun i => l.length - i) (0) ?_ ⟨rfl, rfl, rfl, rfl, rfl, trivial⟩ ?_
  · exact Nat.zero_le _
  · rintro i h1; have h1 : i ≤ l.length := h1
    refine zD <| zD <| zB <| g_u (zC rfl rfl) <| g_u (zC rfl rfl) <| g_u (zz rfl rfl Tryd.underlying30) <| g_u (yd rfl rfl rfl) <| zH <| zA ?_
    refine zV rfl (fun hb1 => ?_) (fun hb1 => ?_)
    · have hi : i < l.length := by have := of_decide_eq_true hb1; (try simp only [List.length_map] at this); omega
      refine zY <| zA <| zD <| zT <| zD <| zB <| g_u (zC rfl rfl) <| g_u (zC rfl rfl) ?_
      refine g_u (zJ rfl rfl rfl Tryd.underlying30 tS73 (by omega) (ixA hi)) ?_
      refine g_u (zL rfl rfl wq rfl rfl) <| g_u (zN rfl rfl tA9 tS9 rfl rfl) <| g_u (zC rfl rfl) ?_
      refine g_u (zR (in_c _ _ (by omega)) rfl rfl) ?_
      refine g_u (s_not rfl rfl) <| zH <| zA ?_
      refine zV rfl (fun hb2 => ?_) (fun hb2 => ?_)
      · have et : (yu ks (l.take (i + 1))).map avA = (yu ks (l.take i)).map avA ++ [(nthA l i).av] := by rw [dropA_take hi, if_neg (by have e := hb2; simp only [Bool.not_eq_true'] at e; rw [e]; decide)]; simp [xS]
        refine zB <| g_u (zs rfl rfl) <| g_u (zC rfl rfl) <| g_u (zC rfl rfl) ?_
        refine g_u (zJ rfl rfl rfl Tryd.underlying30 tS73 (by omega) (ixA hi)) ?_
        refine g_u (zN rfl rfl tA73 tS73 rfl rfl) <| g_u (ze (X0 := z73) rfl Tryd.underlying30 tS73 tZ73 rfl rfl rfl rfl rfl rfl rfl rfl) ?_
        refine g_u (z8 rfl rfl rfl rfl rfl Tryd.underlying30 Tryd.underlying30 tS73 zv73 rfl (by decide) by73 (by (try dsimp only); have hdl := dropA_len ks (l.take i); simp only [List.length_append, List.length_cons, List.length_nil, List.length_map, List.length_take] at *; omega) (by (try dsimp only); have hdl := dropA_len ks (l.take i); simp only [List.length_append, List.length_cons, List.length_nil, List.length_map, List.length_take] at *; omega)) ?_
        refine g_u (zx rfl rfl) <| zH <| zW <| zA <| zB <| g_u (zC rfl rfl) <| g_u (yK rfl rfl rfl) <| g_u (zE rfl rfl) <| zH <| zA ?_
        refine ⟨i + 1, hi, ⟨rfl, rfl, yU rfl et.symm, yB rfl et.symm, zd rfl (by rw [z_ (by omega) (by omega)]; rfl), trivial⟩, by (try dsimp only); omega⟩
      · have et : (yu ks (l.take (i + 1))).map avA = (yu ks (l.take i)).map avA := by rw [dropA_take hi, if_pos (by have e := hb2; simp only [Bool.not_eq_false'] at e; exact e)]; simp [xS]
        refine zY <| zW <| zA <| zB <| g_u (zC rfl rfl) <| g_u (yK rfl rfl rfl) <| g_u (zE rfl rfl) <| zH <| zA ?_
        refine ⟨i + 1, hi, ⟨rfl, rfl, yU rfl et.symm, yB rfl et.symm, zd rfl (by rw [z_ (by omega) (by omega)]; rfl), trivial⟩, by (try dsimp only); omega⟩
    · have hin : i = l.length := by have := of_decide_eq_false hb1; (try simp only [List.length_map] at this); omega
      refine zt <| zP <| zP <| zj <| zA <| zD <| zB <| g_u (zs rfl rfl) <| g_u (zx rfl rfl) <| zH <| zA <| zQ ?_
      exact ⟨⟨(rfl : toAV (Al.look _ _) = some _).trans (congrArg some (by (rw [hin, List.take_length]))), rfl⟩, trivial⟩
theorem plainAs_c (l : List GA) (ks : List Int) (ho : ∀ a ∈ l, a.ok) (hw : wtAs l ≤ 10000000) (hk : ks.length ≤ 1000000000) : zo Tryd.prog Γ0 32 [(.sl 7 (l.map avA)), (.sl 1 (ks.map fun x => cv x))] [.sl 7 ((l.map (yT ks)).map avA)] := by
  have hl := yo l
  refine zf Tryd.func32 rfl Tryd.ntmps32 (by kernel_rfl) rfl fun w0 I0 G0 => ?_
  refine zD <| zB <| g_u (zE rfl rfl) <| zH <| zA <| zD <| zB <| g_u (zE rfl rfl) <| zH <| zA <| zD <| zD <| xN 3005 5 7 rfl rfl rfl rfl <| zB <| g_u (zC rfl rfl) <| g_u (zz rfl rfl Tryd.underlying30) <| g_u (zC rfl rfl) <| zH <| zA <| zT ?_
  refine zq (fun i : Nat => [(1, .imm (.sl 1 (ks.map fun x => cv x))), (8, .imm (.sl 7 (l.map avA))), (9, .imm (iv (l.length : Int))), (5, .slg 3005 7 (((l.take i).map (yT ks)).map avA)), (3005, .tok 7 (((l.take i).map (yT ks)).map avA)), (10, .imm (iv (i : Int)))]) (fun i => i ≤ l.length) (fun i => l.length - i) (0) ?_ ⟨rfl, rfl, zd rfl (by rw [List.length_map]), rfl, rfl, rfl, trivial⟩ ?_
  · exact Nat.zero_le _
  · rintro i h1; have h1 : i ≤ l.length := h1
    refine zD <| zB <| g_u (yd rfl rfl rfl) <| zH <| zA <| zD ?_
    refine zV rfl (fun hb1 => ?_) (fun hb1 => ?_)
    · have hi : i < l.length := by have := of_decide_eq_true hb1; (try simp only [List.length_map] at this); omega
      have gov : (nthA l i).val.ok := ((GA.ok_iff _).1 (ho _ (wR hi))).2
      have gow : (nthA l i).val.wt ≤ 10000000 := by have h1 := wD (wR hi); have h2 := (nthA l i).wt_eq; omega
      refine zY <| zA <| zD <| zT <| zD <| zB ?_
      refine g_u (zJ rfl rfl rfl Tryd.underlying30 tS73 (by omega) (ixA hi)) ?_
      refine g_u (zN rfl rfl tA73 tS73 rfl rfl) <| g_uG (z0 1007 rfl rfl rfl tZ73) rfl <| g_u (zX rfl rfl rfl tS73 rfl rfl) <| zH <| zA <| zD <| zD <| zB <| g_u (zC rfl rfl) <| g_u (zF rfl rfl fa73_1 rfl) <| g_u (zF rfl rfl xn rfl) <| g_u (zG rfl rfl rfl tA5 tS5 rfl rfl) ?_
      refine g_u (zR (containsU_c _ _ (by omega)) rfl rfl) ?_
      refine zH <| zA ?_
      refine zV rfl (fun hb2 => ?_) (fun hb2 => ?_)
      · have et : ((l.take (i + 1)).map (yT ks)).map avA = ((l.take i).map (yT ks)).map avA ++ [.agg [sv (nthA l i).key, (xq (nthA l i).val).av]] := by rw [plain_take hi, List.map_append]; simp only [List.map_cons, List.map_nil, xS]; unfold yT; rw [if_pos hb2]; rfl
        refine zB <| g_u (zF rfl rfl fa73_1 rfl) <| g_u (zG rfl rfl rfl tA71 tS71 rfl rfl) <| g_u (zR (vplain_c _ gov gow) rfl rfl) <| g_u (zF rfl rfl fa73_1 rfl) <| g_u (zX rfl rfl rfl tS71 rfl rfl) <| zH <| zA <| zB <| g_u (zs rfl rfl) <| g_u (yW rfl rfl rfl tA73 tS73 rfl rfl) <| g_u (ze (X0 := z73) rfl Tryd.underlying30 tS73 tZ73 rfl rfl rfl rfl rfl rfl rfl rfl) ?_
        refine g_u (z8 rfl rfl rfl rfl rfl Tryd.underlying30 Tryd.underlying30 tS73 zv73 rfl (by decide) by73 (by (try dsimp only); simp only [List.length_append, List.length_cons, List.length_nil, List.length_map, List.length_take, List.length_drop]; omega) (by (try dsimp only); simp only [List.length_append, List.length_cons, List.length_nil, List.length_map, List.length_take, List.length_drop]; omega)) ?_
        refine g_u (zx rfl rfl) <| zH <| zW <| zA <| zB <| g_u (yK rfl rfl rfl) <| g_u (zC rfl rfl) <| zH <| zA ?_
        refine ⟨i + 1, hi, ⟨rfl, rfl, rfl, yU rfl et.symm, yB rfl et.symm, zd rfl (by rw [z_ (by omega) (by omega)]; rfl), trivial⟩, by (try dsimp only); omega⟩
      · have et : ((l.take (i + 1)).map (yT ks)).map avA = ((l.take i).map (yT ks)).map avA ++ [(nthA l i).av] := by rw [plain_take hi, List.map_append]; simp only [List.map_cons, List.map_nil, xS]; unfold yT; rw [if_neg (by rw [hb2]; decide)]
        refine zY <| zA <| zB <| g_u (zs rfl rfl) <| g_u (yW rfl rfl rfl tA73 tS73 rfl rfl) <| g_u (ze (X0 := z73) rfl Tryd.underlying30 tS73 tZ73 rfl rfl rfl rfl rfl rfl rfl rfl) ?_
        refine g_u (z8 rfl rfl rfl rfl rfl Tryd.underlying30 Tryd.underlying30 tS73 zv73 rfl (by decide) by73 (by (try dsimp only); simp only [List.length_append, List.length_cons, List.length_nil, List.length_map, List.length_take, List.length_drop]; omega) (by (try dsimp only); simp only [List.length_append, List.length_cons, List.length_nil, List.length_map, List.length_take, List.length_drop]; omega)) ?_
        refine g_u (zx rfl rfl) <| zH <| zW <| zA <| zB <| g_u (yK rfl rfl rfl) <| g_u (zC rfl rfl) <| zH <| zA ?_
        refine ⟨i + 1, hi, ⟨rfl, rfl, rfl, yU rfl et.symm, yB rfl et.symm, zd rfl (by rw [z_ (by omega) (by omega)]; rfl), trivial⟩, by (try dsimp only); omega⟩
    · have hin : i = l.length := by have := of_decide_eq_false hb1; (try simp only [List.length_map] at this); omega
      refine zt <| zP <| zP <| zj <| zA <| zD <| zB <| g_u (zs rfl rfl) <| g_u (zx rfl rfl) <| zH <| zA <| zQ ?_
      exact ⟨⟨(rfl : toAV (Al.look _ _) = some _).trans (congrArg some (by (rw [hin, List.take_length]))), rfl⟩, trivial⟩
theorem plainA_yes {ks : List Int} {a : GA} {k : Nat} (h : k < ks.length) (q : (nth ks k 0 == a.val.kind) = true) : (GA.av (yT (ks.take (k + 1)) a)) = .agg [sv (yT (ks.take k) a).key, (xq a.val).av] := by
  have e : (ks.take (k + 1)).any (fun x => x == a.val.kind) = true := by rw [zu (ye (d := 0) h), List.any_append]; simp [q]
  have hk : (yT (ks.take k) a).key = a.key := by unfold yT; split <;> rfl
  rw [hk]; unfold yT; rw [if_pos e]; rfl
theorem plainA_no {ks : List Int} {a : GA} {k : Nat} (h : k < ks.length) (q : (nth ks k 0 == a.val.kind) = false) : yT (ks.take (k + 1)) a = yT (ks.take k) a := by
  have e : (ks.take (k + 1)).any (fun x => x == a.val.kind) = (ks.take k).any (fun x => x == a.val.kind) := by rw [zu (ye (d := 0) h), List.any_append]; simp [q]
  unfold yT; rw [e]
set_option maxHeartbeats 1000000 in
theorem rplainAs_c (l : List GA) (ks : List Int) (ho : ∀ a ∈ l, a.ok) (hw : wtAs l ≤ 10000000) (hk : ks.length ≤ 1000000000) : zo Tryd.prog Γ0 37 [(.sl 7 (l.map avA)), (.sl 1 (ks.map fun x => cv x))] [.sl 7 ((l.map (yT ks)).map avA)] := by
  have hl := yo l
  refine zf Tryd.func37 rfl Tryd.ntmps37 (by kernel_rfl) rfl fun w0 I0 G0 => ?_
  refine zD <| zB <| g_u (zE rfl rfl) <| zH <| zA <| zD <| zB <| g_u (zE rfl rfl) <| zH <| zA <| zD <| zD <| xN 3005 5 7 rfl rfl rfl rfl <| zB <| g_u (zE rfl rfl) <| zH <| zA <| zT ?_
  refine zq (fun i : Nat => [(0, .imm (.sl 7 (l.map avA))), (1, .imm (.sl 1 (ks.map fun x => cv x))), (5, .slg 3005 7 (((l.take i).map (yT ks)).map avA)), (3005, .tok 7 (((l.take i).map (yT ks)).map avA)), (6, .imm (iv (i : Int)))]) (fun i => i ≤ l.length) (fun i => l.length - i) (0) ?_ ⟨rfl, rfl, rfl, rfl, rfl, trivial⟩ ?_
  · exact Nat.zero_le _
  · rintro i h1; have h1 : i ≤ l.length := h1
    refine zD <| zD <| zB <| g_u (zC rfl rfl) <| g_u (zC rfl rfl) <| g_u (zz rfl rfl Tryd.underlying30) <| g_u (yd rfl rfl rfl) <| zH <| zA ?_
    refine zV rfl (fun hb1 => ?_) (fun hb1 => ?_)
    · have hi : i < l.length := by have := of_decide_eq_true hb1; (try simp only [List.length_map] at this); omega
      have gov : (nthA l i).val.ok := ((GA.ok_iff _).1 (ho _ (wR hi))).2
      have gow : (nthA l i).val.wt ≤ 10000000 := by have h1 := wD (wR hi); have h2 := (nthA l i).wt_eq; omega
      refine zY <| zA <| zD <| zT <| zD <| zB <| g_u (zC rfl rfl) <| g_u (zC rfl rfl) ?_
      refine g_u (zJ rfl rfl rfl Tryd.underlying30 tS73 (by omega) (ixA hi)) ?_
      refine g_u (zN rfl rfl tA73 tS73 rfl rfl) <| g_uG (z0 1007 rfl rfl rfl tZ73) rfl <| g_u (zX rfl rfl rfl tS73 rfl rfl) <| zH <| zA <| zD <| zD <| zB <| g_u (zE rfl rfl) <| zH <| zA <| zT ?_
      refine zq (fun k : Nat => [(0, .imm (.sl 7 (l.map avA))), (1, .imm (.sl 1 (ks.map fun x => cv x))), (5, .slg 3005 7 (((l.take i).map (yT ks)).map avA)), (3005, .tok 7 (((l.take i).map (yT ks)).map avA)), (6, .imm (iv (i : Int))), (7, .ptr 1007 0), (1007, .box 73 (.imm (GA.av (yT (ks.take k) (nthA l i))))), (8, .imm (iv (k : Int)))]) (fun k => k ≤ ks.length) (fun k => ks.length - k) (0) ?_ ⟨rfl, rfl, rfl, rfl, rfl, rfl, rfl, rfl, trivial⟩ ?_
      · exact Nat.zero_le _
      · rintro k g1; have g1 : k ≤ ks.length := g1
        refine zD <| zD <| zB <| g_u (zC rfl rfl) <| g_u (zC rfl rfl) <| g_u (zz rfl rfl Tryd.underlying90) <| g_u (yd rfl rfl rfl) <| zH <| zA ?_
        refine zV rfl (fun hb2 => ?_) (fun hb2 => ?_)
        · have hk2 : k < ks.length := by have := of_decide_eq_true hb2; (try simp only [List.length_map] at this); omega
          refine zY <| zA <| zD <| zT <| zD <| yM y6 <| g_u (zC rfl rfl) <| g_u (zC rfl rfl) ?_
          refine g_u (zJ rfl rfl rfl Tryd.underlying90 tS5 (by omega) (u8_nth hk2)) ?_
          refine g_u (zN rfl rfl tA5 tS5 rfl rfl) <| g_u (zC rfl rfl) <| g_u (zC rfl rfl) ?_
          refine g_u (zJ rfl rfl rfl Tryd.underlying30 tS73 (by omega) (ixA hi)) ?_
          refine g_u (zL rfl rfl fa73_1 rfl rfl) <| g_u (zL rfl rfl xn rfl rfl) <| g_u (zN rfl rfl tA5 tS5 rfl rfl) <| g_u (xM rfl rfl rfl) ?_
          refine zH ⟨by kernel_rfl, ?_⟩
          refine zA ?_
          refine zV rfl (fun hb3 => ?_) (fun hb3 => ?_)
          · have ea := (plainA_yes hk2 hb3).symm
            refine zB <| g_u (zC rfl rfl) <| g_u (zC rfl rfl) ?_
            refine g_u (zJ rfl rfl rfl Tryd.underlying30 tS73 (by omega) (ixA hi)) ?_
            refine g_u (zL rfl rfl fa73_1 rfl rfl) <| g_u (zN rfl rfl tA71 tS71 rfl rfl) <| g_u (zR (rplain_c _ gov gow) rfl rfl) <| g_u (zF rfl rfl fa73_1 rfl) <| g_u (zX rfl rfl rfl tS71 rfl rfl) <| zH <| zW <| zA <| aw_pack 1007 rfl rfl <| zB <| g_u (zC rfl rfl) <| g_u (yK rfl rfl rfl) <| g_u (zE rfl rfl) <| zH <| zA ?_
            refine ⟨k + 1, hk2, ⟨rfl, rfl, rfl, rfl, rfl, rfl, look_bimm rfl ea, zd rfl (by rw [z_ (by omega) (by omega)]; rfl), trivial⟩, by (try dsimp only); omega⟩
          · have ea := congrArg GA.av (plainA_no hk2 hb3).symm
            refine zY <| zW <| zA <| zB <| g_u (zC rfl rfl) <| g_u (yK rfl rfl rfl) <| g_u (zE rfl rfl) <| zH <| zA ?_
            refine ⟨k + 1, hk2, ⟨rfl, rfl, rfl, rfl, rfl, rfl, look_bimm rfl ea, zd rfl (by rw [z_ (by omega) (by omega)]; rfl), trivial⟩, by (try dsimp only); omega⟩
        · have hkn : k = ks.length := by have := of_decide_eq_false hb2; (try simp only [List.length_map] at this); omega
          have et : ((l.take (i + 1)).map (yT ks)).map avA = ((l.take i).map (yT ks)).map avA ++ [GA.av (yT (ks.take k) (nthA l i))] := by rw [plain_take hi, List.map_append]; simp only [List.map_cons, List.map_nil, xS]; rw [hkn, List.take_length]
          refine zt <| zP <| zP <| zj <| zA <| zB <| g_u (zs rfl rfl) <| g_u (zG rfl rfl rfl tA73 tS73 rfl rfl) <| g_u (ze (X0 := z73) rfl Tryd.underlying30 tS73 tZ73 rfl rfl rfl rfl rfl rfl rfl rfl) ?_
          refine g_u (z8 rfl rfl rfl rfl rfl Tryd.underlying30 Tryd.underlying30 tS73 zv73 rfl (by decide) by73 (by (try dsimp only); simp only [List.length_append, List.length_cons, List.length_nil, List.length_map, List.length_take, List.length_drop]; omega) (by (try dsimp only); simp only [List.length_append, List.length_cons, List.length_nil, List.length_map, List.length_take, List.length_drop]; omega)) ?_
          refine g_u (zx rfl rfl) <| zH <| zW <| zA <| zB <| g_u (zC rfl rfl) <| g_u (yK rfl rfl rfl) <| g_u (zE rfl rfl) <| zH <| zA ?_
          refine ⟨i + 1, hi, ⟨rfl, rfl, yU rfl et.symm, yB rfl et.symm, zd rfl (by rw [z_ (by omega) (by omega)]; rfl), trivial⟩, by (try dsimp only); omega⟩
    · have hin : i = l.length := by have := of_decide_eq_false hb1; (try simp only [List.length_map] at this); omega
      refine zt <| zP <| zP <| zj <| zA <| zD <| zB <| g_u (zs rfl rfl) <| g_u (zx rfl rfl) <| zH <| zA <| zQ ?_
      exact ⟨⟨(rfl : toAV (Al.look _ _) = some _).trans (congrArg some (by (rw [hin, List.take_length]))), rfl⟩, trivial⟩
end Go.Proofs
namespace Go.Proofs
open Go Go.Al
set_option maxRecDepth 10000
set_option maxHeartbeats 1000000 in
theorem rsameAs_st (a b : List GA) (hl : a.length ≤ 1000000000) (ih : ∀ x ∈ a, ∀ y : GV, zo Tryd.prog Γ0 52 [x.val.av, y.av] [bv (sameV x.val y)]) : zo Tryd.prog Γ0 27 [.sl 7 (a.map avA), .sl 7 (b.map avA)] [bv (sameAs a b)] := by
  refine zf Tryd.func27 rfl Tryd.ntmps27 (by kernel_rfl) rfl fun w0 I0 G0 => ?_
  refine zD <| zB <| g_u (zE rfl rfl) <| zH <| zA <| zD <| zD <| zB <| g_u (zC rfl rfl) <| g_u (zz rfl rfl Tryd.underlying30) <| g_u (zC rfl rfl) <| g_u (zz rfl rfl Tryd.underlying30) <| g_u (s_neI rfl rfl rfl) <| zH <| zA ?_
  refine zV rfl (fun hb1 => ?_) (fun hb1 => ?_)
  · have q : ¬ a.length = b.length := by have e := qc.1 hb1; simp only [List.length_map] at e; omega
    refine zD <| zB <| g_u (zE rfl rfl) <| zH <| zA <| zQ <| zM ?_
    exact ⟨⟨(rfl : toAV (Al.look _ _) = some _).trans (congrArg some (by (exact congrArg bv (by first | exact (sameAs_ne (fun e => q (by rw [e]))).symm | exact ((y3 _ _).2 (zy a0 el (fun j hj => h2 j (by omega)))).symm)))), rfl⟩, trivial⟩
  · have el : a.length = b.length := by have e := qd.1 hb1; simp only [List.length_map] at e; omega
    refine zY <| zA <| zD <| zD <| zB <| g_u (zE rfl rfl) <| zH <| zA <| zT ?_
    refine zq (fun i : Nat => [(0, .imm (.sl 7 (a.map avA))), (1, .imm (.sl 7 (b.map avA))), (5, .imm (iv (i : Int)))]) (fun i => i ≤ a.length ∧ ∀ j, j < i → nth a j a0 = nth b j a0) (fun i => a.length - i) (0) ?_ ⟨rfl, rfl, rfl, trivial⟩ ?_
    · exact ⟨Nat.zero_le _, fun j h => absurd h (Nat.not_lt_zero _)⟩
    · rintro i ⟨h1, h2⟩; (try dsimp only at h1 h2)
      refine zD <| zD <| zB <| g_u (zC rfl rfl) <| g_u (zC rfl rfl) <| g_u (zz rfl rfl Tryd.underlying30) <| g_u (yd rfl rfl rfl) <| zH <| zA ?_
      refine zV rfl (fun hb2 => ?_) (fun hb2 => ?_)
      · have hi : i < a.length := by have := of_decide_eq_true hb2; (try simp only [List.length_map] at this); omega
        have hib : i < b.length := by omega
        refine zY <| zA <| zD <| zT <| zD <| yM y6 <| g_u (zC rfl rfl) <| g_u (zC rfl rfl) ?_
        refine g_u (zJ rfl rfl rfl Tryd.underlying30 tS73 (by omega) (ixA hi)) ?_
        refine g_u (zL rfl rfl wq rfl rfl) <| g_u (zN rfl rfl tA9 tS9 rfl rfl) <| g_u (zC rfl rfl) <| g_u (zC rfl rfl) ?_
        refine g_u (zJ rfl rfl rfl Tryd.underlying30 tS73 (by omega) (ixA hib)) ?_
        refine g_u (zL rfl rfl wq rfl rfl) <| g_u (zN rfl rfl tA9 tS9 rfl rfl) <| g_u (s_neS rfl rfl rfl) <| g_u (zC rfl rfl) <| yL (t := 28) rfl ?_
        rintro (hb3 | hb3)
        · rw [hb3]
          have q : ¬ (nthA a i).key = (nthA b i).key := by have e := hb3; rw [yg] at e; simpa using e
          refine zI rfl rfl rfl <| zI rfl rfl rfl <| zI rfl rfl rfl <| zI rfl rfl rfl <| zI rfl rfl rfl <| zI rfl rfl rfl <| zI rfl rfl rfl <| zI rfl rfl rfl <| zI rfl rfl rfl <| zI rfl rfl rfl <| zI rfl rfl rfl <| zI rfl rfl rfl <| g_u (zZ rfl rfl rfl) ?_
          refine zH ⟨by kernel_rfl, ?_⟩
          refine zA <| zg rfl <| zD <| zB <| g_u (zE rfl rfl) <| zH <| zA <| zQ <| zp <| zM <| zM <| zp <| zM ?_
          exact ⟨⟨(rfl : toAV (Al.look _ _) = some _).trans (congrArg some (by (exact congrArg bv (by first | exact (sameAs_ne (fun e => q (by rw [e]))).symm | exact ((y3 _ _).2 (zy a0 el (fun j hj => h2 j (by omega)))).symm)))), rfl⟩, trivial⟩
        · rw [hb3]
          have ek : (nthA a i).key = (nthA b i).key := by have e := hb3; rw [yg] at e; simpa using e
          refine zO rfl rfl (zC rfl rfl) <| zO rfl rfl (zC rfl rfl) ?_
          refine zO rfl rfl (zJ rfl rfl rfl Tryd.underlying30 tS73 (by omega) (ixA hi)) ?_
          refine zO rfl rfl (zL rfl rfl fa73_1 rfl rfl) <| zO rfl rfl (zN rfl rfl tA71 tS71 rfl rfl) <| zO rfl rfl (zC rfl rfl) <| zO rfl rfl (zC rfl rfl) ?_
          refine zO rfl rfl (zJ rfl rfl rfl Tryd.underlying30 tS73 (by omega) (ixA hib)) ?_
          refine zO rfl rfl (zL rfl rfl fa73_1 rfl rfl) <| zO rfl rfl (zN rfl rfl tA71 tS71 rfl rfl) <| zO rfl rfl (zR (ih _ (wR hi) _) rfl rfl) <| zO rfl rfl (s_not rfl rfl) <| g_u (zr rfl rfl rfl) ?_
          refine zH ⟨by kernel_rfl, ?_⟩
          refine zA ?_
          refine zV rfl (fun hb4 => ?_) (fun hb4 => ?_)
          · have q : ¬ (nthA a i).val = (nthA b i).val := fun h => by have e := hb4; rw [h, sameV_refl] at e; cases e
            refine zD <| zB <| g_u (zE rfl rfl) <| zH <| zA <| zQ <| zp <| zM <| zM <| zp <| zM ?_
            exact ⟨⟨(rfl : toAV (Al.look _ _) = some _).trans (congrArg some (by (exact congrArg bv (by first | exact (sameAs_ne (fun e => q (by rw [e]))).symm | exact ((y3 _ _).2 (zy a0 el (fun j hj => h2 j (by omega)))).symm)))), rfl⟩, trivial⟩
          · have ev : (nthA a i).val = (nthA b i).val := (sameV_iff _ _).1 (by have e := hb4; simpa using e)
            refine zY <| zW <| zA <| zB <| g_u (zC rfl rfl) <| g_u (yK rfl rfl rfl) <| g_u (zE rfl rfl) <| zH <| zA ?_
            refine ⟨i + 1, ⟨hi, fun j hj => by rcases Nat.lt_or_ge j i with h | h; exact h2 j h; rw [show j = i by omega]; exact GA.ext' ek ev⟩, ⟨rfl, rfl, zd rfl (by rw [z_ (by omega) (by omega)]; rfl), trivial⟩, by (try dsimp only); omega⟩
      · have hin : i = a.length := by have := of_decide_eq_false hb2; (try simp only [List.length_map] at this); omega
        refine zt <| zP <| zP <| zj <| zA <| zD <| zB <| g_u (zE rfl rfl) <| zH <| zA <| zQ ?_
        exact ⟨⟨(rfl : toAV (Al.look _ _) = some _).trans (congrArg some (by (exact congrArg bv (by first | exact (sameAs_ne (fun e => q (by rw [e]))).symm | exact ((y3 _ _).2 (zy a0 el (fun j hj => h2 j (by omega)))).symm)))), rfl⟩, trivial⟩
set_option maxHeartbeats 2000000 in
theorem rsameV_st (a b : GV) (hl : a.list.length ≤ 1000000000) (ih : ∀ x ∈ a.list, ∀ y : GV, zo Tryd.prog Γ0 52 [x.av, y.av] [bv (sameV x y)]) (ihm : zo Tryd.prog Γ0 27 [.sl 7 (a.map.map avA), .sl 7 (b.map.map avA)] [bv (sameAs a.map b.map)]) : zo Tryd.prog Γ0 52 [a.av, b.av] [bv (sameV a b)] := by
  refine zf Tryd.func52 rfl Tryd.ntmps52 (by kernel_rfl) rfl fun w0 I0 G0 => ?_
  refine zD <| zB <| g_uG (zn 1002 rfl rfl rfl rfl) rfl <| g_uG (zn 1003 rfl rfl rfl rfl) rfl <| g_u (zE rfl rfl) <| zH <| zA <| zD <| zD <| zB <| g_u (zF rfl rfl xn rfl) <| g_u (zG rfl rfl rfl tA5 tS5 rfl rfl) <| g_u (zF rfl rfl xn rfl) <| g_u (zG rfl rfl rfl tA5 tS5 rfl rfl) <| g_u (s_neI rfl rfl rfl) <| g_u (zC rfl rfl) <| yL (t := 11) rfl ?_
  rintro (hb1 | hb1)
  · rw [hb1]
    have q : ¬ a.kind = b.kind := qc.1 hb1
    refine zI rfl rfl rfl <| zI rfl rfl rfl <| zI rfl rfl rfl <| zI rfl rfl rfl <| zI rfl rfl rfl <| g_u (zZ rfl rfl rfl) <| g_u (zC rfl rfl) <| zI rfl rfl rfl <| zI rfl rfl rfl <| zI rfl rfl rfl <| zI rfl rfl rfl <| zI rfl rfl rfl <| g_u (zZ rfl rfl rfl) <| g_u (zC rfl rfl) <| zI rfl rfl rfl <| zI rfl rfl rfl <| zI rfl rfl rfl <| zI rfl rfl rfl <| zI rfl rfl rfl <| g_u (zZ rfl rfl rfl) <| g_u (zC rfl rfl) <| zI rfl rfl rfl <| zI rfl rfl rfl <| zI rfl rfl rfl <| zI rfl rfl rfl <| zI rfl rfl rfl <| zI rfl rfl rfl <| zI rfl rfl rfl <| g_u (zZ rfl rfl rfl) <| zH <| zA <| zg rfl <| zD <| zB <| g_u (zE rfl rfl) <| zH <| zA <| zQ <| zM ?_
    exact ⟨⟨(rfl : toAV (Al.look _ _) = some _).trans (congrArg some (by (exact congrArg bv (by first | exact (sameV_ne (fun e => q (by rw [e]))).symm | exact sameV_map e1 e2 e3 e4 (zy v0 e5 (fun j hj => h2 j (by omega))))))), rfl⟩, trivial⟩
  · rw [hb1]
    have e1 : a.kind = b.kind := qd.1 hb1
    refine zO rfl rfl (zF rfl rfl fa71_1 rfl) <| zO rfl rfl (zG rfl rfl rfl tA9 tS9 rfl rfl) <| zO rfl rfl (zF rfl rfl fa71_1 rfl) <| zO rfl rfl (zG rfl rfl rfl tA9 tS9 rfl rfl) <| zO rfl rfl (s_neS rfl rfl rfl) <| g_u (zr rfl rfl rfl) <| g_u (zC rfl rfl) <| yL (t := 18) rfl ?_
    rintro (hb2 | hb2)
    · rw [hb2]
      have q : ¬ a.text = b.text := by have e := hb2; rw [yg] at e; simpa using e
      refine zI rfl rfl rfl <| zI rfl rfl rfl <| zI rfl rfl rfl <| zI rfl rfl rfl <| zI rfl rfl rfl <| g_u (zZ rfl rfl rfl) <| g_u (zC rfl rfl) <| zI rfl rfl rfl <| zI rfl rfl rfl <| zI rfl rfl rfl <| zI rfl rfl rfl <| zI rfl rfl rfl <| g_u (zZ rfl rfl rfl) <| g_u (zC rfl rfl) <| zI rfl rfl rfl <| zI rfl rfl rfl <| zI rfl rfl rfl <| zI rfl rfl rfl <| zI rfl rfl rfl <| zI rfl rfl rfl <| zI rfl rfl rfl <| g_u (zZ rfl rfl rfl) <| zH <| zA <| zg rfl <| zD <| zB <| g_u (zE rfl rfl) <| zH <| zA <| zQ <| zM ?_
      exact ⟨⟨(rfl : toAV (Al.look _ _) = some _).trans (congrArg some (by (exact congrArg bv (by first | exact (sameV_ne (fun e => q (by rw [e]))).symm | exact sameV_map e1 e2 e3 e4 (zy v0 e5 (fun j hj => h2 j (by omega))))))), rfl⟩, trivial⟩
    · rw [hb2]
      have e2 : a.text = b.text := by have e := hb2; rw [yg] at e; simpa using e
      refine zO rfl rfl (zF rfl rfl fa71_2 rfl) <| zO rfl rfl (zG rfl rfl rfl tA3 tS3 rfl rfl) <| zO rfl rfl (zF rfl rfl fa71_2 rfl) <| zO rfl rfl (zG rfl rfl rfl tA3 tS3 rfl rfl) <| zO rfl rfl (s_neI rfl rfl rfl) <| g_u (zr rfl rfl rfl) <| g_u (zC rfl rfl) <| yL (t := 25) rfl ?_
      rintro (hb3 | hb3)
      · rw [hb3]
        have q : ¬ a.num = b.num := qc.1 hb3
        refine zI rfl rfl rfl <| zI rfl rfl rfl <| zI rfl rfl rfl <| zI rfl rfl rfl <| zI rfl rfl rfl <| g_u (zZ rfl rfl rfl) <| g_u (zC rfl rfl) <| zI rfl rfl rfl <| zI rfl rfl rfl <| zI rfl rfl rfl <| zI rfl rfl rfl <| zI rfl rfl rfl <| zI rfl rfl rfl <| zI rfl rfl rfl <| g_u (zZ rfl rfl rfl) <| zH <| zA <| zg rfl <| zD <| zB <| g_u (zE rfl rfl) <| zH <| zA <| zQ <| zM ?_
        exact ⟨⟨(rfl : toAV (Al.look _ _) = some _).trans (congrArg some (by (exact congrArg bv (by first | exact (sameV_ne (fun e => q (by rw [e]))).symm | exact sameV_map e1 e2 e3 e4 (zy v0 e5 (fun j hj => h2 j (by omega))))))), rfl⟩, trivial⟩
      · rw [hb3]
        have e3 : a.num = b.num := qd.1 hb3
        refine zO rfl rfl (zF rfl rfl fa71_3 rfl) <| zO rfl rfl (zG rfl rfl rfl tA29 tS29 rfl rfl) <| zO rfl rfl (zF rfl rfl fa71_3 rfl) <| zO rfl rfl (zG rfl rfl rfl tA29 tS29 rfl rfl) <| zO rfl rfl (s_neI rfl rfl rfl) <| g_u (zr rfl rfl rfl) <| g_u (zC rfl rfl) <| yL (t := 32) rfl ?_
        rintro (hb4 | hb4)
        · rw [hb4]
          have q : ¬ a.bits = b.bits := qc.1 hb4
          refine zI rfl rfl rfl <| zI rfl rfl rfl <| zI rfl rfl rfl <| zI rfl rfl rfl <| zI rfl rfl rfl <| zI rfl rfl rfl <| zI rfl rfl rfl <| g_u (zZ rfl rfl rfl) <| zH <| zA <| zg rfl <| zD <| zB <| g_u (zE rfl rfl) <| zH <| zA <| zQ <| zM ?_
          exact ⟨⟨(rfl : toAV (Al.look _ _) = some _).trans (congrArg some (by (exact congrArg bv (by first | exact (sameV_ne (fun e => q (by rw [e]))).symm | exact sameV_map e1 e2 e3 e4 (zy v0 e5 (fun j hj => h2 j (by omega))))))), rfl⟩, trivial⟩
        · rw [hb4]
          have e4 : a.bits = b.bits := qd.1 hb4
          refine zO rfl rfl (zF rfl rfl fa71_4 rfl) <| zO rfl rfl (zG rfl rfl rfl tA69 tS69 rfl rfl) <| zO rfl rfl (zz rfl rfl Tryd.underlying69) <| zO rfl rfl (zF rfl rfl fa71_4 rfl) <| zO rfl rfl (zG rfl rfl rfl tA69 tS69 rfl rfl) <| zO rfl rfl (zz rfl rfl Tryd.underlying69) <| zO rfl rfl (s_neI rfl rfl rfl) <| g_u (zr rfl rfl rfl) <| zH <| zA ?_
          refine zV rfl (fun hb5 => ?_) (fun hb5 => ?_)
          · have q : ¬ a.list.length = b.list.length := by have e := qc.1 hb5; simp only [List.length_map] at e; omega
            refine zD <| zB <| g_u (zE rfl rfl) <| zH <| zA <| zQ <| zM ?_
            exact ⟨⟨(rfl : toAV (Al.look _ _) = some _).trans (congrArg some (by (exact congrArg bv (by first | exact (sameV_ne (fun e => q (by rw [e]))).symm | exact sameV_map e1 e2 e3 e4 (zy v0 e5 (fun j hj => h2 j (by omega))))))), rfl⟩, trivial⟩
          · have e5 : a.list.length = b.list.length := by have e := qd.1 hb5; simp only [List.length_map] at e; omega
            refine zY <| zA <| zD <| zD <| zB <| g_u (zE rfl rfl) <| zH <| zA <| zT ?_
            refine zq (fun i : Nat => [(2, .ptr 1002 0), (1002, .box 71 (.imm a.av)), (3, .ptr 1003 0), (1003, .box 71 (.imm b.av)), (5, .imm (iv (i : Int)))]) (fun i => i ≤ a.list.length ∧ ∀ j, j < i → nth a.list j v0 = nth b.list j v0) (fun i => a.list.length - i) (0) ?_ ⟨rfl, rfl, rfl, rfl, rfl, trivial⟩ ?_
            · exact ⟨Nat.zero_le _, fun j h => absurd h (Nat.not_lt_zero _)⟩
            · rintro i ⟨h1, h2⟩; (try dsimp only at h1 h2)
              refine zD <| zD <| zB <| g_u (zC rfl rfl) <| g_u (zF rfl rfl fa71_4 rfl) <| g_u (zG rfl rfl rfl tA69 tS69 rfl rfl) <| g_u (zz rfl rfl Tryd.underlying69) <| g_u (yd rfl rfl rfl) <| zH <| zA ?_
              refine zV rfl (fun hb6 => ?_) (fun hb6 => ?_)
              · have hi : i < a.list.length := by have := of_decide_eq_true hb6; (try simp only [List.length_map] at this); omega
                have hib : i < b.list.length := by omega
                refine zY <| zA <| zD <| zT <| zD <| yM y6 <| g_u (zF rfl rfl fa71_4 rfl) <| g_u (zG rfl rfl rfl tA69 tS69 rfl rfl) <| g_u (zC rfl rfl) ?_
                refine g_u (zJ rfl rfl rfl Tryd.underlying69 tS71 (by omega) (ixV hi)) ?_
                refine g_u (zN rfl rfl tA71 tS71 rfl rfl) <| g_u (zF rfl rfl fa71_4 rfl) <| g_u (zG rfl rfl rfl tA69 tS69 rfl rfl) <| g_u (zC rfl rfl) ?_
                refine g_u (zJ rfl rfl rfl Tryd.underlying69 tS71 (by omega) (ixV hib)) ?_
                refine g_u (zN rfl rfl tA71 tS71 rfl rfl) <| g_u (zR (ih _ (nthV_mem hi) _) rfl rfl) <| g_u (s_not rfl rfl) ?_
                refine zH ⟨by kernel_rfl, ?_⟩
                refine zA ?_
                refine zV rfl (fun hb7 => ?_) (fun hb7 => ?_)
                · have q : ¬ nthV a.list i = nthV b.list i := fun h => by have e := hb7; rw [h, sameV_refl] at e; cases e
                  refine zD <| zB <| g_u (zE rfl rfl) <| zH <| zA <| zQ <| zp <| zM <| zM <| zp <| zM ?_
                  exact ⟨⟨(rfl : toAV (Al.look _ _) = some _).trans (congrArg some (by (exact congrArg bv (by first | exact (sameV_ne (fun e => q (by rw [e]))).symm | exact sameV_map e1 e2 e3 e4 (zy v0 e5 (fun j hj => h2 j (by omega))))))), rfl⟩, trivial⟩
                · have ev : nthV a.list i = nthV b.list i := (sameV_iff _ _).1 (by have e := hb7; simpa using e)
                  refine zY <| zW <| zA <| zB <| g_u (zC rfl rfl) <| g_u (yK rfl rfl rfl) <| g_u (zE rfl rfl) <| zH <| zA ?_
                  refine ⟨i + 1, ⟨hi, fun j hj => by rcases Nat.lt_or_ge j i with h | h; exact h2 j h; rw [show j = i by omega]; exact ev⟩, ⟨rfl, rfl, rfl, rfl, zd rfl (by rw [z_ (by omega) (by omega)]; rfl), trivial⟩, by (try dsimp only); omega⟩
              · have hin : i = a.list.length := by have := of_decide_eq_false hb6; (try simp only [List.length_map] at this); omega
                refine zt <| zP <| zP <| zj <| zA <| zD <| zB <| g_u (zF rfl rfl fa71_5 rfl) <| g_u (zG rfl rfl rfl tA30 tS30 rfl rfl) <| g_u (zF rfl rfl fa71_5 rfl) <| g_u (zG rfl rfl rfl tA30 tS30 rfl rfl) <| g_u (zR (ihm) rfl rfl) <| g_u (zE rfl rfl) <| zH <| zA <| zQ ?_
                exact ⟨⟨(rfl : toAV (Al.look _ _) = some _).trans (congrArg some (by (exact congrArg bv (by first | exact (sameV_ne (fun e => q (by rw [e]))).symm | exact sameV_map e1 e2 e3 e4 (zy v0 e5 (fun j hj => h2 j (by omega))))))), rfl⟩, trivial⟩
theorem rsameV_c (a : GV) : a.wt ≤ 1000000000 → ∀ b : GV, zo Tryd.prog Γ0 52 [a.av, b.av] [bv (sameV a b)] := by
  refine GV.ind (P := fun a => a.wt ≤ 1000000000 → ∀ b : GV, zo Tryd.prog Γ0 52 [a.av, b.av] [bv (sameV a b)]) ?_ a
  intro a h1 h2 hw b
  have ek := a.wt_eq
  have la := yo a.map
  have lv := xW a.list
  exact rsameV_st a b (by omega) (fun x hx => h1 x hx (by have := wtVs_mem hx; omega)) (rsameAs_st a.map b.map (by omega) fun x hx => h2 x hx (by have := wD hx; have := x.wt_eq; omega))
theorem rsameAs_c (a b : List GA) (hw : wtAs a ≤ 1000000000) : zo Tryd.prog Γ0 27 [.sl 7 (a.map avA), .sl 7 (b.map avA)] [bv (sameAs a b)] := by
  have la := yo a
  exact rsameAs_st a b (by omega) fun x hx => rsameV_c x.val (by have := wD hx; have := x.wt_eq; omega)
set_option maxHeartbeats 2000000 in
theorem putA_c (l : List GA) (k : ByteArray) (v : GV) (hr : risA none l) (hl : l.length ≤ 10000000) : zo Tryd.prog Γ0 85 [(.sl 7 (l.map avA)), sv k, v.av] [.sl 7 ((xp l (.mk k v)).map avA)] := by
  have hp := posA_le l k
  have hML : ((l.take (posA l k)).map avA).length = posA l k := by rw [List.length_map, List.length_take]; omega
  have hRL := restA_len l k
  refine zf Tryd.func85 rfl Tryd.ntmps85 (by kernel_rfl) rfl fun w0 I0 G0 => ?_
  refine zD <| zB <| g_uG (zn 1005 rfl rfl rfl rfl) rfl <| g_u (zE rfl rfl) <| zH <| zA <| zD <| zB <| g_u (zC rfl rfl) <| g_u (zC rfl rfl) ?_
  refine g_u (w_ (find_c l k hr (by omega)) rfl rfl) ?_
  refine g_u (xV rfl rfl) <| g_u (zi rfl rfl rfl rfl) <| g_u (zi rfl rfl rfl rfl) <| g_u (zE rfl rfl) <| g_u (zE rfl rfl) <| zH <| zA <| zD <| zB <| g_u (zC rfl rfl) <| g_u (zC rfl rfl) ?_
  refine g_u (s_slL_l (posA l k) rfl rfl rfl Tryd.underlying30 tS73 rfl (by rw [List.length_map]; omega)) ?_
  refine g_u (zE rfl rfl) <| zH <| zA <| zD <| zD <| zB <| g_u (zC rfl rfl) <| zH <| zA ?_
  refine aw_cut' (fun _ : Unit => [(0, .imm (.sl 7 (l.map avA))), (1, .imm (sv k)), (5, .ptr 1005 0), (1005, .box 71 (.imm v.av)), (7, .imm (iv (posA l k : Nat))), (9, .imm (.sl 7 ((restA l k).map avA)))]) (fun _ => True) ?_ ?_
  · refine zV rfl (fun hb1 => ?_) (fun hb1 => ?_)
    · have hh : hasA l k = true := hb1
      have hpl : posA l k < l.length := by unfold hasA at hh; simp at hh; exact hh.1
      refine zB <| g_u (zC rfl rfl) <| g_u (zC rfl rfl) <| g_u (yK rfl rfl rfl) ?_
      refine g_u (s_slL_l (posA l k + 1) rfl rfl rfl Tryd.underlying30 tS73 (by rw [z_ (by omega) (by omega)]; omega) (by rw [List.length_map]; omega)) ?_
      refine g_u (zE rfl rfl) <| zH <| zA ?_
      exact ⟨(), trivial, ⟨rfl, rfl, rfl, rfl, rfl, look_imm rfl (by first | (rw [restA_yes hh]; simp only [List.take_length, List.map_drop]; done) | (rw [restA_no hh]; simp only [List.take_length, List.map_drop]; done)), trivial⟩⟩
    · have hh : hasA l k = false := hb1
      refine zY <| zA ?_
      exact ⟨(), trivial, ⟨rfl, rfl, rfl, rfl, rfl, look_imm rfl (by first | (rw [restA_yes hh]; simp only [List.take_length, List.map_drop]; done) | (rw [restA_no hh]; simp only [List.take_length, List.map_drop]; done)), trivial⟩⟩
  · rintro _ hc
    refine zD <| zB <| g_u (zC rfl rfl) <| g_u (yK rfl rfl rfl) <| g_u (zC rfl rfl) <| g_u (zz rfl rfl Tryd.underlying30) <| g_u (yK rfl rfl rfl) ?_
    refine g_uG (s_makeSlice 1030 (X0 := z73) (len := (posA l k + 1 + (restA l k).length)) (cap := (posA l k + 1 + (restA l k).length)) rfl rfl rfl rfl rfl (by rw [List.length_map, z_ (n := (posA l k : Int) + 1) (by omega) (by omega), z_ (by omega) (by omega)]; omega) (by rw [List.length_map, z_ (n := (posA l k : Int) + 1) (by omega) (by omega), z_ (by omega) (by omega)]; omega) Tryd.underlying30 tS73 tZ73 rfl rfl by73 (Nat.le_refl _) (by omega) (by omega)) rfl ?_
    refine g_u (s_as_osl rfl rfl) <| zH <| zA <| zD ?_
    refine aw_cut' (fun _ : Unit => [(0, .imm (.sl 7 (l.map avA))), (1, .imm (sv k)), (5, .ptr 1005 0), (1005, .box 71 (.imm v.av)), (7, .imm (iv (posA l k : Nat))), (9, .imm (.sl 7 ((restA l k).map avA))), (10, .osl 1030 0 (posA l k + 1 + (restA l k).length) (posA l k + 1 + (restA l k).length)), (1030, .box 73 (.imm (.agg (((l.take (posA l k)).map avA) ++ (List.replicate (1 + (restA l k).length) z73)))))]) (fun _ => True) ?_ ?_
    · refine zB ?_
      refine g_u (s_mv_osl rfl rfl) <| g_u (zC rfl rfl) <| g_u (zC rfl rfl) ?_
      refine g_u (s_slL_h (posA l k) rfl rfl rfl Tryd.underlying30 tS73 rfl (by rw [List.length_map]; omega)) ?_
      refine g_u (s_copy_in (el := 73) (el' := 0) (T1 := 0) rfl rfl rfl rfl rfl Tryd.underlying30 tS73 (by intro x hx; rw [List.eq_of_mem_replicate hx]; rfl) (by rw [List.length_replicate]; omega)) ?_
      refine zH <| zA ?_
      exact ⟨(), trivial, ⟨rfl, rfl, rfl, rfl, rfl, rfl, rfl, look_bagg rfl ((row1 (p := posA l k) (r := (restA l k).length) (by simp only [List.length_drop, List.length_take, List.length_map]; omega) rfl).trans (by rw [List.drop_zero, ← List.map_take])), trivial⟩⟩
    · rintro _ hc
      refine zD ?_
      refine aw_cut' (fun _ : Unit => [(0, .imm (.sl 7 (l.map avA))), (1, .imm (sv k)), (5, .ptr 1005 0), (1005, .box 71 (.imm v.av)), (7, .imm (iv (posA l k : Nat))), (9, .imm (.sl 7 ((restA l k).map avA))), (10, .osl 1030 0 (posA l k + 1 + (restA l k).length) (posA l k + 1 + (restA l k).length)), (1030, .box 73 (.imm (.agg (((l.take (posA l k)).map avA) ++ (GA.mk k v).av :: (List.replicate (restA l k).length z73)))))]) (fun _ => True) ?_ ?_
      · refine zB ?_
        refine g_u (s_mv_osl rfl rfl) <| g_u (zC rfl rfl) <| g_u (zC rfl rfl) <| g_u (zG rfl rfl rfl tA71 tS71 rfl rfl) <| g_u (yh rfl tU73 us73 pl73 rfl rfl rfl rfl) ?_
        refine g_u (s_ixOsl (i := (posA l k)) rfl rfl rfl Tryd.underlying30 tS73 rfl (by omega)) ?_
        refine g_u (s_storeElt rfl rfl rfl tS73 (widths_mem (avA_w _) rfl _) rfl (by simp only [List.length_append, List.length_replicate, hML]; omega)) ?_
        refine zH <| zA ?_
        exact ⟨(), trivial, ⟨rfl, rfl, rfl, rfl, rfl, rfl, rfl, look_bagg rfl (row2 hML), trivial⟩⟩
      · rintro _ hc
        refine zD <| zB <| g_u (s_mv_osl rfl rfl) <| g_u (zC rfl rfl) <| g_u (yK rfl rfl rfl) ?_
        refine g_u (s_slOsl (lo := (posA l k + 1)) rfl rfl rfl Tryd.underlying30 tS73 (by rw [z_ (by omega) (by omega)]; omega) (by omega)) ?_
        refine g_u (zC rfl rfl) ?_
        refine g_u (s_copy_at (el := 73) (o := (if (posA l k + 1 + (restA l k).length) = posA l k + 1 then 0 else posA l k + 1)) (fun _ _ => trivial) rfl rfl rfl rfl Tryd.underlying30 tS73 rfl (by split <;> simp) (rowW rfl _ _ _) (by simp only [List.length_append, List.length_cons, List.length_replicate, hML]; split <;> omega)) ?_
        refine zH <| zA ?_
        refine aw_freezeW 1030 3030 7 (((l.take (posA l k)).map avA) ++ (GA.mk k v).av :: (restA l k).map avA) [(10, .slg 3030 7 (((l.take (posA l k)).map avA) ++ (GA.mk k v).av :: (restA l k).map avA))] rfl rfl rfl rfl rfl rfl rfl ⟨.inr (.inl ⟨rfl, rfl⟩), trivial⟩ ?_ ?_ (Nat.le_refl _) (by unfold maxLen; omega) ?_ ?_
        · rw [row3 hML (List.length_map _) rfl]; exact rowW2 _ _ _
        · rw [row3 hML (List.length_map _) rfl]; simp only [List.length_append, List.length_cons, hML, List.length_map]; omega
        · rw [row3 hML (List.length_map _) rfl]; exact List.take_of_length_le (by simp only [List.length_append, List.length_cons, hML, List.length_map]; omega)
        refine zD <| zB <| g_u (zs rfl rfl) <| g_u (zx rfl rfl) <| zH <| zA <| zQ ?_
        exact ⟨⟨(rfl : toAV (Al.look _ _) = some _).trans (congrArg some (by (exact congrArg (AV.sl 7) (into_row k v)))), rfl⟩, trivial⟩
end Go.Proofs
namespace Go.Proofs
open Go Go.Al
set_option maxRecDepth 10000
theorem getA_into (l : List GA) (k : ByteArray) (v : GV) : ∀ p : Option ByteArray, risA p l → getA (xp l (.mk k v)) k = some v := by
  induction l with
  | nil => intro p _; simp [xp, getA, GA.key_mk, GA.val_mk]
  | cons x l ih =>
    intro p h
    rw [xp]
    split
    · rename_i hl
      have hne : x.key ≠ k := by rintro rfl; rw [GA.key_mk, ltB_irrefl] at hl; cases hl
      rw [getA, if_neg hne]; exact ih _ h.2
    · split <;> simp [getA, GA.key_mk, GA.val_mk]
theorem dropA_wt (ks : List ByteArray) : ∀ l : List GA, wtAs (yu ks l) ≤ wtAs l
  | [] => Nat.le_refl _
  | x :: l => by rw [yu]; have := dropA_wt ks l; split <;> simp only [wtAs] <;> omega
theorem plainA_ok {ks : List Int} {a : GA} (ho : a.ok) (hw : a.wt ≤ 1000000) : (yT ks a).ok := by
  unfold yT
  have ha := (GA.ok_iff a).1 ho
  have := a.wt_eq
  split
  · exact (GA.ok_iff _).2 ⟨ha.1, plainV_ok ha.2 (by omega)⟩
  · exact ho
theorem plainV_plain (v : GV) : xq (xq v) = xq v := by
  have : vD (xq v) = vD v := textB_plain v
  show GV.mk 1 (vD (xq v)) 0 0 [] [] = xq v
  rw [this]; rfl
theorem plainA_idem (ks : List Int) (a : GA) : yT ks (yT ks a) = yT ks a := by
  cases h : ks.any (fun k => k == a.val.kind)
  · have e : yT ks a = a := by unfold yT; rw [if_neg (by rw [h]; decide)]
    rw [e, e]
  · have e : yT ks a = .mk a.key (xq a.val) := by unfold yT; rw [if_pos h]
    rw [e]; unfold yT
    split
    · rw [GA.val_mk, GA.key_mk, plainV_plain]
    · rfl
end Go.Proofs
namespace Go.Proofs
open Go Go.Al
structure Rg where
  lo : Int
  hi : Int
def Rg.av (r : Rg) : AV := .agg [.v (.int .u64 r.lo), .v (.int .u64 r.hi)]
def vM (r : Rg) : Int := if r.hi > 9223372036854775807 ∨ r.lo > r.hi then 11 else 0
def begunM (r : Rg) : Int := IntKind.u64.wrap (r.lo.tdiv 1000)
def lastsM (r : Rg) : Int := IntKind.u64.wrap ((IntKind.u64.wrap (r.hi - r.lo)).tdiv 1000)
def microsM (m : Int) (r : Rg) : Int := if vM r = 0 then IntKind.i64.wrap m else 0
def nanoV (us : Int) : Int := if us < 0 ∨ us > 9223372036854775 then 0 else IntKind.u64.wrap (IntKind.u64.wrap us * 1000)
def nanoC (us : Int) : Int := if us < 0 ∨ us > 9223372036854775 then 11 else 0
def microM (ns : Int) : Int := IntKind.i64.wrap (IntKind.u64.wrap (ns.tdiv 1000))
def xC (b l : Int) : Prop := nanoC b ≠ 0 ∨ nanoC l ≠ 0 ∨ nanoV l > IntKind.u64.wrap (9223372036854775807 - nanoV b)
instance (b l : Int) : Decidable (xC b l) := by unfold xC; infer_instance
def ofR (b l : Int) : Rg := if xC b l then ⟨0, 0⟩ else ⟨nanoV b, IntKind.u64.wrap (nanoV b + nanoV l)⟩
def ofC (b l : Int) : Int := if xC b l then 11 else 0
def BegunM (r : Rg) : Int := microsM (begunM r) r
def LastsM (r : Rg) : Int := microsM (lastsM r) r
def y7 (r : Rg) : Rg := ofR (BegunM r) (LastsM r)
-- the reference
def xt (us : Int) : Int := if us < 0 ∨ us > 9223372036854775 then 0 else IntKind.u64.wrap (1000 * IntKind.u64.wrap us)
def rFine (s e : Int) : Bool := decide (s ≤ e) && decide (e ≤ 9223372036854775807)
def rLasts (s e : Int) : Int := if rFine s e then microM (IntKind.u64.wrap (e - s)) else 0
def rBegun (s e : Int) : Int := if rFine s e then microM s else 0
def rBad (b l : Int) : Prop := nanoC b ≠ 0 ∨ nanoC l ≠ 0 ∨ xt b > IntKind.u64.wrap (9223372036854775807 - xt l)
instance (b l : Int) : Decidable (rBad b l) := by unfold rBad; infer_instance
def rOfA (b l : Int) : Int := if rBad b l then 0 else xt b
def rOfB (b l : Int) : Int := if rBad b l then 0 else IntKind.u64.wrap (xt b + xt l)
def rOfC (b l : Int) : Int := if rBad b l then 11 else 0
end Go.Proofs
namespace Go.Proofs
open Go Go.Al
theorem nano_ok {us : Int} (h0 : 0 ≤ us) (h1 : us ≤ 9223372036854775) : nanoV us = us * 1000 ∧ xt us = us * 1000 ∧ nanoC us = 0 := by
  have e1 : IntKind.u64.wrap us = us := xa h0 (by omega)
  have e2 : IntKind.u64.wrap (us * 1000) = us * 1000 := xa (by omega) (by omega)
  have e3 : IntKind.u64.wrap (1000 * us) = us * 1000 := by rw [Int.mul_comm]; exact e2
  refine ⟨?_, ?_, ?_⟩
  · rw [nanoV, if_neg (by omega), e1, e2]
  · rw [xt, if_neg (by omega), e1, e3]
  · rw [nanoC, if_neg (by omega)]
theorem nano_bad {us : Int} (h : us < 0 ∨ us > 9223372036854775) : nanoV us = 0 ∧ xt us = 0 ∧ nanoC us = 11 := by
  refine ⟨?_, ?_, ?_⟩
  · rw [nanoV, if_pos h]
  · rw [xt, if_pos h]
  · rw [nanoC, if_pos h]
theorem nano_same (us : Int) : nanoV us = xt us := by
  by_cases h : us < 0 ∨ us > 9223372036854775
  · rw [(nano_bad h).1, (nano_bad h).2.1]
  · rw [(nano_ok (us := us) (by omega) (by omega)).1, (nano_ok (us := us) (by omega) (by omega)).2.1]
theorem nano_rg (us : Int) : 0 ≤ nanoV us ∧ nanoV us ≤ 9223372036854775000 := by
  by_cases h : us < 0 ∨ us > 9223372036854775
  · rw [(nano_bad h).1]; omega
  · rw [(nano_ok (us := us) (by omega) (by omega)).1]; omega
theorem bad_same (b l : Int) : xC b l ↔ rBad b l := by
  have hb := nano_rg b
  have hl := nano_rg l
  unfold xC rBad
  rw [← nano_same b, ← nano_same l, xa (by omega) (by omega), xa (by omega) (by omega)]
  constructor <;> intro h <;> omega
theorem of_same (b l : Int) : (ofR b l).lo = rOfA b l ∧ (ofR b l).hi = rOfB b l ∧ ofC b l = rOfC b l := by
  have h := bad_same b l
  by_cases hb : xC b l
  · simp only [ofR, rOfA, rOfB, ofC, rOfC, if_pos hb, if_pos (h.1 hb), and_self]
  · have : ¬ rBad b l := fun k => hb (h.2 k)
    simp only [ofR, rOfA, rOfB, ofC, rOfC, if_neg hb, if_neg this, nano_same, and_self]
theorem fine_iff (s e : Int) : rFine s e = true ↔ (s ≤ e ∧ e ≤ 9223372036854775807) := by simp [rFine]
theorem tells1 (s e : Int) : (vM ⟨s, e⟩ == 0) = rFine s e := by
  rw [Bool.eq_iff_iff, fine_iff]
  unfold vM
  by_cases h : e > 9223372036854775807 ∨ s > e
  · rw [if_pos h]; simp; omega
  · rw [if_neg h]; simp; omega
theorem rgCheck_fine {s e : Int} (h : rFine s e = true) : vM ⟨s, e⟩ = 0 := by have := tells1 s e; rw [h] at this; simpa using this
theorem rgCheck_bad {s e : Int} (h : rFine s e = false) : vM ⟨s, e⟩ = 11 := by
  have := tells1 s e; rw [h] at this
  unfold vM at this ⊢
  split
  · rfl
  · rename_i h'; rw [if_neg h'] at this; simp at this
theorem tells3 (s e : Int) : BegunM ⟨s, e⟩ = rBegun s e := by
  unfold BegunM microsM rBegun microM begunM
  cases h : rFine s e
  · rw [rgCheck_bad h]; simp
  · rw [rgCheck_fine h]; simp
theorem tells4 (s e : Int) : LastsM ⟨s, e⟩ = rLasts s e := by
  unfold LastsM microsM rLasts microM lastsM
  cases h : rFine s e
  · rw [rgCheck_bad h]; simp
  · rw [rgCheck_fine h]; simp
theorem tells5 (s e : Int) : (y7 ⟨s, e⟩).lo = rOfA (rBegun s e) (rLasts s e) ∧ (y7 ⟨s, e⟩).hi = rOfB (rBegun s e) (rLasts s e) := by
  unfold y7
  rw [tells3, tells4]
  exact ⟨(of_same _ _).1, (of_same _ _).2.1⟩
-- what a range that may be comes to
theorem micro_eq {n : Int} (h0 : 0 ≤ n) (h1 : n < 18446744073709551616) : microM n = n / 1000 := by
  unfold microM
  have e : n.tdiv 1000 = n / 1000 := Int.tdiv_eq_ediv_of_nonneg h0
  rw [e, xa (by omega) (by omega), z_ (by omega) (by omega)]
theorem begun_fine {s e : Int} (h0 : 0 ≤ s) (h : rFine s e = true) : rBegun s e = s / 1000 ∧ rLasts s e = (e - s) / 1000 := by
  have := (fine_iff s e).1 h
  unfold rBegun rLasts
  rw [h, if_pos rfl, if_pos rfl, micro_eq h0 (by omega), xa (by omega) (by omega), micro_eq (by omega) (by omega)]
  exact ⟨rfl, rfl⟩
theorem of_ok {b l : Int} (hb : 0 ≤ b) (hl : 0 ≤ l) (h : b * 1000 + l * 1000 ≤ 9223372036854775807) : ofR b l = ⟨b * 1000, b * 1000 + l * 1000⟩ ∧ ofC b l = 0 := by
  have nb := nano_ok hb (by omega)
  have nl := nano_ok hl (by omega)
  have : ¬ xC b l := by
    unfold xC
    rw [nb.1, nl.1, nb.2.2, nl.2.2, xa (by omega) (by omega)]
    omega
  rw [ofR, if_neg this, ofC, if_neg this, nb.1, nl.1, xa (by omega) (by omega)]
  exact ⟨rfl, rfl⟩
theorem whole_fine {s e : Int} (h0 : 0 ≤ s) (h : rFine s e = true) : y7 ⟨s, e⟩ = ⟨s / 1000 * 1000, s / 1000 * 1000 + (e - s) / 1000 * 1000⟩ := by
  have hf := (fine_iff s e).1 h
  have := begun_fine h0 h
  unfold y7
  rw [tells3, tells4, this.1, this.2]
  exact (of_ok (by omega) (by omega) (by omega)).1
theorem whole_bad {s e : Int} (h : rFine s e = false) : y7 ⟨s, e⟩ = ⟨0, 0⟩ := by
  unfold y7
  rw [tells3, tells4, rBegun, rLasts, h]
  exact (of_ok (b := 0) (l := 0) (by omega) (by omega) (by omega)).1
end Go.Proofs
namespace Go.Proofs
open Go Go.Al
instance : DecidableEq GV := fun a b => decidable_of_iff (sameV a b = true) (sameV_iff a b)
instance : DecidableEq GA := fun a b => decidable_of_iff (sameA a b = true) (sameA_iff a b)
theorem GE.ext' {a b : GE} (h1 : a.time = b.time) (h2 : a.name = b.name) (h3 : a.attrs = b.attrs) : a = b := by cases a; cases b; simp_all
theorem GL.ext' {a b : GL} (h1 : a.trace = b.trace) (h2 : a.span = b.span) (h3 : a.state = b.state) (h4 : a.attrs = b.attrs) : a = b := by cases a; cases b; simp_all
theorem GSpan.ext' {a b : GSpan} (h1 : a.trace = b.trace) (h2 : a.id = b.id) (h3 : a.parent = b.parent) (h4 : a.state = b.state) (h5 : a.name = b.name) (h6 : a.kind = b.kind) (h7 : a.start = b.start) (h8 : a.fin = b.fin) (h9 : a.attrs = b.attrs) (h10 : a.events = b.events) (h11 : a.links = b.links) (h12 : a.code = b.code) (h13 : a.note = b.note) : a = b := by
  cases a; cases b; simp_all
theorem GScope.ext' {a b : GScope} (h1 : a.name = b.name) (h2 : a.version = b.version) (h3 : a.spans = b.spans) : a = b := by cases a; cases b; simp_all
theorem GRes.ext' {a b : GRes} (h1 : a.attrs = b.attrs) (h2 : a.scopes = b.scopes) : a = b := by cases a; cases b; simp_all
instance : DecidableEq GE := fun a b => decidable_of_iff (a.time = b.time ∧ a.name = b.name ∧ a.attrs = b.attrs) ⟨fun h => GE.ext' h.1 h.2.1 h.2.2, fun h => by rw [h]; exact ⟨rfl, rfl, rfl⟩⟩
instance : DecidableEq GL := fun a b => decidable_of_iff (a.trace = b.trace ∧ a.span = b.span ∧ a.state = b.state ∧ a.attrs = b.attrs) ⟨fun h => GL.ext' h.1 h.2.1 h.2.2.1 h.2.2.2, fun h => by rw [h]; exact ⟨rfl, rfl, rfl, rfl⟩⟩
instance : DecidableEq GSpan := fun a b => decidable_of_iff ((a.trace = b.trace ∧ a.id = b.id ∧ a.parent = b.parent ∧ a.state = b.state) ∧ (a.name = b.name ∧ a.kind = b.kind ∧ a.start = b.start ∧ a.fin = b.fin) ∧ (a.attrs = b.attrs ∧ a.events = b.events ∧ a.links = b.links) ∧ a.code = b.code ∧ a.note = b.note)
  ⟨fun h => GSpan.ext' h.1.1 h.1.2.1 h.1.2.2.1 h.1.2.2.2 h.2.1.1 h.2.1.2.1 h.2.1.2.2.1 h.2.1.2.2.2 h.2.2.1.1 h.2.2.1.2.1 h.2.2.1.2.2 h.2.2.2.1 h.2.2.2.2, fun h => by rw [h]; exact ⟨⟨rfl, rfl, rfl, rfl⟩, ⟨rfl, rfl, rfl, rfl⟩, ⟨rfl, rfl, rfl⟩, rfl, rfl⟩⟩
instance : DecidableEq GScope := fun a b => decidable_of_iff (a.name = b.name ∧ a.version = b.version ∧ a.spans = b.spans) ⟨fun h => GScope.ext' h.1 h.2.1 h.2.2, fun h => by rw [h]; exact ⟨rfl, rfl, rfl⟩⟩
instance : DecidableEq GRes := fun a b => decidable_of_iff (a.attrs = b.attrs ∧ a.scopes = b.scopes) ⟨fun h => GRes.ext' h.1 h.2, fun h => by rw [h]; exact ⟨rfl, rfl⟩⟩
def wholeN (ns : Int) : Int := nanoV (microM ns)
def nJ : List Int := [0, 6, 7]
def keptA (but : List ByteArray) (l : List GA) : List GA := yu but (l.map (yT nJ))
def k_kind : ByteArray := ⟨#[115, 112, 97, 110, 46, 107, 105, 110, 100]⟩
def k_error : ByteArray := ⟨#[101, 114, 114, 111, 114]⟩
def k_code : ByteArray := ⟨#[111, 116, 101, 108, 46, 115, 116, 97, 116, 117, 115, 95, 99, 111, 100, 101]⟩
def k_note : ByteArray := ⟨#[111, 116, 101, 108, 46, 115, 116, 97, 116, 117, 115, 95, 100, 101, 115, 99, 114, 105, 112, 116, 105, 111, 110]⟩
def k4 : List ByteArray := [k_kind, k_error, k_code, k_note]
def tv (t : ByteArray) : GV := .mk 1 t 0 0 [] []
def xw (l : List GA) (t : ByteArray) : List GA := if t = ⟨#[]⟩ then yu [skey] l else xp l (.mk skey (tv t))
def yG : List GScope → List GSpan
  | [] => []
  | c :: cs => c.spans ++ yG cs
theorem spansOf_append : ∀ a b : List GScope, yG (a ++ b) = yG a ++ yG b
  | [], b => rfl
  | x :: a, b => by rw [List.cons_append, yG, yG, spansOf_append a b, List.append_assoc]
theorem spansOf_take {l : List GScope} {i : Nat} (h : i < l.length) : yG (l.take (i + 1)) = yG (l.take i) ++ (nthC l i).spans := by
  rw [zu (ye (d := gc0) h), spansOf_append]; simp [yG, nthC]
theorem spansOf_mem : ∀ {l : List GScope} {s : GSpan}, s ∈ yG l → ∃ c ∈ l, s ∈ c.spans
  | x :: l, s, h => by
    rw [yG] at h
    rcases List.mem_append.1 h with h | h
    · exact ⟨x, List.mem_cons_self, h⟩
    · obtain ⟨c, h1, h2⟩ := spansOf_mem h; exact ⟨c, List.mem_cons_of_mem _ h1, h2⟩
theorem spansOf_len : ∀ l : List GScope, (yG l).length ≤ zw GScope.wt l
  | [] => Nat.zero_le _
  | c :: l => by
    rw [yG, List.length_append, zw]
    have h1 := spansOf_len l
    have h2 := yn GSpan.wt (fun e => by unfold GSpan.wt; omega) c.spans
    have h3 : c.wt = 1 + c.name.size + c.version.size + zw GSpan.wt c.spans := rfl
    omega
theorem plainA_key (ks : List Int) (a : GA) : (yT ks a).key = a.key := by unfold yT; split <;> rfl
theorem vF (ks : List Int) (but : List ByteArray) : ∀ l : List GA, yu but (l.map (yT ks)) = (yu but l).map (yT ks)
  | [] => rfl
  | x :: l => by
    simp only [List.map_cons, yu, plainA_key, vF ks but l]
    split <;> simp
theorem dropA_mem {ks : List ByteArray} : ∀ {l : List GA} {x : GA}, x ∈ yu ks l → x ∈ l ∧ ks.any (fun k => decide (k = x.key)) = false
  | y :: l, x, h => by
    rw [yu] at h
    split at h
    · exact ⟨List.mem_cons_of_mem _ (dropA_mem h).1, (dropA_mem h).2⟩
    · rename_i hk
      rcases List.mem_cons.1 h with rfl | h
      · exact ⟨List.mem_cons_self, by cases hb : ks.any (fun k => decide (k = x.key)) <;> first | rfl | exact absurd hb hk⟩
      · exact ⟨List.mem_cons_of_mem _ (dropA_mem h).1, (dropA_mem h).2⟩
theorem dropA_nil : ∀ l : List GA, yu [] l = l
  | [] => rfl
  | x :: l => by rw [yu, if_neg (by simp), dropA_nil l]
theorem dropA_idem (ks : List ByteArray) : ∀ l : List GA, yu ks (yu ks l) = yu ks l
  | [] => rfl
  | x :: l => by
    by_cases h : ks.any (fun k => decide (k = x.key)) = true
    · rw [yu, if_pos h, dropA_idem ks l]
    · rw [yu, if_neg h, yu, if_neg h, dropA_idem ks l]
theorem risA_weak {l : List GA} {p q : ByteArray} (h : risA (some p) l) (hq : ltB q p = true) : risA (some q) l := by
  cases l with
  | nil => trivial
  | cons x l => exact ⟨ltB_trans hq h.1, h.2⟩
theorem ris_dropA (ks : List ByteArray) : ∀ {l : List GA} {p : Option ByteArray}, risA p l → risA p (yu ks l)
  | [], _, _ => trivial
  | x :: l, p, h => by
    rw [yu]
    split
    · have h2 := ris_dropA ks h.2
      cases p with
      | none => exact risA_none h2
      | some p => exact risA_weak h2 h.1
    · exact ⟨h.1, ris_dropA ks h.2⟩
theorem ris_plain (ks : List Int) : ∀ {l : List GA} {p : Option ByteArray}, risA p l → risA p (l.map (yT ks))
  | [], _, _ => trivial
  | x :: l, p, h => ⟨by rw [plainA_key]; exact h.1, by rw [plainA_key]; exact ris_plain ks h.2⟩
theorem ris_kept (but : List ByteArray) {l : List GA} (h : risA none l) : risA none (keptA but l) := ris_dropA _ (ris_plain _ h)
theorem dropA_none {k : ByteArray} : ∀ {l : List GA}, (∀ x ∈ l, x.key ≠ k) → yu [k] l = l
  | [], _ => rfl
  | x :: l, h => by
    rw [yu, if_neg, dropA_none fun y hy => h y (List.mem_cons_of_mem _ hy)]
    have := h x List.mem_cons_self
    simp [Ne.symm this]
theorem ris_ne {l : List GA} {p : ByteArray} (h : risA (some p) l) : ∀ x ∈ l, x.key ≠ p := fun x hx e => by
  have := risA_mem h x hx
  rw [e, ltB_irrefl] at this; cases this
theorem intoA_first {l : List GA} {k : ByteArray} {v : GV} (h : risA (some k) l) : xp l (.mk k v) = GA.mk k v :: l := by
  cases l with
  | nil => rfl
  | cons x l =>
    have h1 := h.1
    rw [xp, if_neg (by rw [GA.key_mk, ltB_asymm h1]; decide), if_neg (by rw [GA.key_mk]; rintro e; exact ris_ne h x List.mem_cons_self e)]
theorem into_drop {k : ByteArray} {v : GV} : ∀ {l : List GA} {p : Option ByteArray}, risA p l → xp (yu [k] l) (.mk k v) = xp l (.mk k v)
  | [], _, _ => rfl
  | x :: l, p, h => by
    by_cases he : x.key = k
    · rw [yu, if_pos (by simp [he]), dropA_none (he ▸ ris_ne h.2), intoA_first (he ▸ h.2), xp, if_neg (by rw [GA.key_mk, he, ltB_irrefl]; decide), if_pos (by rw [GA.key_mk]; exact he)]
    · rw [yu, if_neg (by simp [Ne.symm he]), xp, xp]
      split
      · rw [into_drop h.2]
      · rename_i hl
        rw [if_neg (by rw [GA.key_mk]; exact he), if_neg (by rw [GA.key_mk]; exact he)]
        have hk : ltB k x.key = true := by
          cases hb : ltB k x.key
          · exact absurd (ltB_tri (by simpa [GA.key_mk] using hl) hb) he
          · rfl
        rw [dropA_none (ris_ne (risA_weak h.2 hk))]
theorem ris_named {l : List GA} (h : risA none l) (t : ByteArray) : risA none (xw l t) := by
  unfold xw; split
  · exact ris_dropA _ h
  · exact ris_intoA _ _ none h trivial
theorem keptA_wt (but : List ByteArray) (l : List GA) : wtAs (keptA but l) ≤ 151 * wtAs l := Nat.le_trans (dropA_wt' but _) (plainAs_wt' nJ l)
where
  dropA_wt' (ks : List ByteArray) : ∀ l : List GA, wtAs (yu ks l) ≤ wtAs l
    | [] => Nat.le_refl _
    | x :: l => by rw [yu]; have := dropA_wt' ks l; split <;> simp only [wtAs] <;> omega
  plainA_wt' (ks : List Int) (a : GA) : (yT ks a).wt ≤ 151 * a.wt := by
    unfold yT
    have h1 := a.wt_eq
    have h2 := a.val.wt_pos
    split
    · have h3 : (GA.mk a.key (xq a.val)).wt = a.key.size + (xq a.val).wt := GA.wt_eq _
      have h4 : (xq a.val).wt = 1 + (vD a.val).size := by rw [GV.wt_eq]; simp [xq, GV.list, GV.map, GV.text, wtVs, wtAs]
      have h5 : (vD a.val).size ≤ 150 * a.val.wt := by rw [vD, za]; exact textB_length _
      omega
    · omega
  plainAs_wt' (ks : List Int) : ∀ l : List GA, wtAs (l.map (yT ks)) ≤ 151 * wtAs l
    | [] => by simp [wtAs]
    | x :: l => by simp only [List.map_cons, wtAs]; have := plainA_wt' ks x; have := plainAs_wt' ks l; omega
def plC (i : Nat) : Nat → List GScope → List (Nat × Nat × Nat)
  | _, [] => []
  | k, c :: cs => ((List.range c.spans.length).map fun m => (i, k, m)) ++ plC i (k + 1) cs
def plR : Nat → List GRes → List (Nat × Nat × Nat)
  | _, [] => []
  | i, r :: rs => plC i 0 r.scopes ++ plR (i + 1) rs
def plav (p : Nat × Nat × Nat) : AV := .agg [iv (p.1 : Int), iv (p.2.1 : Int), iv (p.2.2 : Int)]
theorem plC_snoc (i : Nat) (c : GScope) : ∀ (k : Nat) (l : List GScope), plC i k (l ++ [c]) = plC i k l ++ (List.range c.spans.length).map fun m => (i, k + l.length, m)
  | k, [] => by simp [plC]
  | k, x :: l => by
    simp only [List.cons_append, plC, plC_snoc i c (k + 1) l, List.append_assoc, List.length_cons]
    rw [show k + 1 + l.length = k + (l.length + 1) by omega]
theorem plR_snoc (r : GRes) : ∀ (i : Nat) (l : List GRes), plR i (l ++ [r]) = plR i l ++ plC (i + l.length) 0 r.scopes
  | i, [] => by simp [plR]
  | i, x :: l => by
    simp only [List.cons_append, plR, plR_snoc r (i + 1) l, List.append_assoc, List.length_cons]
    rw [show i + 1 + l.length = i + (l.length + 1) by omega]
theorem plC_take {i : Nat} {l : List GScope} {k : Nat} (h : k < l.length) : plC i 0 (l.take (k + 1)) = plC i 0 (l.take k) ++ (List.range (nthC l k).spans.length).map fun m => (i, k, m) := by
  rw [zu (ye (d := gc0) h), plC_snoc, List.length_take, Nat.min_eq_left (by omega), Nat.zero_add]; rfl
theorem plR_take {l : List GRes} {i : Nat} (h : i < l.length) : plR 0 (l.take (i + 1)) = plR 0 (l.take i) ++ plC i 0 (nthR l i).scopes := by
  rw [zu (ye (d := gr0) h), plR_snoc, List.length_take, Nat.min_eq_left (by omega), Nat.zero_add]; rfl
theorem range_snoc (f : Nat → Nat × Nat × Nat) (m : Nat) : (List.range (m + 1)).map f = (List.range m).map f ++ [f m] := by rw [List.range_succ, List.map_append]; rfl
theorem plC_len (i : Nat) : ∀ (k : Nat) (l : List GScope), (plC i k l).length = (yG l).length
  | _, [] => rfl
  | k, c :: l => by rw [plC, yG, List.length_append, List.length_append, plC_len i (k + 1) l]; simp
theorem plC_spans (i : Nat) : ∀ (l m : List GScope), (plC i m.length l).map (fun p => nthS (nthC (m ++ l) p.2.1).spans p.2.2) = yG l
  | [], m => rfl
  | c :: l, m => by
    rw [plC, List.map_append, yG]
    congr 1
    · rw [List.map_map]
      refine List.ext_getElem (by simp) fun j h1 h2 => ?_
      simp only [List.getElem_map, List.getElem_range, Function.comp]
      have : nthC (m ++ c :: l) m.length = c := by simp [nthC, nth]
      rw [this]
      simp only [nthS, nth]
      rw [List.getD_eq_getElem?_getD, List.getElem?_eq_getElem h2]; rfl
    · have := plC_spans i l (m ++ [c])
      simp only [List.length_append, List.length_cons, List.length_nil, List.append_assoc, List.cons_append, List.nil_append] at this
      exact this
theorem plC_mem {i : Nat} : ∀ {l m : List GScope} {p : Nat × Nat × Nat}, p ∈ plC i m.length l → p.2.1 < (m ++ l).length ∧ p.2.2 < (nthC (m ++ l) p.2.1).spans.length
  | c :: l, m, p, h => by
    rw [plC] at h
    rcases List.mem_append.1 h with h | h
    · obtain ⟨j, hj, rfl⟩ := List.mem_map.1 h
      have : nthC (m ++ c :: l) m.length = c := by simp [nthC, nth]
      exact ⟨by simp, by show j < (nthC (m ++ c :: l) m.length).spans.length; rw [this]; exact List.mem_range.1 hj⟩
    · have := plC_mem (l := l) (m := m ++ [c]) (p := p) (by simpa using h)
      simpa using this
end Go.Proofs
namespace Go.Proofs
open Go Go.Al
set_option maxRecDepth 10000
theorem rgCheck_c (r : Rg) : zo Tryd.prog Γ0 94 [r.av] [iv (vM r)] := by
  refine zf Tryd.func94 rfl Tryd.ntmps94 (by kernel_rfl) rfl fun w0 I0 G0 => ?_
  refine zD <| zB <| g_uG (zn 1001 rfl rfl rfl rfl) rfl <| g_u (zE rfl rfl) <| zH <| zA <| zD <| zD <| zB <| g_u (zF rfl rfl fa81_1 rfl) <| g_u (zG rfl rfl rfl tA29 tS29 rfl rfl) <| g_u (s_gtI rfl rfl rfl) <| g_u (zC rfl rfl) <| yL (t := 6) rfl ?_
  rintro (hb1 | hb1)
  · rw [hb1]
    refine zI rfl rfl rfl <| zI rfl rfl rfl <| zI rfl rfl rfl <| zI rfl rfl rfl <| zI rfl rfl rfl <| g_u (zZ rfl rfl rfl) <| zH <| zA <| zg rfl <| zD <| zB <| g_u (zE rfl rfl) <| zH <| zA <| zQ <| zM ?_
    exact ⟨⟨(rfl : toAV (Al.look _ _) = some _).trans (congrArg some (by (simp only [qa, qb, qc, ne_eq, beq_iff_eq, qd, qe] at *; simp only [iv, vM]; first | rw [if_pos (by omega)] | rw [if_neg (by omega)]))), rfl⟩, trivial⟩
  · rw [hb1]
    refine zO rfl rfl (zF rfl rfl fa81_0 rfl) <| zO rfl rfl (zG rfl rfl rfl tA29 tS29 rfl rfl) <| zO rfl rfl (zF rfl rfl fa81_1 rfl) <| zO rfl rfl (zG rfl rfl rfl tA29 tS29 rfl rfl) <| zO rfl rfl (s_gtI rfl rfl rfl) <| g_u (zr rfl rfl rfl) <| zH <| zA ?_
    refine zV rfl (fun hb2 => ?_) (fun hb2 => ?_)
    · refine zD ?_
      refine zB <| g_u (zE rfl rfl) <| zH <| zA <| zQ <| zM ?_
      exact ⟨⟨(rfl : toAV (Al.look _ _) = some _).trans (congrArg some (by (simp only [qa, qb, qc, ne_eq, beq_iff_eq, qd, qe] at *; simp only [iv, vM]; first | rw [if_pos (by omega)] | rw [if_neg (by omega)]))), rfl⟩, trivial⟩
    · refine zY ?_
      refine zA <| zD <| zB <| g_u (zE rfl rfl) <| zH <| zA <| zQ ?_
      exact ⟨⟨(rfl : toAV (Al.look _ _) = some _).trans (congrArg some (by (simp only [qa, qb, qc, ne_eq, beq_iff_eq, qd, qe] at *; simp only [iv, vM]; first | rw [if_pos (by omega)] | rw [if_neg (by omega)]))), rfl⟩, trivial⟩
theorem begun_c (r : Rg) : zo Tryd.prog Γ0 80 [r.av] [uv (begunM r)] := by
  refine zf Tryd.func80 rfl Tryd.ntmps80 (by kernel_rfl) rfl fun w0 I0 G0 => ?_
  refine zD <| zB <| g_uG (zn 1001 rfl rfl rfl rfl) rfl <| g_u (zE rfl rfl) <| zH <| zA <| zD <| zB <| g_u (zF rfl rfl fa81_0 rfl) <| g_u (zG rfl rfl rfl tA29 tS29 rfl rfl) ?_
  refine g_u (s_quo rfl rfl rfl (by first | decide | omega | (((try simp only [qa, qb, qc, ne_eq, beq_iff_eq, qd, qe, Bool.not_eq_true', Bool.not_eq_false', gt_iff_lt, ge_iff_le] at *); (repeat simp (disch := omega) only [z_, yN] at *)); omega))) ?_
  refine g_u (zE rfl rfl) <| zH <| zA <| zQ ?_
  exact ⟨⟨(rfl : toAV (Al.look _ _) = some _).trans (congrArg some (by rfl)), rfl⟩, trivial⟩
theorem lasts_c (r : Rg) : zo Tryd.prog Γ0 81 [r.av] [uv (lastsM r)] := by
  refine zf Tryd.func81 rfl Tryd.ntmps81 (by kernel_rfl) rfl fun w0 I0 G0 => ?_
  refine zD <| zB <| g_uG (zn 1001 rfl rfl rfl rfl) rfl <| g_u (zE rfl rfl) <| zH <| zA <| zD <| zB <| g_u (zF rfl rfl fa81_1 rfl) <| g_u (zG rfl rfl rfl tA29 tS29 rfl rfl) <| g_u (zF rfl rfl fa81_0 rfl) <| g_u (zG rfl rfl rfl tA29 tS29 rfl rfl) <| g_u (s_sub rfl rfl rfl) ?_
  refine g_u (s_quo rfl rfl rfl (by first | decide | omega | (((try simp only [qa, qb, qc, ne_eq, beq_iff_eq, qd, qe, Bool.not_eq_true', Bool.not_eq_false', gt_iff_lt, ge_iff_le] at *); (repeat simp (disch := omega) only [z_, yN] at *)); omega))) ?_
  refine g_u (zE rfl rfl) <| zH <| zA <| zQ ?_
  exact ⟨⟨(rfl : toAV (Al.look _ _) = some _).trans (congrArg some (by rfl)), rfl⟩, trivial⟩
theorem micros_c (r : Rg) (f : Nat) (m : Int) (hf : zo Tryd.prog Γ0 f [r.av] [uv m]) : zo Tryd.prog Γ0 79 [r.av, .fn (.func f) [] []] [iv (microsM m r)] := by
  refine zf Tryd.func79 rfl Tryd.ntmps79 (by kernel_rfl) rfl fun w0 I0 G0 => ?_
  refine zD <| zB <| g_uG (zn 1002 rfl rfl rfl rfl) rfl <| g_u (zE rfl rfl) <| zH <| zA <| zD <| zD <| zB <| g_u (zG rfl rfl rfl tA81 tS81 rfl rfl) <| g_u (zR (rgCheck_c ⟨_, _⟩) rfl rfl) <| g_u (s_neI rfl rfl rfl) <| zH <| zA ?_
  refine zV rfl (fun hb1 => ?_) (fun hb1 => ?_)
  · refine zD ?_
    refine zB <| g_u (zE rfl rfl) <| zH <| zA <| zQ <| zM ?_
    exact ⟨⟨(rfl : toAV (Al.look _ _) = some _).trans (congrArg some (by (simp only [qa, qb, qc, ne_eq, beq_iff_eq, qd, qe] at *; simp only [iv, microsM]; first | rw [if_pos (by omega)] | rw [if_neg (by omega)]))), rfl⟩, trivial⟩
  · refine zY ?_
    refine zA <| zD <| zB <| g_u (zC rfl rfl) <| g_u (zG rfl rfl rfl tA81 tS81 rfl rfl) <| g_u (s_callv1 (hf) rfl rfl rfl) <| g_u (s_cvII rfl rfl Tryd.underlying29 Tryd.underlying3) <| g_u (zE rfl rfl) <| zH <| zA <| zQ ?_
    exact ⟨⟨(rfl : toAV (Al.look _ _) = some _).trans (congrArg some (by (simp only [qa, qb, qc, ne_eq, beq_iff_eq, qd, qe] at *; simp only [iv, microsM]; first | rw [if_pos (by omega)] | rw [if_neg (by omega)]))), rfl⟩, trivial⟩
theorem Begun_c (r : Rg) : zo Tryd.prog Γ0 56 [r.av] [iv (BegunM r)] := by
  refine zf Tryd.func56 rfl Tryd.ntmps56 (by kernel_rfl) rfl fun w0 I0 G0 => ?_
  refine zD <| zB <| g_uG (zn 1001 rfl rfl rfl rfl) rfl <| g_u (zE rfl rfl) <| zH <| zA <| zD <| zB <| g_u (zG rfl rfl rfl tA81 tS81 rfl rfl) <| g_u (zR (micros_c _ _ _ (begun_c _)) rfl rfl) <| g_u (zE rfl rfl) <| zH <| zA <| zQ ?_
  exact ⟨⟨(rfl : toAV (Al.look _ _) = some _).trans (congrArg some (by rfl)), rfl⟩, trivial⟩
theorem Lasts_c (r : Rg) : zo Tryd.prog Γ0 57 [r.av] [iv (LastsM r)] := by
  refine zf Tryd.func57 rfl Tryd.ntmps57 (by kernel_rfl) rfl fun w0 I0 G0 => ?_
  refine zD <| zB <| g_uG (zn 1001 rfl rfl rfl rfl) rfl <| g_u (zE rfl rfl) <| zH <| zA <| zD <| zB <| g_u (zG rfl rfl rfl tA81 tS81 rfl rfl) <| g_u (zR (micros_c _ _ _ (lasts_c _)) rfl rfl) <| g_u (zE rfl rfl) <| zH <| zA <| zQ ?_
  exact ⟨⟨(rfl : toAV (Al.look _ _) = some _).trans (congrArg some (by rfl)), rfl⟩, trivial⟩
theorem nano_c (us : Int) : zo Tryd.prog Γ0 61 [iv us] [uv (nanoV us), iv (nanoC us)] := by
  refine zf Tryd.func61 rfl Tryd.ntmps61 (by kernel_rfl) rfl fun w0 I0 G0 => ?_
  refine zD <| zB <| g_u (zE rfl rfl) <| g_u (zE rfl rfl) <| zH <| zA <| zD <| zD <| zB <| g_u (zC rfl rfl) <| g_u (yd rfl rfl rfl) <| g_u (zC rfl rfl) <| yL (t := 6) rfl ?_
  rintro (hb1 | hb1)
  · rw [hb1]
    refine zI rfl rfl rfl <| zI rfl rfl rfl <| g_u (zZ rfl rfl rfl) <| zH <| zA <| zg rfl <| zD <| zB <| g_u (zE rfl rfl) <| g_u (zE rfl rfl) <| zH <| zA <| zQ <| zM ?_
    exact ⟨⟨(rfl : toAV (Al.look _ _) = some _).trans (congrArg some (by (simp only [qa, qb, qc, ne_eq, beq_iff_eq, qd, qe] at *; simp only [iv, uv, nanoV, nanoC, xt]; first | rw [if_pos (by omega)] | rw [if_neg (by omega)]))), rfl⟩, ⟨(rfl : toAV (Al.look _ _) = some _).trans (congrArg some (by (simp only [qa, qb, qc, ne_eq, beq_iff_eq, qd, qe] at *; simp only [iv, uv, nanoV, nanoC, xt]; first | rw [if_pos (by omega)] | rw [if_neg (by omega)]))), rfl⟩, trivial⟩
  · rw [hb1]
    refine zO rfl rfl (zC rfl rfl) <| zO rfl rfl (s_gtI rfl rfl rfl) <| g_u (zr rfl rfl rfl) <| zH <| zA ?_
    refine zV rfl (fun hb2 => ?_) (fun hb2 => ?_)
    · refine zD ?_
      refine zB <| g_u (zE rfl rfl) <| g_u (zE rfl rfl) <| zH <| zA <| zQ <| zM ?_
      exact ⟨⟨(rfl : toAV (Al.look _ _) = some _).trans (congrArg some (by (simp only [qa, qb, qc, ne_eq, beq_iff_eq, qd, qe] at *; simp only [iv, uv, nanoV, nanoC, xt]; first | rw [if_pos (by omega)] | rw [if_neg (by omega)]))), rfl⟩, ⟨(rfl : toAV (Al.look _ _) = some _).trans (congrArg some (by (simp only [qa, qb, qc, ne_eq, beq_iff_eq, qd, qe] at *; simp only [iv, uv, nanoV, nanoC, xt]; first | rw [if_pos (by omega)] | rw [if_neg (by omega)]))), rfl⟩, trivial⟩
    · refine zY ?_
      refine zA <| zD <| zB <| g_u (zC rfl rfl) <| g_u (s_cvII rfl rfl Tryd.underlying3 Tryd.underlying29) <| g_u (s_mul rfl rfl rfl) <| g_u (zE rfl rfl) <| g_u (zE rfl rfl) <| zH <| zA <| zQ ?_
      exact ⟨⟨(rfl : toAV (Al.look _ _) = some _).trans (congrArg some (by (simp only [qa, qb, qc, ne_eq, beq_iff_eq, qd, qe] at *; simp only [iv, uv, nanoV, nanoC, xt]; first | rw [if_pos (by omega)] | rw [if_neg (by omega)]))), rfl⟩, ⟨(rfl : toAV (Al.look _ _) = some _).trans (congrArg some (by (simp only [qa, qb, qc, ne_eq, beq_iff_eq, qd, qe] at *; simp only [iv, uv, nanoV, nanoC, xt]; first | rw [if_pos (by omega)] | rw [if_neg (by omega)]))), rfl⟩, trivial⟩
theorem rnano_c (us : Int) : zo Tryd.prog Γ0 68 [iv us] [uv (xt us), iv (nanoC us)] := by
  refine zf Tryd.func68 rfl Tryd.ntmps68 (by kernel_rfl) rfl fun w0 I0 G0 => ?_
  refine zD <| zB <| g_u (zE rfl rfl) <| g_u (zE rfl rfl) <| zH <| zA <| zD <| zD <| zB <| g_u (zC rfl rfl) <| g_u (yd rfl rfl rfl) <| g_u (zC rfl rfl) <| yL (t := 6) rfl ?_
  rintro (hb1 | hb1)
  · rw [hb1]
    refine zI rfl rfl rfl <| zI rfl rfl rfl <| g_u (zZ rfl rfl rfl) <| zH <| zA <| zg rfl <| zD <| zB <| g_u (zE rfl rfl) <| g_u (zE rfl rfl) <| zH <| zA <| zQ <| zM ?_
    exact ⟨⟨(rfl : toAV (Al.look _ _) = some _).trans (congrArg some (by (simp only [qa, qb, qc, ne_eq, beq_iff_eq, qd, qe] at *; simp only [iv, uv, nanoV, nanoC, xt]; first | rw [if_pos (by omega)] | rw [if_neg (by omega)]))), rfl⟩, ⟨(rfl : toAV (Al.look _ _) = some _).trans (congrArg some (by (simp only [qa, qb, qc, ne_eq, beq_iff_eq, qd, qe] at *; simp only [iv, uv, nanoV, nanoC, xt]; first | rw [if_pos (by omega)] | rw [if_neg (by omega)]))), rfl⟩, trivial⟩
  · rw [hb1]
    refine zO rfl rfl (zC rfl rfl) <| zO rfl rfl (s_gtI rfl rfl rfl) <| g_u (zr rfl rfl rfl) <| zH <| zA ?_
    refine zV rfl (fun hb2 => ?_) (fun hb2 => ?_)
    · refine zD ?_
      refine zB <| g_u (zE rfl rfl) <| g_u (zE rfl rfl) <| zH <| zA <| zQ <| zM ?_
      exact ⟨⟨(rfl : toAV (Al.look _ _) = some _).trans (congrArg some (by (simp only [qa, qb, qc, ne_eq, beq_iff_eq, qd, qe] at *; simp only [iv, uv, nanoV, nanoC, xt]; first | rw [if_pos (by omega)] | rw [if_neg (by omega)]))), rfl⟩, ⟨(rfl : toAV (Al.look _ _) = some _).trans (congrArg some (by (simp only [qa, qb, qc, ne_eq, beq_iff_eq, qd, qe] at *; simp only [iv, uv, nanoV, nanoC, xt]; first | rw [if_pos (by omega)] | rw [if_neg (by omega)]))), rfl⟩, trivial⟩
    · refine zY ?_
      refine zA <| zD <| zB <| g_u (zC rfl rfl) <| g_u (s_cvII rfl rfl Tryd.underlying3 Tryd.underlying29) <| g_u (s_mul rfl rfl rfl) <| g_u (zE rfl rfl) <| g_u (zE rfl rfl) <| zH <| zA <| zQ ?_
      exact ⟨⟨(rfl : toAV (Al.look _ _) = some _).trans (congrArg some (by (simp only [qa, qb, qc, ne_eq, beq_iff_eq, qd, qe] at *; simp only [iv, uv, nanoV, nanoC, xt]; first | rw [if_pos (by omega)] | rw [if_neg (by omega)]))), rfl⟩, ⟨(rfl : toAV (Al.look _ _) = some _).trans (congrArg some (by (simp only [qa, qb, qc, ne_eq, beq_iff_eq, qd, qe] at *; simp only [iv, uv, nanoV, nanoC, xt]; first | rw [if_pos (by omega)] | rw [if_neg (by omega)]))), rfl⟩, trivial⟩
theorem micro_c (ns : Int) : zo Tryd.prog Γ0 62 [uv ns] [iv (microM ns)] := by
  refine zf Tryd.func62 rfl Tryd.ntmps62 (by kernel_rfl) rfl fun w0 I0 G0 => ?_
  refine zD <| zB <| g_u (zE rfl rfl) <| zH <| zA <| zD <| zB <| g_u (zC rfl rfl) ?_
  refine g_u (s_quo rfl rfl rfl (by first | decide | omega | (((try simp only [qa, qb, qc, ne_eq, beq_iff_eq, qd, qe, Bool.not_eq_true', Bool.not_eq_false', gt_iff_lt, ge_iff_le] at *); (repeat simp (disch := omega) only [z_, yN] at *)); omega))) ?_
  refine g_u (s_cvII rfl rfl Tryd.underlying29 Tryd.underlying3) <| g_u (zE rfl rfl) <| zH <| zA <| zQ ?_
  exact ⟨⟨(rfl : toAV (Al.look _ _) = some _).trans (congrArg some (by rfl)), rfl⟩, trivial⟩
theorem rmicro_c (ns : Int) : zo Tryd.prog Γ0 69 [uv ns] [iv (microM ns)] := by
  refine zf Tryd.func69 rfl Tryd.ntmps69 (by kernel_rfl) rfl fun w0 I0 G0 => ?_
  refine zD <| zB <| g_u (zE rfl rfl) <| zH <| zA <| zD <| zB <| g_u (zC rfl rfl) ?_
  refine g_u (s_quo rfl rfl rfl (by first | decide | omega | (((try simp only [qa, qb, qc, ne_eq, beq_iff_eq, qd, qe, Bool.not_eq_true', Bool.not_eq_false', gt_iff_lt, ge_iff_le] at *); (repeat simp (disch := omega) only [z_, yN] at *)); omega))) ?_
  refine g_u (s_cvII rfl rfl Tryd.underlying29 Tryd.underlying3) <| g_u (zE rfl rfl) <| zH <| zA <| zQ ?_
  exact ⟨⟨(rfl : toAV (Al.look _ _) = some _).trans (congrArg some (by rfl)), rfl⟩, trivial⟩
theorem of_c (b l : Int) : zo Tryd.prog Γ0 55 [iv b, iv l] [(ofR b l).av, iv (ofC b l)] := by
  refine zf Tryd.func55 rfl Tryd.ntmps55 (by kernel_rfl) rfl fun w0 I0 G0 => ?_
  refine zD <| zB <| g_uG (z0 1004 rfl rfl rfl tZ81) rfl <| g_u (zE rfl rfl) <| zH <| zA <| zD <| zB <| g_u (zC rfl rfl) <| g_u (w_ (nano_c _) rfl rfl) <| g_u (xV rfl rfl) <| g_u (zi rfl rfl rfl rfl) <| g_u (zi rfl rfl rfl rfl) <| g_u (zE rfl rfl) <| g_u (zE rfl rfl) <| zH <| zA <| zD <| zB <| g_u (zC rfl rfl) <| g_u (w_ (nano_c _) rfl rfl) <| g_u (xV rfl rfl) <| g_u (zi rfl rfl rfl rfl) <| g_u (zi rfl rfl rfl rfl) <| g_u (zE rfl rfl) <| g_u (zE rfl rfl) <| zH <| zA <| zD <| zD <| zB <| g_u (zC rfl rfl) <| g_u (s_neI rfl rfl rfl) <| g_u (zC rfl rfl) <| yL (t := 22) rfl ?_
  rintro (hb1 | hb1)
  · rw [hb1]
    refine zI rfl rfl rfl <| zI rfl rfl rfl <| g_u (zZ rfl rfl rfl) <| g_u (zC rfl rfl) <| zI rfl rfl rfl <| zI rfl rfl rfl <| zI rfl rfl rfl <| zI rfl rfl rfl <| g_u (zZ rfl rfl rfl) <| zH <| zA <| zg rfl <| zD <| zB <| g_u (yh rfl tU81 us81 pl81 rfl rfl rfl rfl) <| g_u (zX rfl rfl rfl tS81 rfl rfl) <| g_u (zE rfl rfl) <| zH <| zA <| zQ <| zM ?_
    exact ⟨⟨_, _, _, _, _, _, _, rfl, rfl, tA81, tS81, rfl, rfl, (rfl : toAV _ = some _).trans (congrArg some (by (simp only [qa, qb, qc, ne_eq, beq_iff_eq, qd, qe] at *; simp only [iv, uv, Rg.av, ofR, ofC, rOfA, rOfB, rOfC]; first | (rw [if_pos (by unfold xC; omega)]; first | done | rfl) | (rw [if_neg (by unfold xC; omega)]; first | done | rfl) | (rw [if_pos (by unfold rBad; omega)]; first | done | rfl) | (rw [if_neg (by unfold rBad; omega)]; first | done | rfl))))⟩, ⟨(rfl : toAV (Al.look _ _) = some _).trans (congrArg some (by (simp only [qa, qb, qc, ne_eq, beq_iff_eq, qd, qe] at *; simp only [iv, uv, Rg.av, ofR, ofC, rOfA, rOfB, rOfC]; first | (rw [if_pos (by unfold xC; omega)]; first | done | rfl) | (rw [if_neg (by unfold xC; omega)]; first | done | rfl) | (rw [if_pos (by unfold rBad; omega)]; first | done | rfl) | (rw [if_neg (by unfold rBad; omega)]; first | done | rfl)))), rfl⟩, trivial⟩
  · rw [hb1]
    refine zO rfl rfl (zC rfl rfl) <| zO rfl rfl (s_neI rfl rfl rfl) <| g_u (zr rfl rfl rfl) <| g_u (zC rfl rfl) <| yL (t := 26) rfl ?_
    rintro (hb2 | hb2)
    · rw [hb2]
      refine zI rfl rfl rfl <| zI rfl rfl rfl <| zI rfl rfl rfl <| zI rfl rfl rfl <| g_u (zZ rfl rfl rfl) <| zH <| zA <| zg rfl <| zD <| zB <| g_u (yh rfl tU81 us81 pl81 rfl rfl rfl rfl) <| g_u (zX rfl rfl rfl tS81 rfl rfl) <| g_u (zE rfl rfl) <| zH <| zA <| zQ <| zM ?_
      exact ⟨⟨_, _, _, _, _, _, _, rfl, rfl, tA81, tS81, rfl, rfl, (rfl : toAV _ = some _).trans (congrArg some (by (simp only [qa, qb, qc, ne_eq, beq_iff_eq, qd, qe] at *; simp only [iv, uv, Rg.av, ofR, ofC, rOfA, rOfB, rOfC]; first | (rw [if_pos (by unfold xC; omega)]; first | done | rfl) | (rw [if_neg (by unfold xC; omega)]; first | done | rfl) | (rw [if_pos (by unfold rBad; omega)]; first | done | rfl) | (rw [if_neg (by unfold rBad; omega)]; first | done | rfl))))⟩, ⟨(rfl : toAV (Al.look _ _) = some _).trans (congrArg some (by (simp only [qa, qb, qc, ne_eq, beq_iff_eq, qd, qe] at *; simp only [iv, uv, Rg.av, ofR, ofC, rOfA, rOfB, rOfC]; first | (rw [if_pos (by unfold xC; omega)]; first | done | rfl) | (rw [if_neg (by unfold xC; omega)]; first | done | rfl) | (rw [if_pos (by unfold rBad; omega)]; first | done | rfl) | (rw [if_neg (by unfold rBad; omega)]; first | done | rfl)))), rfl⟩, trivial⟩
    · rw [hb2]
      refine zO rfl rfl (zC rfl rfl) <| zO rfl rfl (zC rfl rfl) <| zO rfl rfl (s_sub rfl rfl rfl) <| zO rfl rfl (s_gtI rfl rfl rfl) <| g_u (zr rfl rfl rfl) <| zH <| zA ?_
      refine zV rfl (fun hb3 => ?_) (fun hb3 => ?_)
      · refine zD ?_
        refine zB <| g_u (yh rfl tU81 us81 pl81 rfl rfl rfl rfl) <| g_u (zX rfl rfl rfl tS81 rfl rfl) <| g_u (zE rfl rfl) <| zH <| zA <| zQ <| zM ?_
        exact ⟨⟨_, _, _, _, _, _, _, rfl, rfl, tA81, tS81, rfl, rfl, (rfl : toAV _ = some _).trans (congrArg some (by (simp only [qa, qb, qc, ne_eq, beq_iff_eq, qd, qe] at *; simp only [iv, uv, Rg.av, ofR, ofC, rOfA, rOfB, rOfC]; first | (rw [if_pos (by unfold xC; omega)]; first | done | rfl) | (rw [if_neg (by unfold xC; omega)]; first | done | rfl) | (rw [if_pos (by unfold rBad; omega)]; first | done | rfl) | (rw [if_neg (by unfold rBad; omega)]; first | done | rfl))))⟩, ⟨(rfl : toAV (Al.look _ _) = some _).trans (congrArg some (by (simp only [qa, qb, qc, ne_eq, beq_iff_eq, qd, qe] at *; simp only [iv, uv, Rg.av, ofR, ofC, rOfA, rOfB, rOfC]; first | (rw [if_pos (by unfold xC; omega)]; first | done | rfl) | (rw [if_neg (by unfold xC; omega)]; first | done | rfl) | (rw [if_pos (by unfold rBad; omega)]; first | done | rfl) | (rw [if_neg (by unfold rBad; omega)]; first | done | rfl)))), rfl⟩, trivial⟩
      · refine zY ?_
        refine zA <| zD <| zB <| g_u (zC rfl rfl) <| g_u (zC rfl rfl) <| g_u (zC rfl rfl) <| g_u (yK rfl rfl rfl) <| g_u (yh rfl tU81 us81 pl81 rfl rfl rfl rfl) <| g_u (zX rfl rfl rfl tS81 rfl rfl) <| g_u (zE rfl rfl) <| zH <| zA <| zQ ?_
        exact ⟨⟨_, _, _, _, _, _, _, rfl, rfl, tA81, tS81, rfl, rfl, (rfl : toAV _ = some _).trans (congrArg some (by (simp only [qa, qb, qc, ne_eq, beq_iff_eq, qd, qe] at *; simp only [iv, uv, Rg.av, ofR, ofC, rOfA, rOfB, rOfC]; first | (rw [if_pos (by unfold xC; omega)]; first | done | rfl) | (rw [if_neg (by unfold xC; omega)]; first | done | rfl) | (rw [if_pos (by unfold rBad; omega)]; first | done | rfl) | (rw [if_neg (by unfold rBad; omega)]; first | done | rfl))))⟩, ⟨(rfl : toAV (Al.look _ _) = some _).trans (congrArg some (by (simp only [qa, qb, qc, ne_eq, beq_iff_eq, qd, qe] at *; simp only [iv, uv, Rg.av, ofR, ofC, rOfA, rOfB, rOfC]; first | (rw [if_pos (by unfold xC; omega)]; first | done | rfl) | (rw [if_neg (by unfold xC; omega)]; first | done | rfl) | (rw [if_pos (by unfold rBad; omega)]; first | done | rfl) | (rw [if_neg (by unfold rBad; omega)]; first | done | rfl)))), rfl⟩, trivial⟩
theorem rof_c (b l : Int) : zo Tryd.prog Γ0 63 [iv b, iv l] [uv (rOfA b l), uv (rOfB b l), iv (rOfC b l)] := by
  refine zf Tryd.func63 rfl Tryd.ntmps63 (by kernel_rfl) rfl fun w0 I0 G0 => ?_
  refine zD <| zB <| g_u (zE rfl rfl) <| g_u (zE rfl rfl) <| g_u (zE rfl rfl) <| zH <| zA <| zD <| zB <| g_u (zC rfl rfl) <| g_u (w_ (rnano_c _) rfl rfl) <| g_u (xV rfl rfl) <| g_u (zi rfl rfl rfl rfl) <| g_u (zi rfl rfl rfl rfl) <| g_u (zE rfl rfl) <| g_u (zE rfl rfl) <| zH <| zA <| zD <| zB <| g_u (zC rfl rfl) <| g_u (w_ (rnano_c _) rfl rfl) <| g_u (xV rfl rfl) <| g_u (zi rfl rfl rfl rfl) <| g_u (zi rfl rfl rfl rfl) <| g_u (zE rfl rfl) <| g_u (zE rfl rfl) <| zH <| zA <| zD <| zD <| zB <| g_u (zC rfl rfl) <| g_u (s_neI rfl rfl rfl) <| g_u (zC rfl rfl) <| yL (t := 23) rfl ?_
  rintro (hb1 | hb1)
  · rw [hb1]
    refine zI rfl rfl rfl <| zI rfl rfl rfl <| g_u (zZ rfl rfl rfl) <| g_u (zC rfl rfl) <| zI rfl rfl rfl <| zI rfl rfl rfl <| zI rfl rfl rfl <| zI rfl rfl rfl <| g_u (zZ rfl rfl rfl) <| zH <| zA <| zg rfl <| zD <| zB <| g_u (zE rfl rfl) <| g_u (zE rfl rfl) <| g_u (zE rfl rfl) <| zH <| zA <| zQ <| zM ?_
    exact ⟨⟨(rfl : toAV (Al.look _ _) = some _).trans (congrArg some (by (simp only [qa, qb, qc, ne_eq, beq_iff_eq, qd, qe] at *; simp only [iv, uv, Rg.av, ofR, ofC, rOfA, rOfB, rOfC]; first | (rw [if_pos (by unfold xC; omega)]; first | done | rfl) | (rw [if_neg (by unfold xC; omega)]; first | done | rfl) | (rw [if_pos (by unfold rBad; omega)]; first | done | rfl) | (rw [if_neg (by unfold rBad; omega)]; first | done | rfl)))), rfl⟩, ⟨(rfl : toAV (Al.look _ _) = some _).trans (congrArg some (by (simp only [qa, qb, qc, ne_eq, beq_iff_eq, qd, qe] at *; simp only [iv, uv, Rg.av, ofR, ofC, rOfA, rOfB, rOfC]; first | (rw [if_pos (by unfold xC; omega)]; first | done | rfl) | (rw [if_neg (by unfold xC; omega)]; first | done | rfl) | (rw [if_pos (by unfold rBad; omega)]; first | done | rfl) | (rw [if_neg (by unfold rBad; omega)]; first | done | rfl)))), rfl⟩, ⟨(rfl : toAV (Al.look _ _) = some _).trans (congrArg some (by (simp only [qa, qb, qc, ne_eq, beq_iff_eq, qd, qe] at *; simp only [iv, uv, Rg.av, ofR, ofC, rOfA, rOfB, rOfC]; first | (rw [if_pos (by unfold xC; omega)]; first | done | rfl) | (rw [if_neg (by unfold xC; omega)]; first | done | rfl) | (rw [if_pos (by unfold rBad; omega)]; first | done | rfl) | (rw [if_neg (by unfold rBad; omega)]; first | done | rfl)))), rfl⟩, trivial⟩
  · rw [hb1]
    refine zO rfl rfl (zC rfl rfl) <| zO rfl rfl (s_neI rfl rfl rfl) <| g_u (zr rfl rfl rfl) <| g_u (zC rfl rfl) <| yL (t := 27) rfl ?_
    rintro (hb2 | hb2)
    · rw [hb2]
      refine zI rfl rfl rfl <| zI rfl rfl rfl <| zI rfl rfl rfl <| zI rfl rfl rfl <| g_u (zZ rfl rfl rfl) <| zH <| zA <| zg rfl <| zD <| zB <| g_u (zE rfl rfl) <| g_u (zE rfl rfl) <| g_u (zE rfl rfl) <| zH <| zA <| zQ <| zM ?_
      exact ⟨⟨(rfl : toAV (Al.look _ _) = some _).trans (congrArg some (by (simp only [qa, qb, qc, ne_eq, beq_iff_eq, qd, qe] at *; simp only [iv, uv, Rg.av, ofR, ofC, rOfA, rOfB, rOfC]; first | (rw [if_pos (by unfold xC; omega)]; first | done | rfl) | (rw [if_neg (by unfold xC; omega)]; first | done | rfl) | (rw [if_pos (by unfold rBad; omega)]; first | done | rfl) | (rw [if_neg (by unfold rBad; omega)]; first | done | rfl)))), rfl⟩, ⟨(rfl : toAV (Al.look _ _) = some _).trans (congrArg some (by (simp only [qa, qb, qc, ne_eq, beq_iff_eq, qd, qe] at *; simp only [iv, uv, Rg.av, ofR, ofC, rOfA, rOfB, rOfC]; first | (rw [if_pos (by unfold xC; omega)]; first | done | rfl) | (rw [if_neg (by unfold xC; omega)]; first | done | rfl) | (rw [if_pos (by unfold rBad; omega)]; first | done | rfl) | (rw [if_neg (by unfold rBad; omega)]; first | done | rfl)))), rfl⟩, ⟨(rfl : toAV (Al.look _ _) = some _).trans (congrArg some (by (simp only [qa, qb, qc, ne_eq, beq_iff_eq, qd, qe] at *; simp only [iv, uv, Rg.av, ofR, ofC, rOfA, rOfB, rOfC]; first | (rw [if_pos (by unfold xC; omega)]; first | done | rfl) | (rw [if_neg (by unfold xC; omega)]; first | done | rfl) | (rw [if_pos (by unfold rBad; omega)]; first | done | rfl) | (rw [if_neg (by unfold rBad; omega)]; first | done | rfl)))), rfl⟩, trivial⟩
    · rw [hb2]
      refine zO rfl rfl (zC rfl rfl) <| zO rfl rfl (zC rfl rfl) <| zO rfl rfl (s_sub rfl rfl rfl) <| zO rfl rfl (s_gtI rfl rfl rfl) <| g_u (zr rfl rfl rfl) <| zH <| zA ?_
      refine zV rfl (fun hb3 => ?_) (fun hb3 => ?_)
      · refine zD ?_
        refine zB <| g_u (zE rfl rfl) <| g_u (zE rfl rfl) <| g_u (zE rfl rfl) <| zH <| zA <| zQ <| zM ?_
        exact ⟨⟨(rfl : toAV (Al.look _ _) = some _).trans (congrArg some (by (simp only [qa, qb, qc, ne_eq, beq_iff_eq, qd, qe] at *; simp only [iv, uv, Rg.av, ofR, ofC, rOfA, rOfB, rOfC]; first | (rw [if_pos (by unfold xC; omega)]; first | done | rfl) | (rw [if_neg (by unfold xC; omega)]; first | done | rfl) | (rw [if_pos (by unfold rBad; omega)]; first | done | rfl) | (rw [if_neg (by unfold rBad; omega)]; first | done | rfl)))), rfl⟩, ⟨(rfl : toAV (Al.look _ _) = some _).trans (congrArg some (by (simp only [qa, qb, qc, ne_eq, beq_iff_eq, qd, qe] at *; simp only [iv, uv, Rg.av, ofR, ofC, rOfA, rOfB, rOfC]; first | (rw [if_pos (by unfold xC; omega)]; first | done | rfl) | (rw [if_neg (by unfold xC; omega)]; first | done | rfl) | (rw [if_pos (by unfold rBad; omega)]; first | done | rfl) | (rw [if_neg (by unfold rBad; omega)]; first | done | rfl)))), rfl⟩, ⟨(rfl : toAV (Al.look _ _) = some _).trans (congrArg some (by (simp only [qa, qb, qc, ne_eq, beq_iff_eq, qd, qe] at *; simp only [iv, uv, Rg.av, ofR, ofC, rOfA, rOfB, rOfC]; first | (rw [if_pos (by unfold xC; omega)]; first | done | rfl) | (rw [if_neg (by unfold xC; omega)]; first | done | rfl) | (rw [if_pos (by unfold rBad; omega)]; first | done | rfl) | (rw [if_neg (by unfold rBad; omega)]; first | done | rfl)))), rfl⟩, trivial⟩
      · refine zY ?_
        refine zA <| zD <| zB <| g_u (zC rfl rfl) <| g_u (zC rfl rfl) <| g_u (zC rfl rfl) <| g_u (yK rfl rfl rfl) <| g_u (zE rfl rfl) <| g_u (zE rfl rfl) <| g_u (zE rfl rfl) <| zH <| zA <| zQ ?_
        exact ⟨⟨(rfl : toAV (Al.look _ _) = some _).trans (congrArg some (by (simp only [qa, qb, qc, ne_eq, beq_iff_eq, qd, qe] at *; simp only [iv, uv, Rg.av, ofR, ofC, rOfA, rOfB, rOfC]; first | (rw [if_pos (by unfold xC; omega)]; first | done | rfl) | (rw [if_neg (by unfold xC; omega)]; first | done | rfl) | (rw [if_pos (by unfold rBad; omega)]; first | done | rfl) | (rw [if_neg (by unfold rBad; omega)]; first | done | rfl)))), rfl⟩, ⟨(rfl : toAV (Al.look _ _) = some _).trans (congrArg some (by (simp only [qa, qb, qc, ne_eq, beq_iff_eq, qd, qe] at *; simp only [iv, uv, Rg.av, ofR, ofC, rOfA, rOfB, rOfC]; first | (rw [if_pos (by unfold xC; omega)]; first | done | rfl) | (rw [if_neg (by unfold xC; omega)]; first | done | rfl) | (rw [if_pos (by unfold rBad; omega)]; first | done | rfl) | (rw [if_neg (by unfold rBad; omega)]; first | done | rfl)))), rfl⟩, ⟨(rfl : toAV (Al.look _ _) = some _).trans (congrArg some (by (simp only [qa, qb, qc, ne_eq, beq_iff_eq, qd, qe] at *; simp only [iv, uv, Rg.av, ofR, ofC, rOfA, rOfB, rOfC]; first | (rw [if_pos (by unfold xC; omega)]; first | done | rfl) | (rw [if_neg (by unfold xC; omega)]; first | done | rfl) | (rw [if_pos (by unfold rBad; omega)]; first | done | rfl) | (rw [if_neg (by unfold rBad; omega)]; first | done | rfl)))), rfl⟩, trivial⟩
theorem whole_c (r : Rg) : zo Tryd.prog Γ0 31 [r.av] [(y7 r).av] := by
  refine zf Tryd.func31 rfl Tryd.ntmps31 (by kernel_rfl) rfl fun w0 I0 G0 => ?_
  refine zD <| zB <| g_uG (zn 1001 rfl rfl rfl rfl) rfl <| g_uG (z0 1002 rfl rfl rfl tZ81) rfl <| zH <| zA <| zD <| yM y6 <| g_u (zG rfl rfl rfl tA81 tS81 rfl rfl) <| g_u (zR (Begun_c _) rfl rfl) <| g_u (zG rfl rfl rfl tA81 tS81 rfl rfl) <| g_u (zR (Lasts_c _) rfl rfl) <| g_u (w_ (of_c _ _) rfl rfl) <| g_u (xV rfl rfl) <| g_u (zi rfl rfl rfl rfl) <| g_u (zi rfl rfl rfl rfl) <| g_uG (z0 1003 rfl rfl rfl tZ81) rfl <| g_u (zX rfl rfl rfl tS81 rfl rfl) <| g_u (zE rfl rfl) ?_
  refine zH ⟨by kernel_rfl, ?_⟩
  refine zA <| zD <| zB <| g_u (yW rfl rfl rfl tA81 tS81 rfl rfl) <| g_u (zX rfl rfl rfl tS81 rfl rfl) <| zH <| zA <| zQ ?_
  exact ⟨⟨_, _, _, _, _, _, _, rfl, rfl, tA81, tS81, rfl, rfl, (rfl : toAV _ = some _).trans (congrArg some (by rfl))⟩, trivial⟩
attribute [local irreducible] y7 ofR
theorem rfine_c (s e : Int) : zo Tryd.prog Γ0 84 [uv s, uv e] [bv (rFine s e)] := by
  refine zf Tryd.func84 rfl Tryd.ntmps84 (by kernel_rfl) rfl fun w0 I0 G0 => ?_
  refine zD <| zB <| g_u (zE rfl rfl) <| zH <| zA <| zD <| zB <| g_u (zC rfl rfl) <| g_u (zC rfl rfl) <| g_u (s_leI rfl rfl rfl) <| g_u (zC rfl rfl) <| yL (t := 8) rfl ?_
  rintro (hb1 | hb1)
  · rw [hb1]
    refine zO rfl rfl (zC rfl rfl) <| zO rfl rfl (s_leI rfl rfl rfl) <| g_u (zZ rfl rfl rfl) <| g_u (zE rfl rfl) <| zH <| zA <| zQ ?_
    exact ⟨⟨(rfl : toAV (Al.look _ _) = some _).trans (congrArg some (by (simp only [bv, rFine, *]; rfl))), rfl⟩, trivial⟩
  · rw [hb1]
    refine zI rfl rfl rfl <| zI rfl rfl rfl <| g_u (zr rfl rfl rfl) <| g_u (zE rfl rfl) <| zH <| zA <| zQ ?_
    exact ⟨⟨(rfl : toAV (Al.look _ _) = some _).trans (congrArg some (by (simp only [bv, rFine, *]; rfl))), rfl⟩, trivial⟩
theorem rbegun_c (s e : Int) : zo Tryd.prog Γ0 64 [uv s, uv e] [iv (rBegun s e)] := by
  refine zf Tryd.func64 rfl Tryd.ntmps64 (by kernel_rfl) rfl fun w0 I0 G0 => ?_
  refine zD <| zB <| g_u (zE rfl rfl) <| zH <| zA <| zD <| zD <| zB <| g_u (zC rfl rfl) <| g_u (zC rfl rfl) <| g_u (zR (rfine_c _ _) rfl rfl) <| g_u (s_not rfl rfl) <| zH <| zA ?_
  refine zV rfl (fun hb1 => ?_) (fun hb1 => ?_)
  · refine zD ?_
    refine zB <| g_u (zE rfl rfl) <| zH <| zA <| zQ <| zM ?_
    exact ⟨⟨(rfl : toAV (Al.look _ _) = some _).trans (congrArg some (by (simp only [iv, rBegun, rLasts]; simp only [Bool.not_eq_true', Bool.not_eq_false'] at *; simp only [*]; rfl))), rfl⟩, trivial⟩
  · refine zY ?_
    refine zA <| zD <| zB <| g_u (zC rfl rfl) <| g_u (zR (rmicro_c _) rfl rfl) <| g_u (zE rfl rfl) <| zH <| zA <| zQ ?_
    exact ⟨⟨(rfl : toAV (Al.look _ _) = some _).trans (congrArg some (by (simp only [iv, rBegun, rLasts]; simp only [Bool.not_eq_true', Bool.not_eq_false'] at *; simp only [*]; rfl))), rfl⟩, trivial⟩
theorem rlasts_c (s e : Int) : zo Tryd.prog Γ0 65 [uv s, uv e] [iv (rLasts s e)] := by
  refine zf Tryd.func65 rfl Tryd.ntmps65 (by kernel_rfl) rfl fun w0 I0 G0 => ?_
  refine zD <| zB <| g_u (zE rfl rfl) <| zH <| zA <| zD <| zD <| zB <| g_u (zC rfl rfl) <| g_u (zC rfl rfl) <| g_u (zR (rfine_c _ _) rfl rfl) <| g_u (s_not rfl rfl) <| zH <| zA ?_
  refine zV rfl (fun hb1 => ?_) (fun hb1 => ?_)
  · refine zD ?_
    refine zB <| g_u (zE rfl rfl) <| zH <| zA <| zQ <| zM ?_
    exact ⟨⟨(rfl : toAV (Al.look _ _) = some _).trans (congrArg some (by (simp only [iv, rBegun, rLasts]; simp only [Bool.not_eq_true', Bool.not_eq_false'] at *; simp only [*]; rfl))), rfl⟩, trivial⟩
  · refine zY ?_
    refine zA <| zD <| zB <| g_u (zC rfl rfl) <| g_u (zC rfl rfl) <| g_u (s_sub rfl rfl rfl) <| g_u (zR (rmicro_c _) rfl rfl) <| g_u (zE rfl rfl) <| zH <| zA <| zQ ?_
    exact ⟨⟨(rfl : toAV (Al.look _ _) = some _).trans (congrArg some (by (simp only [iv, rBegun, rLasts]; simp only [Bool.not_eq_true', Bool.not_eq_false'] at *; simp only [*]; rfl))), rfl⟩, trivial⟩
theorem rwhole_c (s e : Int) : zo Tryd.prog Γ0 36 [uv s, uv e] [uv (rOfA (rBegun s e) (rLasts s e)), uv (rOfB (rBegun s e) (rLasts s e))] := by
  refine zf Tryd.func36 rfl Tryd.ntmps36 (by kernel_rfl) rfl fun w0 I0 G0 => ?_
  refine zD <| zB <| g_u (zE rfl rfl) <| g_u (zE rfl rfl) <| zH <| zA <| zD <| zB <| g_u (zC rfl rfl) <| g_u (zC rfl rfl) <| g_u (zR (rbegun_c _ _) rfl rfl) <| g_u (zC rfl rfl) <| g_u (zC rfl rfl) <| g_u (zR (rlasts_c _ _) rfl rfl) <| g_u (s_call3 (rof_c _ _) rfl rfl) <| g_u (xV rfl rfl) <| g_u (zi rfl rfl rfl rfl) <| g_u (zi rfl rfl rfl rfl) <| g_u (zi rfl rfl rfl rfl) <| g_u (zE rfl rfl) <| g_u (zE rfl rfl) <| g_u (zE rfl rfl) <| zH <| zA <| zD <| zB <| g_u (zC rfl rfl) <| g_u (zC rfl rfl) <| g_u (zE rfl rfl) <| g_u (zE rfl rfl) <| zH <| zA <| zQ ?_
  exact ⟨⟨(rfl : toAV (Al.look _ _) = some _).trans (congrArg some (by rfl)), rfl⟩, ⟨(rfl : toAV (Al.look _ _) = some _).trans (congrArg some (by rfl)), rfl⟩, trivial⟩
end Go.Proofs
namespace Go.Proofs
open Go Go.Al
set_option maxRecDepth 10000
theorem rwholeN_c (n : Int) : zo Tryd.prog Γ0 39 [uv n] [uv (wholeN n)] := by
  refine zf Tryd.func39 rfl Tryd.ntmps39 (by kernel_rfl) rfl fun w0 I0 G0 => ?_
  refine zD <| zB <| g_u (zE rfl rfl) <| zH <| zA <| zD <| zB <| g_u (zC rfl rfl) <| g_u (zR (rmicro_c _) rfl rfl) <| g_u (w_ (rnano_c _) rfl rfl) <| g_u (xV rfl rfl) <| g_u (zi rfl rfl rfl rfl) <| g_u (zi rfl rfl rfl rfl) <| g_u (zE rfl rfl) <| g_u (zE rfl rfl) <| zH <| zA <| zD <| zB <| g_u (zC rfl rfl) <| g_u (zE rfl rfl) <| zH <| zA <| zQ ?_
  exact ⟨⟨(rfl : toAV (Al.look _ _) = some _).trans (congrArg some (by (rw [← nano_same]; rfl))), rfl⟩, trivial⟩
theorem named_c (l : List GA) (t : ByteArray) (hr : risA none l) (hl : l.length ≤ 10000000) : zo Tryd.prog Γ0 70 [(.sl 7 (l.map avA)), sv t] [.sl 7 ((xw l t).map avA)] := by
  refine zf Tryd.func70 rfl Tryd.ntmps70 (by kernel_rfl) rfl fun w0 I0 G0 => ?_
  refine zD <| zB <| g_u (zE rfl rfl) <| zH <| zA <| zD <| zD <| zB <| g_u (zC rfl rfl) <| g_u (s_eqS rfl rfl rfl) <| zH <| zA ?_
  refine zV rfl (fun hb1 => ?_) (fun hb1 => ?_)
  · have q : t = ⟨#[]⟩ := by have e := hb1; rw [yg] at e; exact of_decide_eq_true e
    refine zD <| zB <| g_u (zC rfl rfl) <| g_u (ze (X0 := z9) rfl Tryd.underlying37 tS9 tZ9 rfl rfl rfl rfl rfl rfl rfl rfl) ?_
    refine g_u (zR (drop_c l [skey] hl (by decide)) rfl rfl) ?_
    refine g_u (zE rfl rfl) <| zH <| zA <| zQ <| zM ?_
    exact ⟨⟨(rfl : toAV (Al.look _ _) = some _).trans (congrArg some (by (exact congrArg (fun x : List GA => AV.sl 7 (x.map avA)) (by unfold xw; first | rw [if_pos q] | (rw [if_neg q]; done) | rw [if_neg q, into_drop hr])))), rfl⟩, trivial⟩
  · have q : ¬ t = ⟨#[]⟩ := by have e := hb1; rw [yg] at e; exact of_decide_eq_false e
    refine zY <| zA <| zD <| zB <| g_u (zC rfl rfl) <| g_u (zC rfl rfl) <| g_u (yh rfl tU71 us71 pl71 rfl rfl rfl rfl) <| g_u (zR (putA_c l skey (tv t) hr hl) rfl rfl) <| g_u (zE rfl rfl) <| zH <| zA <| zQ ?_
    exact ⟨⟨(rfl : toAV (Al.look _ _) = some _).trans (congrArg some (by (exact congrArg (fun x : List GA => AV.sl 7 (x.map avA)) (by unfold xw; first | rw [if_pos q] | (rw [if_neg q]; done) | rw [if_neg q, into_drop hr])))), rfl⟩, trivial⟩
theorem rnamed_c (l : List GA) (t : ByteArray) (hr : risA none l) (hl : l.length ≤ 10000000) : zo Tryd.prog Γ0 41 [(.sl 7 (l.map avA)), sv t] [.sl 7 ((xw l t).map avA)] := by
  have hdl := dropA_len [skey] l
  refine zf Tryd.func41 rfl Tryd.ntmps41 (by kernel_rfl) rfl fun w0 I0 G0 => ?_
  refine zD <| zB <| g_u (zE rfl rfl) <| zH <| zA <| zD <| zB <| g_u (zC rfl rfl) <| g_u (ze (X0 := z9) rfl Tryd.underlying37 tS9 tZ9 rfl rfl rfl rfl rfl rfl rfl rfl) ?_
  refine g_u (zR (rdrop_c l [skey] hl (by decide)) rfl rfl) ?_
  refine g_u (zE rfl rfl) <| zH <| zA <| zD <| zD <| zB <| g_u (zC rfl rfl) <| g_u (s_eqS rfl rfl rfl) <| zH <| zA ?_
  refine zV rfl (fun hb1 => ?_) (fun hb1 => ?_)
  · have q : t = ⟨#[]⟩ := by have e := hb1; rw [yg] at e; exact of_decide_eq_true e
    refine zD <| zB <| g_u (zC rfl rfl) <| g_u (zE rfl rfl) <| zH <| zA <| zQ <| zM ?_
    exact ⟨⟨(rfl : toAV (Al.look _ _) = some _).trans (congrArg some (by (exact congrArg (fun x : List GA => AV.sl 7 (x.map avA)) (by unfold xw; first | rw [if_pos q] | (rw [if_neg q]; done) | rw [if_neg q, into_drop hr])))), rfl⟩, trivial⟩
  · have q : ¬ t = ⟨#[]⟩ := by have e := hb1; rw [yg] at e; exact of_decide_eq_false e
    refine zY <| zA <| zD <| zB <| g_u (zC rfl rfl) <| g_u (zC rfl rfl) <| g_u (yh rfl tU71 us71 pl71 rfl rfl rfl rfl) <| g_u (yh rfl tU73 us73 pl73 rfl rfl rfl rfl) ?_
    refine g_u (zR (into_c (yu [skey] l) (.mk skey (tv t)) (by omega)) rfl rfl) ?_
    refine g_u (zE rfl rfl) <| zH <| zA <| zQ ?_
    exact ⟨⟨(rfl : toAV (Al.look _ _) = some _).trans (congrArg some (by (exact congrArg (fun x : List GA => AV.sl 7 (x.map avA)) (by unfold xw; first | rw [if_pos q] | (rw [if_neg q]; done) | rw [if_neg q, into_drop hr])))), rfl⟩, trivial⟩
end Go.Proofs
namespace Go.Proofs
open Go Go.Al
theorem wholeN_rg (n : Int) : u64 (wholeN n) := by have := nano_rg (microM n); unfold u64 wholeN; omega
theorem ofR_rg (b l : Int) : u64 (ofR b l).lo ∧ u64 (ofR b l).hi := by
  have h := nano_rg b
  unfold ofR
  split
  · unfold u64; simp
  · refine ⟨by unfold u64; dsimp only; omega, ?_⟩
    unfold u64
    dsimp only
    simp only [IntKind.wrap, IntKind.bits, IntKind.signed, Bool.false_and, Bool.false_eq_true, if_false]
    omega
theorem wholeN_idem {n : Int} (h : u64 n) : wholeN (wholeN n) = wholeN n := by
  have h1 := micro_eq h.1 h.2
  have hr := wholeN_rg n
  have h2 := micro_eq hr.1 hr.2
  unfold wholeN at h2 ⊢
  rw [h2]
  rw [h1]
  rcases Int.lt_or_le 9223372036854775 (n / 1000) with h3 | h3
  · rw [(nano_bad (.inr h3)).1]; exact (nano_ok (by decide) (by decide)).1
  · have h0 : 0 ≤ n / 1000 := by have := h.1; omega
    rw [(nano_ok h0 h3).1, show n / 1000 * 1000 / 1000 = n / 1000 by omega, (nano_ok h0 h3).1]
theorem wholeM_idem {s e : Int} (hs : u64 s) (he : u64 e) : y7 ⟨(y7 ⟨s, e⟩).lo, (y7 ⟨s, e⟩).hi⟩ = y7 ⟨s, e⟩ := by
  cases hf : rFine s e
  · rw [whole_bad hf]
    rw [whole_fine (s := 0) (e := 0) (by decide) (by decide)]; rfl
  · rw [whole_fine hs.1 hf]
    have h2 := (fine_iff s e).1 hf
    have h0 := hs.1
    rw [whole_fine (by dsimp only; omega) ((fine_iff _ _).2 ⟨by dsimp only; omega, by dsimp only; omega⟩)]
    dsimp only
    rw [show s / 1000 * 1000 / 1000 * 1000 = s / 1000 * 1000 by omega, show (s / 1000 * 1000 + (e - s) / 1000 * 1000 - s / 1000 * 1000) / 1000 * 1000 = (e - s) / 1000 * 1000 by omega]
theorem mapP_idem (ks : List Int) (l : List GA) : (l.map (yT ks)).map (yT ks) = l.map (yT ks) := by
  rw [List.map_map]; exact List.map_congr_left fun a _ => plainA_idem ks a
theorem map_into (ks : List Int) (a : GA) : ∀ l : List GA, (xp l a).map (yT ks) = xp (l.map (yT ks)) (yT ks a)
  | [] => rfl
  | x :: l => by
    rw [xp, List.map_cons, xp, plainA_key, plainA_key]
    split
    · rw [List.map_cons, map_into ks a l]
    · split <;> rfl
theorem getA_dropped (k : ByteArray) : ∀ l : List GA, getA (yu [k] l) k = none
  | [] => rfl
  | x :: l => by
    rw [yu]
    split
    · exact getA_dropped k l
    · rename_i h
      rw [getA, if_neg (by rintro rfl; simp at h), getA_dropped k l]
theorem textM_zero : vD zeroV = ⟨#[]⟩ := by rw [textE (by decide), simp6 (by decide)]; rfl
theorem textM_tv (t : ByteArray) : vD (tv t) = t := by rw [textE (v := tv t) (by rintro (h | h) <;> cases h), simp1 (v := tv t) rfl]; rfl
theorem plainA_tv (k t : ByteArray) : yT nJ (.mk k (tv t)) = .mk k (tv t) := by unfold yT; rw [if_neg]; show ¬ (nJ.any fun x => x == (1 : Int)) = true; decide
theorem kept_none (l : List GA) : keptA [] l = l.map (yT nJ) := dropA_nil _
theorem named_stays {l : List GA} (hr : risA none l) (t : ByteArray) : keptA [] (xw (keptA [] l) t) = xw (keptA [] l) t ∧ textA (xw (keptA [] l) t) skey = t := by
  have hk := ris_kept [] hr
  rw [kept_none (xw _ _), kept_none l]
  rw [kept_none] at hk
  unfold xw
  split
  · rename_i ht
    exact ⟨by rw [← vF, mapP_idem], by unfold textA; rw [getA_dropped, Option.getD_none, textM_zero, ht]⟩
  · exact ⟨by rw [map_into, plainA_tv, mapP_idem], by unfold textA; rw [getA_into _ _ _ none hk, Option.getD_some, textM_tv]⟩
theorem e0_ok : (⟨#[]⟩ : ByteArray).size ≤ maxLen := by decide
theorem skey_ok : skey.size ≤ maxLen := by decide
theorem tv_ok {t : ByteArray} (ht : t.size ≤ maxLen) : (tv t).ok := by
  rw [GV.ok_iff]
  exact ⟨by show (0 : Int) ≤ 1 ∧ (1 : Int) < 256; decide, ht, by show (-9223372036854775808 : Int) ≤ 0 ∧ (0 : Int) < 9223372036854775808; decide, by show (0 : Int) ≤ 0 ∧ (0 : Int) < 18446744073709551616; decide, (fun x h => by cases h), (fun x h => by cases h)⟩
theorem namedM_ok {l : List GA} {t : ByteArray} (ho : ∀ a ∈ l, a.ok) (ht : t.size ≤ maxLen) : ∀ a ∈ xw l t, a.ok := fun a h => by
  unfold xw at h
  split at h
  · exact ho a (dropA_mem h).1
  · rcases mem_intoA h with rfl | h
    · exact (GA.ok_iff _).2 ⟨skey_ok, tv_ok ht⟩
    · exact ho a h
theorem sumBy_map_le2 {α : Type} {f : α → α} {g : α → Nat} (k : Nat) (h : ∀ x, g (f x) ≤ k * g x) : ∀ l : List α, zw g (l.map f) ≤ k * zw g l
  | [] => by simp [zw]
  | x :: l => by simp only [List.map_cons, zw, Nat.mul_add]; have := h x; have := sumBy_map_le2 k h l; omega
theorem spansOf_wt : ∀ l : List GScope, zw GSpan.wt (yG l) ≤ zw GScope.wt l
  | [] => Nat.le_refl _
  | c :: l => by
    rw [yG, wA, zw]
    have := spansOf_wt l
    have h3 : c.wt = 1 + c.name.size + c.version.size + zw GSpan.wt c.spans := rfl
    omega
theorem namedM_wt (l : List GA) (t : ByteArray) : wtAs (xw l t) ≤ wtAs l + 13 + t.size := by
  unfold xw; split
  · have := dropA_wt [skey] l; omega
  · have h1 := wt_intoA l (.mk skey (tv t))
    have h2 : (GA.mk skey (tv t)).wt = 12 + (1 + t.size + 0 + 0) := by rw [GA.wt_eq, GV.wt_eq]; rfl
    omega
end Go.Proofs
namespace Go.Proofs
open Go Go.Al
set_option maxRecDepth 10000
theorem plR_len : ∀ (i : Nat) (l : List GRes), (plR i l).length ≤ zw GRes.wt l
  | _, [] => Nat.le_refl _
  | i, r :: l => by
    rw [plR, List.length_append, plC_len, zw]
    have h1 := plR_len (i + 1) l
    have h2 := spansOf_len r.scopes
    have h3 : r.wt = 1 + wtAs r.attrs + zw GScope.wt r.scopes := rfl
    omega
def p00 : Nat × Nat × Nat := (0, 0, 0)
def nthP (l : List (Nat × Nat × Nat)) (i : Nat) : Nat × Nat × Nat := nth l i p00
theorem ixP {l : List (Nat × Nat × Nat)} {i : Nat} (h : i < l.length) : (l.map plav)[((i : Nat) : Int).toNat]? = some (plav (nthP l i)) := wl (d := p00) h
theorem nthP_mem {l : List (Nat × Nat × Nat)} {i : Nat} (h : i < l.length) : nthP l i ∈ l := nth_mem h
set_option maxHeartbeats 2000000 in
theorem places_c (b : List GRes) (hw : wtB b ≤ 9000000) : zo Tryd.prog Γ0 10 [yV b] [.sl 3 ((plR 0 b).map plav)] := by
  have ql := yn GRes.wt (fun e => by unfold GRes.wt; omega) b
  have qw : wtB b = zw GRes.wt b := rfl
  refine zf Tryd.func10 rfl Tryd.ntmps10 (by kernel_rfl) rfl fun w0 I0 G0 => ?_
  refine zD <| zB <| g_uG (zn 1001 rfl rfl rfl rfl) rfl <| g_u (zE rfl rfl) <| zH <| zA <| zD <| zB <| g_u (zE rfl rfl) <| zH <| zA <| zD <| zD <| xN 3003 3 3 rfl rfl rfl rfl <| zB <| g_u (zE rfl rfl) <| zH <| zA <| zT ?_
  refine zq (fun i : Nat => [(1, .ptr 1001 0), (1001, .box 24 (.imm (yV b))), (3, .slg 3003 3 (((plR 0 (b.take i))).map plav)), (3003, .tok 3 (((plR 0 (b.take i))).map plav)), (4, .imm (iv (i : Int)))]) (fun i => i ≤ b.length) (fun i => b.length - i) (0) ?_ ⟨rfl, rfl, rfl, rfl, rfl, trivial⟩ ?_
  · exact Nat.zero_le _
  · rintro i h1; have h1 : i ≤ b.length := h1
    refine zD <| zD <| zB <| g_u (zC rfl rfl) <| g_u (zF rfl rfl xA rfl) <| g_u (zG rfl rfl rfl tA22 tS22 rfl rfl) <| g_u (zz rfl rfl Tryd.underlying22) <| g_u (yd rfl rfl rfl) <| zH <| zA ?_
    refine zV rfl (fun hb1 => ?_) (fun hb1 => ?_)
    · have hi : i < b.length := by have := of_decide_eq_true hb1; (try simp only [List.length_map] at this); omega
      have hrx := y_ GRes.wt (wd hi)
      have hrq : (nthR b i).wt = 1 + wtAs (nthR b i).attrs + zw GScope.wt (nthR b i).scopes := rfl
      have hcl := yn GScope.wt (fun e => by unfold GScope.wt; omega) (nthR b i).scopes
      have hl1 : (plR 0 (b.take i)).length ≤ 9000000 := by have h1 := plR_len 0 (b.take i); have h2 := sumBy_take GRes.wt b i; omega
      refine zY <| zA <| zD <| zT <| zD <| zB <| g_u (zE rfl rfl) <| zH <| zA <| zT ?_
      refine zq (fun k : Nat => [(1, .ptr 1001 0), (1001, .box 24 (.imm (yV b))), (3, .slg 3003 3 (((plR 0 (b.take i)) ++ (plC i 0 ((nthR b i).scopes.take k))).map plav)), (3003, .tok 3 (((plR 0 (b.take i)) ++ (plC i 0 ((nthR b i).scopes.take k))).map plav)), (4, .imm (iv (i : Int))), (5, .imm (iv (k : Int)))]) (fun k => k ≤ (nthR b i).scopes.length) (fun k => (nthR b i).scopes.length - k) (0) ?_ ⟨rfl, rfl, yU rfl (by simp [plC]), yB rfl (by simp [plC]), rfl, rfl, trivial⟩ ?_
      · exact Nat.zero_le _
      · rintro k g1; have g1 : k ≤ (nthR b i).scopes.length := g1
        refine zD <| zD <| zB <| g_u (zC rfl rfl) <| g_u (zF rfl rfl xA rfl) <| g_u (zG rfl rfl rfl tA22 tS22 rfl rfl) <| g_u (zC rfl rfl) ?_
        refine g_u (zJ rfl rfl rfl Tryd.underlying22 tS61 (by omega) (ixR hi)) ?_
        refine g_u (zL rfl rfl wX rfl rfl) <| g_u (zN rfl rfl tA59 tS59 rfl rfl) <| g_u (zz rfl rfl Tryd.underlying59) <| g_u (yd rfl rfl rfl) <| zH <| zA ?_
        refine zV rfl (fun hb2 => ?_) (fun hb2 => ?_)
        · have hk : k < (nthR b i).scopes.length := by have := of_decide_eq_true hb2; (try simp only [List.length_map] at this); omega
          have hcx := y_ GScope.wt (nthC_mem hk)
          have hcq : (nthC (nthR b i).scopes k).wt = 1 + (nthC (nthR b i).scopes k).name.size + (nthC (nthR b i).scopes k).version.size + zw GSpan.wt (nthC (nthR b i).scopes k).spans := rfl
          have hsl := yn GSpan.wt (fun e => by unfold GSpan.wt; omega) (nthC (nthR b i).scopes k).spans
          have hl2 : (plC i 0 ((nthR b i).scopes.take k)).length ≤ 9000000 := by have h1 := plC_len i 0 ((nthR b i).scopes.take k); have h2 := spansOf_len ((nthR b i).scopes.take k); have h3 := sumBy_take GScope.wt (nthR b i).scopes k; omega
          refine zY <| zA <| zD <| zT <| zD <| zB <| g_u (zE rfl rfl) <| zH <| zA <| zT ?_
          refine zq (fun m : Nat => [(1, .ptr 1001 0), (1001, .box 24 (.imm (yV b))), (3, .slg 3003 3 (((plR 0 (b.take i)) ++ (plC i 0 ((nthR b i).scopes.take k)) ++ ((List.range m).map fun m => (i, k, m))).map plav)), (3003, .tok 3 (((plR 0 (b.take i)) ++ (plC i 0 ((nthR b i).scopes.take k)) ++ ((List.range m).map fun m => (i, k, m))).map plav)), (4, .imm (iv (i : Int))), (5, .imm (iv (k : Int))), (6, .imm (iv (m : Int)))]) (fun m => m ≤ (nthC (nthR b i).scopes k).spans.length) (fun m => (nthC (nthR b i).scopes k).spans.length - m) (0) ?_ ⟨rfl, rfl, yU rfl (by simp), yB rfl (by simp), rfl, rfl, rfl, trivial⟩ ?_
          · exact Nat.zero_le _
          · rintro m f1; have f1 : m ≤ (nthC (nthR b i).scopes k).spans.length := f1
            refine zD <| zD <| zB <| g_u (zC rfl rfl) <| g_u (zF rfl rfl xA rfl) <| g_u (zG rfl rfl rfl tA22 tS22 rfl rfl) <| g_u (zC rfl rfl) ?_
            refine g_u (zJ rfl rfl rfl Tryd.underlying22 tS61 (by omega) (ixR hi)) ?_
            refine g_u (zL rfl rfl wX rfl rfl) <| g_u (zN rfl rfl tA59 tS59 rfl rfl) <| g_u (zC rfl rfl) ?_
            refine g_u (zJ rfl rfl rfl Tryd.underlying59 tS64 (by omega) (ixC hk)) ?_
            refine g_u (zL rfl rfl fa64_2 rfl rfl) <| g_u (zN rfl rfl tA44 tS44 rfl rfl) <| g_u (zz rfl rfl Tryd.underlying44) <| g_u (yd rfl rfl rfl) <| zH <| zA ?_
            refine zV rfl (fun hb3 => ?_) (fun hb3 => ?_)
            · have hm : m < (nthC (nthR b i).scopes k).spans.length := by have := of_decide_eq_true hb3; (try simp only [List.length_map] at this); omega
              refine zY <| zA <| zD <| zT <| zB <| g_u (zs rfl rfl) <| g_u (zC rfl rfl) <| g_u (zC rfl rfl) <| g_u (zC rfl rfl) <| g_u (yh rfl tU47 us47 pl47 rfl rfl rfl rfl) <| g_u (ze (X0 := z47) rfl Tryd.underlying42 tS47 tZ47 rfl rfl rfl rfl rfl rfl rfl rfl) ?_
              refine g_u (z8 rfl rfl rfl rfl rfl Tryd.underlying42 Tryd.underlying42 tS47 zv47 rfl (by decide) by47 (by (try dsimp only); simp only [List.length_append, List.length_cons, List.length_nil, List.length_map, List.length_range]; omega) (by (try dsimp only); simp only [List.length_append, List.length_cons, List.length_nil, List.length_map, List.length_range]; omega)) ?_
              refine g_u (zx rfl rfl) <| zH <| zW <| zA <| zB <| g_u (zC rfl rfl) <| g_u (yK rfl rfl rfl) <| g_u (zE rfl rfl) <| zH <| zA ?_
              have et : (((plR 0 (b.take i)) ++ (plC i 0 ((nthR b i).scopes.take k)) ++ ((List.range (m + 1)).map fun m => (i, k, m))).map plav) = (((plR 0 (b.take i)) ++ (plC i 0 ((nthR b i).scopes.take k)) ++ ((List.range m).map fun m => (i, k, m))).map plav) ++ [plav (i, k, m)] := by rw [range_snoc, ← List.append_assoc, List.map_append]; rfl
              refine ⟨m + 1, hm, ⟨rfl, rfl, yU rfl et.symm, yB rfl et.symm, rfl, rfl, zd rfl (by rw [z_ (by omega) (by omega)]; rfl), trivial⟩, by (try dsimp only); omega⟩
            · have hmn : m = (nthC (nthR b i).scopes k).spans.length := by have := of_decide_eq_false hb3; (try simp only [List.length_map] at this); omega
              refine zt <| zP <| zP <| zj <| zW <| zA <| zB <| g_u (zC rfl rfl) <| g_u (yK rfl rfl rfl) <| g_u (zE rfl rfl) <| zH <| zA ?_
              have et : (((plR 0 (b.take i)) ++ (plC i 0 ((nthR b i).scopes.take (k + 1)))).map plav) = (((plR 0 (b.take i)) ++ (plC i 0 ((nthR b i).scopes.take k)) ++ ((List.range m).map fun m => (i, k, m))).map plav) := by rw [plC_take hk, hmn, List.append_assoc]
              refine ⟨k + 1, hk, ⟨rfl, rfl, yU rfl et.symm, yB rfl et.symm, rfl, zd rfl (by rw [z_ (by omega) (by omega)]; rfl), trivial⟩, by (try dsimp only); omega⟩
        · have hkn : k = (nthR b i).scopes.length := by have := of_decide_eq_false hb2; (try simp only [List.length_map] at this); omega
          refine zt <| zP <| zP <| zj <| zW <| zA <| zB <| g_u (zC rfl rfl) <| g_u (yK rfl rfl rfl) <| g_u (zE rfl rfl) <| zH <| zA ?_
          have et : ((plR 0 (b.take (i + 1))).map plav) = (((plR 0 (b.take i)) ++ (plC i 0 ((nthR b i).scopes.take k))).map plav) := by rw [plR_take hi, hkn, List.take_length]
          refine ⟨i + 1, hi, ⟨rfl, rfl, yU rfl et.symm, yB rfl et.symm, zd rfl (by rw [z_ (by omega) (by omega)]; rfl), trivial⟩, by (try dsimp only); omega⟩
    · have hin : i = b.length := by have := of_decide_eq_false hb1; (try simp only [List.length_map] at this); omega
      refine zt <| zP <| zP <| zj <| zA <| zD <| zB <| g_u (zs rfl rfl) <| g_u (zx rfl rfl) <| zH <| zA <| zQ ?_
      exact ⟨⟨(rfl : toAV (Al.look _ _) = some _).trans (congrArg some (by (rw [hin, List.take_length]))), rfl⟩, trivial⟩
end Go.Proofs
