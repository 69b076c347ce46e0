/- Texts that the proofs of this claim share, part 5: the abstract logic, plain Lean on values and batches, and walks. No condition but those typed in each lemma. -/
import Derived.Test.YtiolofgnkkhjoaaGreatDoorR4
set_option linter.unusedSimpArgs false
set_option linter.unusedVariables false
set_option maxHeartbeats 400000
namespace Go.Proofs
open Go Go.Al
set_option maxRecDepth 10000
set_option maxHeartbeats 4000000 in
theorem leftR_c (b : List GRes) (n : Int) (hn : -1000000000000 ≤ n ∧ n ≤ 1000000000) : zn Tryz.prog Γ0 6 [ya b, iv n] [iv (sL b n)] := by
  refine z_ Tryz.func6 rfl Tryz.ntmps6 (by kernel_rfl) rfl fun w0 I0 G0 => ?_
  refine zD <| zB <| g_uG (zk 1002 rfl rfl rfl rfl) rfl <| g_u (zE rfl rfl) <| zH <| zA <| zD <| zD <| zB <| g_u (zE rfl rfl) <| zH <| zA <| zU ?_
  refine zw (fun j : Nat × Int => [(2, .ptr 1002 0), (1002, .box 24 (.imm (ya b))), (1, .imm (iv j.2)), (5, .imm (iv (j.1 : Int)))]) (fun j => j.1 ≤ b.length ∧ (-1000000000000 ≤ j.2 ∧ j.2 ≤ 1000000000) ∧ ((j.1 : Int) ≤ n - j.2) ∧ sL b n = sL (b.drop j.1) j.2) (fun j => b.length - j.1) (⟨0, n⟩) ?_ ⟨rfl, rfl, rfl, rfl, trivial⟩ ?_
  · exact ⟨Nat.zero_le _, hn, by dsimp only; omega, rfl⟩
  · rintro ⟨i, m⟩ ⟨h1, h2, h3, h4⟩; dsimp only at h1 h2 h3 h4
    refine zD <| zD <| zB <| g_u (zC rfl rfl) <| g_u (zF rfl rfl uC rfl) <| g_u (zG rfl rfl rfl tA22 tS22 rfl rfl) <| g_u (z7 rfl rfl Tryz.underlying22) <| g_u (ye rfl rfl rfl) <| g_u (zC rfl rfl) <| yB (t := 14) rfl ?_
    rintro (hb1 | hb1)
    · rw [hb1]
      have hi : i < b.length := by have := of_decide_eq_true hb1; (try simp only [List.length_map] at this); omega
      refine zY rfl rfl (zC rfl rfl) <| zY rfl rfl (tD rfl rfl rfl) <| g_u (zZ rfl rfl rfl) <| zH <| zA ?_
      refine zN rfl (fun hb2 => ?_) (fun hb2 => ?_)
      · have hs : m ≥ 0 := of_decide_eq_true hb2
        have b1 := wa (nthR b i).attrs (m - 1)
        refine zQ <| zA <| zD <| zU <| zD <| zB <| g_u (zF rfl rfl uC rfl) <| g_u (zG rfl rfl rfl tA22 tS22 rfl rfl) <| g_u (zC rfl rfl) ?_
        refine g_u (zR rfl rfl rfl Tryz.underlying22 tS47 (by omega) (ixR hi)) ?_
        refine g_u (zd rfl rfl tA47 tS47 rfl rfl) <| g_uG (zy 1006 rfl rfl rfl tZ47) rfl <| g_u (zV rfl rfl rfl tS47 rfl rfl) <| zH <| zA <| zD <| zB <| g_u (zF rfl rfl fa47_0 rfl) <| g_u (zG rfl rfl rfl tA44 tS44 rfl rfl) <| g_u (zC rfl rfl) <| g_u (vW rfl rfl rfl) ?_
        refine g_u (zP (jX _ _ ⟨by ((try simp only [decide_eq_true_eq, decide_eq_false_iff_not, bne_iff_ne, ne_eq, beq_iff_eq, qd, beq_eq_false_iff_ne, Bool.not_eq_true', Bool.not_eq_false', gt_iff_lt, ge_iff_le] at *); (repeat simp (disch := omega) only [zO, zi] at *)); omega, by ((try simp only [decide_eq_true_eq, decide_eq_false_iff_not, bne_iff_ne, ne_eq, beq_iff_eq, qd, beq_eq_false_iff_ne, Bool.not_eq_true', Bool.not_eq_false', gt_iff_lt, ge_iff_le] at *); (repeat simp (disch := omega) only [zO, zi] at *)); omega⟩) rfl rfl) ?_
        refine g_u (zE rfl rfl) <| zH <| zA <| zD <| zB <| g_u (zE rfl rfl) <| zH <| zA <| zU ?_
        refine zw (fun j : Nat × Int => [(2, .ptr 1002 0), (1002, .box 24 (.imm (ya b))), (1, .imm (iv j.2)), (5, .imm (iv (i : Int))), (6, .ptr 1006 0), (1006, .box 47 (.imm (nthR b i).av)), (7, .imm (iv (j.1 : Int)))]) (fun j => j.1 ≤ (nthR b i).scopes.length ∧ (-1000000000000 ≤ j.2 ∧ j.2 ≤ 1000000000) ∧ ((j.1 : Int) ≤ (yS (nthR b i).attrs (m - 1)) - j.2) ∧ uZ (nthR b i).scopes (yS (nthR b i).attrs (m - 1)) = uZ ((nthR b i).scopes.drop j.1) j.2) (fun j => (nthR b i).scopes.length - j.1) (⟨0, (yS (nthR b i).attrs (m - 1))⟩) ?_ ⟨rfl, rfl, zX rfl (by rw [zO (by omega) (by omega)]), rfl, rfl, rfl, rfl, trivial⟩ ?_
        · exact ⟨Nat.zero_le _, ⟨by dsimp only; omega, by dsimp only; omega⟩, by simp, rfl⟩
        · rintro ⟨k, m1⟩ ⟨g1, g2, g3, g4⟩; dsimp only at g1 g2 g3 g4
          refine zD <| zD <| zB <| g_u (zC rfl rfl) <| g_u (zF rfl rfl wj rfl) <| g_u (zG rfl rfl rfl tA45 tS45 rfl rfl) <| g_u (z7 rfl rfl Tryz.underlying45) <| g_u (ye rfl rfl rfl) <| g_u (zC rfl rfl) <| yB (t := 35) rfl ?_
          rintro (hb3 | hb3)
          · rw [hb3]
            have hk : k < (nthR b i).scopes.length := by have := of_decide_eq_true hb3; (try simp only [List.length_map] at this); omega
            refine zY rfl rfl (zC rfl rfl) <| zY rfl rfl (tD rfl rfl rfl) <| g_u (zZ rfl rfl rfl) <| zH <| zA ?_
            refine zN rfl (fun hb4 => ?_) (fun hb4 => ?_)
            · have hs1 : m1 ≥ 0 := of_decide_eq_true hb4
              refine zQ <| zA <| zD <| zU <| zD <| zD <| zB <| g_u (zF rfl rfl wj rfl) <| g_u (zG rfl rfl rfl tA45 tS45 rfl rfl) <| g_u (zC rfl rfl) ?_
              refine g_u (zR rfl rfl rfl Tryz.underlying45 tS51 (by omega) (ixC hk)) ?_
              refine g_u (zf rfl rfl fa51_0 rfl rfl) <| g_u (zd rfl rfl tA9 tS9 rfl rfl) <| g_u (yp rfl rfl Tryz.underlying9) <| g_u (zC rfl rfl) <| g_u (wD rfl rfl rfl) <| g_u (zC rfl rfl) <| yB (t := 50) rfl ?_
              rintro (hb5 | hb5)
              · rw [hb5]
                have hA : (((nthC (nthR b i).scopes k).name.size : Int) > m1) := of_decide_eq_true hb5
                refine zI rfl rfl rfl <| zI rfl rfl rfl <| zI rfl rfl rfl <| zI rfl rfl rfl <| zI rfl rfl rfl <| zI rfl rfl rfl <| zI rfl rfl rfl <| zI rfl rfl rfl <| zI rfl rfl rfl <| g_u (zZ rfl rfl rfl) <| zH <| zA <| zs rfl <| zD <| zB <| g_u (zE rfl rfl) <| zH <| zA <| zL <| zK <| zt <| zK <| zK <| zt <| zt <| zK <| zK <| zt <| zK ?_
                exact ⟨⟨(rfl : toAV (Al.look _ _) = some _).trans (congrArg some (by (exact congrArg iv (by first | (rw [h4, hfin]; done) | (rw [h4, wH hi (by omega), g4, v5 hk (by omega) (.inl hA), vT _ (by decide)]; done) | (rw [h4, wH hi (by omega), g4, v5 hk (by omega) (.inr hB), vT _ (by decide)]; done))))), rfl⟩, trivial⟩
              · rw [hb5]
                have hA : ¬ (((nthC (nthR b i).scopes k).name.size : Int) > m1) := of_decide_eq_false hb5
                refine zY rfl rfl (zF rfl rfl wj rfl) <| zY rfl rfl (zG rfl rfl rfl tA45 tS45 rfl rfl) <| zY rfl rfl (zC rfl rfl) ?_
                refine zY rfl rfl (zR rfl rfl rfl Tryz.underlying45 tS51 (by omega) (ixC hk)) ?_
                refine zY rfl rfl (zf rfl rfl fa51_1 rfl rfl) <| zY rfl rfl (zd rfl rfl tA9 tS9 rfl rfl) <| zY rfl rfl (yp rfl rfl Tryz.underlying9) <| zY rfl rfl (zC rfl rfl) <| zY rfl rfl (wD rfl rfl rfl) <| g_u (zh rfl rfl rfl) <| zH <| zA ?_
                refine zN rfl (fun hb6 => ?_) (fun hb6 => ?_)
                · have hB : (((nthC (nthR b i).scopes k).version.size : Int) > m1) := of_decide_eq_true hb6
                  refine zD <| zB <| g_u (zE rfl rfl) <| zH <| zA <| zL <| zK <| zt <| zK <| zK <| zt <| zt <| zK <| zK <| zt <| zK ?_
                  exact ⟨⟨(rfl : toAV (Al.look _ _) = some _).trans (congrArg some (by (exact congrArg iv (by first | (rw [h4, hfin]; done) | (rw [h4, wH hi (by omega), g4, v5 hk (by omega) (.inl hA), vT _ (by decide)]; done) | (rw [h4, wH hi (by omega), g4, v5 hk (by omega) (.inr hB), vT _ (by decide)]; done))))), rfl⟩, trivial⟩
                · have hB : ¬ (((nthC (nthR b i).scopes k).version.size : Int) > m1) := of_decide_eq_false hb6
                  refine zQ <| zA <| zD <| y_ xR <| g_u (zC rfl rfl) <| g_u (vW rfl rfl rfl) <| g_u (zF rfl rfl wj rfl) <| g_u (zG rfl rfl rfl tA45 tS45 rfl rfl) <| g_u (zC rfl rfl) ?_
                  refine g_u (zR rfl rfl rfl Tryz.underlying45 tS51 (by omega) (ixC hk)) ?_
                  refine g_u (zf rfl rfl fa51_0 rfl rfl) <| g_u (zd rfl rfl tA9 tS9 rfl rfl) <| g_u (yp rfl rfl Tryz.underlying9) <| g_u (vW rfl rfl rfl) <| g_u (zF rfl rfl wj rfl) <| g_u (zG rfl rfl rfl tA45 tS45 rfl rfl) <| g_u (zC rfl rfl) ?_
                  refine g_u (zR rfl rfl rfl Tryz.underlying45 tS51 (by omega) (ixC hk)) ?_
                  refine g_u (zf rfl rfl fa51_1 rfl rfl) <| g_u (zd rfl rfl tA9 tS9 rfl rfl) <| g_u (yp rfl rfl Tryz.underlying9) <| g_u (vW rfl rfl rfl) <| g_u (zE rfl rfl) ?_
                  refine zH ⟨by kernel_rfl, ?_⟩
                  refine zA <| zD <| zB <| g_u (zE rfl rfl) <| zH <| zA <| zU ?_
                  refine zw (fun j : Nat × Int => [(2, .ptr 1002 0), (1002, .box 24 (.imm (ya b))), (1, .imm (iv j.2)), (5, .imm (iv (i : Int))), (6, .ptr 1006 0), (1006, .box 47 (.imm (nthR b i).av)), (7, .imm (iv (k : Int))), (8, .imm (iv (j.1 : Int)))]) (fun j => j.1 ≤ (nthC (nthR b i).scopes k).spans.length ∧ (-1000000000000 ≤ j.2 ∧ j.2 ≤ 1000000000) ∧ ((j.1 : Int) ≤ (m1 - 1 - (nthC (nthR b i).scopes k).name.size - (nthC (nthR b i).scopes k).version.size) - j.2) ∧ wo (nthC (nthR b i).scopes k).spans (m1 - 1 - (nthC (nthR b i).scopes k).name.size - (nthC (nthR b i).scopes k).version.size) = wo ((nthC (nthR b i).scopes k).spans.drop j.1) j.2) (fun j => (nthC (nthR b i).scopes k).spans.length - j.1) (⟨0, (m1 - 1 - (nthC (nthR b i).scopes k).name.size - (nthC (nthR b i).scopes k).version.size)⟩) ?_ ⟨rfl, rfl, zX rfl (by (try dsimp only); rw [zO (n := m1 - 1) (by omega) (by omega), zO (n := m1 - 1 - (nthC (nthR b i).scopes k).name.size) (by omega) (by omega), zO (by omega) (by omega)]), rfl, rfl, rfl, rfl, rfl, trivial⟩ ?_
                  · exact ⟨Nat.zero_le _, ⟨by dsimp only; omega, by dsimp only; omega⟩, by simp, rfl⟩
                  · rintro ⟨q, m2⟩ ⟨f1, f2, f3, f4⟩; dsimp only at f1 f2 f3 f4
                    refine zD <| zD <| zB <| g_u (zC rfl rfl) <| g_u (zF rfl rfl wj rfl) <| g_u (zG rfl rfl rfl tA45 tS45 rfl rfl) <| g_u (zC rfl rfl) ?_
                    refine g_u (zR rfl rfl rfl Tryz.underlying45 tS51 (by omega) (ixC hk)) ?_
                    refine g_u (zf rfl rfl uM rfl rfl) <| g_u (zd rfl rfl tA49 tS49 rfl rfl) <| g_u (z7 rfl rfl Tryz.underlying49) <| g_u (ye rfl rfl rfl) <| g_u (zC rfl rfl) <| yB (t := 88) rfl ?_
                    rintro (hb7 | hb7)
                    · rw [hb7]
                      have hq : q < (nthC (nthR b i).scopes k).spans.length := by have := of_decide_eq_true hb7; (try simp only [List.length_map] at this); omega
                      refine zY rfl rfl (zC rfl rfl) <| zY rfl rfl (tD rfl rfl rfl) <| g_u (zZ rfl rfl rfl) <| zH <| zA ?_
                      refine zN rfl (fun hb8 => ?_) (fun hb8 => ?_)
                      · have hs2 : m2 ≥ 0 := of_decide_eq_true hb8
                        refine zQ <| zA <| zD <| zU <| zB <| g_u (zF rfl rfl wj rfl) <| g_u (zG rfl rfl rfl tA45 tS45 rfl rfl) <| g_u (zC rfl rfl) ?_
                        refine g_u (zR rfl rfl rfl Tryz.underlying45 tS51 (by omega) (ixC hk)) ?_
                        refine g_u (zf rfl rfl uM rfl rfl) <| g_u (zd rfl rfl tA49 tS49 rfl rfl) <| g_u (zC rfl rfl) ?_
                        refine g_u (zR rfl rfl rfl Tryz.underlying49 tS63 (by omega) (ixS hq)) ?_
                        refine g_u (zd rfl rfl tA63 tS63 rfl (by first | exact wh (GSpan.width _) rfl | rfl)) ?_
                        refine g_u (zC rfl rfl) ?_
                        refine g_u (zP (leftS_c _ _ ⟨by omega, by omega⟩) rfl rfl) ?_
                        refine g_u (zE rfl rfl) <| zH <| zW <| zA <| zB <| g_u (zC rfl rfl) <| g_u (z0 rfl rfl rfl) <| g_u (zE rfl rfl) <| zH <| zA ?_
                        have bs := leftS_bd (nthS (nthC (nthR b i).scopes k).spans q) (n := m2) (by omega)
                        have ed := leftSp_drop hq (m := m2) (by omega)
                        refine ⟨⟨q + 1, uP (nthS (nthC (nthR b i).scopes k).spans q) m2⟩, ⟨hq, by dsimp only; omega, by dsimp only; omega, by dsimp only; rw [f4, ed]⟩, ⟨rfl, rfl, rfl, rfl, rfl, rfl, rfl, zX rfl (by rw [zO (by omega) (by omega)]; rfl), trivial⟩, by dsimp only; omega⟩
                      · have hs2 : ¬ m2 ≥ 0 := of_decide_eq_false hb8
                        have hfin2 : wo (nthC (nthR b i).scopes k).spans (m1 - 1 - (nthC (nthR b i).scopes k).name.size - (nthC (nthR b i).scopes k).version.size) = m2 := by rw [f4]; exact leftSp_neg _ (by omega)
                        refine zz <| zT <| zT <| zq <| zW <| zA <| zB <| g_u (zC rfl rfl) <| g_u (z0 rfl rfl rfl) <| g_u (zE rfl rfl) <| zH <| zA ?_
                        have bp := jG (nthC (nthR b i).scopes k).spans (m1 - 1 - (nthC (nthR b i).scopes k).name.size - (nthC (nthR b i).scopes k).version.size)
                        have ed := leftC_drop hk (m := m1) (by omega) hA hB
                        refine ⟨⟨k + 1, m2⟩, ⟨hk, by dsimp only; omega, by dsimp only; omega, by dsimp only; rw [g4, ed, hfin2]⟩, ⟨rfl, rfl, rfl, rfl, rfl, rfl, zX rfl (by rw [zO (by omega) (by omega)]; rfl), trivial⟩, by dsimp only; omega⟩
                    · rw [hb7]
                      have hqn : q = (nthC (nthR b i).scopes k).spans.length := by have := of_decide_eq_false hb7; (try simp only [List.length_map] at this); omega
                      have hfin2 : wo (nthC (nthR b i).scopes k).spans (m1 - 1 - (nthC (nthR b i).scopes k).name.size - (nthC (nthR b i).scopes k).version.size) = m2 := by rw [f4, hqn, List.drop_length]; rfl
                      refine zI rfl rfl rfl <| zI rfl rfl rfl <| g_u (zh rfl rfl rfl) <| zH <| zA <| yD rfl <| zz <| zT <| zT <| zq <| zW <| zA <| zB <| g_u (zC rfl rfl) <| g_u (z0 rfl rfl rfl) <| g_u (zE rfl rfl) <| zH <| zA ?_
                      have bp := jG (nthC (nthR b i).scopes k).spans (m1 - 1 - (nthC (nthR b i).scopes k).name.size - (nthC (nthR b i).scopes k).version.size)
                      have ed := leftC_drop hk (m := m1) (by omega) hA hB
                      refine ⟨⟨k + 1, m2⟩, ⟨hk, by dsimp only; omega, by dsimp only; omega, by dsimp only; rw [g4, ed, hfin2]⟩, ⟨rfl, rfl, rfl, rfl, rfl, rfl, zX rfl (by rw [zO (by omega) (by omega)]; rfl), trivial⟩, by dsimp only; omega⟩
            · have hs1 : ¬ m1 ≥ 0 := of_decide_eq_false hb4
              have hfin1 : uZ (nthR b i).scopes (yS (nthR b i).attrs (m - 1)) = m1 := by rw [g4]; exact leftC_neg _ (by omega)
              refine zz <| zT <| zT <| zq <| zW <| zA <| zB <| g_u (zC rfl rfl) <| g_u (z0 rfl rfl rfl) <| g_u (zE rfl rfl) <| zH <| zA ?_
              have bc := leftC_bd (nthR b i).scopes (yS (nthR b i).attrs (m - 1))
              have ed := wH hi (m := m) (by omega)
              refine ⟨⟨i + 1, m1⟩, ⟨hi, by dsimp only; omega, by dsimp only; omega, by dsimp only; rw [h4, ed, hfin1]⟩, ⟨rfl, rfl, rfl, zX rfl (by rw [zO (by omega) (by omega)]; rfl), trivial⟩, by dsimp only; omega⟩
          · rw [hb3]
            have hkn : k = (nthR b i).scopes.length := by have := of_decide_eq_false hb3; (try simp only [List.length_map] at this); omega
            have hfin1 : uZ (nthR b i).scopes (yS (nthR b i).attrs (m - 1)) = m1 := by rw [g4, hkn, List.drop_length]; rfl
            refine zI rfl rfl rfl <| zI rfl rfl rfl <| g_u (zh rfl rfl rfl) <| zH <| zA <| yD rfl <| zz <| zT <| zT <| zq <| zW <| zA <| zB <| g_u (zC rfl rfl) <| g_u (z0 rfl rfl rfl) <| g_u (zE rfl rfl) <| zH <| zA ?_
            have bc := leftC_bd (nthR b i).scopes (yS (nthR b i).attrs (m - 1))
            have ed := wH hi (m := m) (by omega)
            refine ⟨⟨i + 1, m1⟩, ⟨hi, by dsimp only; omega, by dsimp only; omega, by dsimp only; rw [h4, ed, hfin1]⟩, ⟨rfl, rfl, rfl, zX rfl (by rw [zO (by omega) (by omega)]; rfl), trivial⟩, by dsimp only; omega⟩
      · have hs : ¬ m ≥ 0 := of_decide_eq_false hb2
        have hfin : sL (b.drop i) m = m := vT _ (by omega)
        refine zz <| zT <| zT <| zq <| zA <| zD <| zB <| g_u (zC rfl rfl) <| g_u (zE rfl rfl) <| zH <| zA <| zL ?_
        exact ⟨⟨(rfl : toAV (Al.look _ _) = some _).trans (congrArg some (by (exact congrArg iv (by first | (rw [h4, hfin]; done) | (rw [h4, wH hi (by omega), g4, v5 hk (by omega) (.inl hA), vT _ (by decide)]; done) | (rw [h4, wH hi (by omega), g4, v5 hk (by omega) (.inr hB), vT _ (by decide)]; done))))), rfl⟩, trivial⟩
    · rw [hb1]
      have hin : i = b.length := by have := of_decide_eq_false hb1; (try simp only [List.length_map] at this); omega
      have hfin : sL (b.drop i) m = m := by rw [hin, List.drop_length]; rfl
      refine zI rfl rfl rfl <| zI rfl rfl rfl <| g_u (zh rfl rfl rfl) <| zH <| zA <| yD rfl <| zz <| zT <| zT <| zq <| zA <| zD <| zB <| g_u (zC rfl rfl) <| g_u (zE rfl rfl) <| zH <| zA <| zL ?_
      exact ⟨⟨(rfl : toAV (Al.look _ _) = some _).trans (congrArg some (by (exact congrArg iv (by first | (rw [h4, hfin]; done) | (rw [h4, wH hi (by omega), g4, v5 hk (by omega) (.inl hA), vT _ (by decide)]; done) | (rw [h4, wH hi (by omega), g4, v5 hk (by omega) (.inr hB), vT _ (by decide)]; done))))), rfl⟩, trivial⟩
end Go.Proofs
namespace Go.Proofs
open Go Go.Al
set_option maxRecDepth 10000
theorem ris_c (r : Int) : zn Tryz.prog Γ0 163 [rv r] [bv (isR r)] := by
  refine z_ Tryz.func163 rfl Tryz.ntmps163 (by kernel_rfl) rfl fun w0 I0 G0 => ?_
  refine zD <| zB <| g_u (zE rfl rfl) <| zH <| zA <| zD <| zB <| g_u (zC rfl rfl) <| g_u (tD rfl rfl rfl) <| g_u (zC rfl rfl) <| yB (t := 5) rfl ?_
  rintro (hb1 | hb1)
  · rw [hb1]
    refine zY rfl rfl (zC rfl rfl) <| zY rfl rfl (s_leI rfl rfl rfl) <| g_u (zZ rfl rfl rfl) <| g_u (zC rfl rfl) <| yB (t := 9) rfl ?_
    rintro (hb2 | hb2)
    · rw [hb2]
      refine zY rfl rfl (zC rfl rfl) <| zY rfl rfl (ye rfl rfl rfl) <| zY rfl rfl (zC rfl rfl) <| yB (t := 12) rfl ?_
      rintro (hb3 | hb3)
      · rw [hb3]
        refine zI rfl rfl rfl <| zI rfl rfl rfl <| zY rfl rfl (zZ rfl rfl rfl) <| g_u (zZ rfl rfl rfl) <| g_u (zE rfl rfl) <| zH <| zA <| zL ?_
        exact ⟨⟨(rfl : toAV (Al.look _ _) = some _).trans (congrArg some (by (unfold isR; ((try simp only [decide_eq_true_eq, decide_eq_false_iff_not, bne_iff_ne, ne_eq, beq_iff_eq, qd, beq_eq_false_iff_ne, Bool.not_eq_true', Bool.not_eq_false', gt_iff_lt, ge_iff_le] at *); (repeat simp (disch := omega) only [zO, zi] at *)); refine congrArg bv ?_; first | exact (decide_eq_true (by omega)).symm | exact (decide_eq_false (by omega)).symm | exact decide_eq_decide.2 (by omega)))), rfl⟩, trivial⟩
      · rw [hb3]
        refine zY rfl rfl (zC rfl rfl) <| zY rfl rfl (wD rfl rfl rfl) <| zY rfl rfl (zh rfl rfl rfl) <| g_u (zZ rfl rfl rfl) <| g_u (zE rfl rfl) <| zH <| zA <| zL ?_
        exact ⟨⟨(rfl : toAV (Al.look _ _) = some _).trans (congrArg some (by (unfold isR; ((try simp only [decide_eq_true_eq, decide_eq_false_iff_not, bne_iff_ne, ne_eq, beq_iff_eq, qd, beq_eq_false_iff_ne, Bool.not_eq_true', Bool.not_eq_false', gt_iff_lt, ge_iff_le] at *); (repeat simp (disch := omega) only [zO, zi] at *)); refine congrArg bv ?_; first | exact (decide_eq_true (by omega)).symm | exact (decide_eq_false (by omega)).symm | exact decide_eq_decide.2 (by omega)))), rfl⟩, trivial⟩
    · rw [hb2]
      refine zI rfl rfl rfl <| zI rfl rfl rfl <| zI rfl rfl rfl <| rq rfl rfl rfl <| rq rfl rfl rfl <| zI rfl rfl rfl <| g_u (zh rfl rfl rfl) <| g_u (zE rfl rfl) <| zH <| zA <| zL ?_
      exact ⟨⟨(rfl : toAV (Al.look _ _) = some _).trans (congrArg some (by (unfold isR; ((try simp only [decide_eq_true_eq, decide_eq_false_iff_not, bne_iff_ne, ne_eq, beq_iff_eq, qd, beq_eq_false_iff_ne, Bool.not_eq_true', Bool.not_eq_false', gt_iff_lt, ge_iff_le] at *); (repeat simp (disch := omega) only [zO, zi] at *)); refine congrArg bv ?_; first | exact (decide_eq_true (by omega)).symm | exact (decide_eq_false (by omega)).symm | exact decide_eq_decide.2 (by omega)))), rfl⟩, trivial⟩
  · rw [hb1]
    refine zI rfl rfl rfl <| zI rfl rfl rfl <| g_u (zh rfl rfl rfl) <| g_u (zC rfl rfl) <| zI rfl rfl rfl <| zI rfl rfl rfl <| zI rfl rfl rfl <| rq rfl rfl rfl <| rq rfl rfl rfl <| zI rfl rfl rfl <| g_u (zh rfl rfl rfl) <| g_u (zE rfl rfl) <| zH <| zA <| zL ?_
    exact ⟨⟨(rfl : toAV (Al.look _ _) = some _).trans (congrArg some (by (unfold isR; ((try simp only [decide_eq_true_eq, decide_eq_false_iff_not, bne_iff_ne, ne_eq, beq_iff_eq, qd, beq_eq_false_iff_ne, Bool.not_eq_true', Bool.not_eq_false', gt_iff_lt, ge_iff_le] at *); (repeat simp (disch := omega) only [zO, zi] at *)); refine congrArg bv ?_; first | exact (decide_eq_true (by omega)).symm | exact (decide_eq_false (by omega)).symm | exact decide_eq_decide.2 (by omega)))), rfl⟩, trivial⟩
theorem guess_c (s : ByteArray) (hs : s.size < 9223372036854775808) (h0 : 0 < s.size) : zn Tryz.prog Γ0 162 [sv s] [iv (vY s)] := by
  have hb0 := vD s 0
  refine z_ Tryz.func162 rfl Tryz.ntmps162 (by kernel_rfl) rfl fun w0 I0 G0 => ?_
  refine zD <| zB <| g_u (zE rfl rfl) <| zH <| zA <| zD <| zB <| g_u (zC rfl rfl) ?_
  refine g_u (sN rfl rfl rfl Tryz.underlying9 (by ((try simp only [decide_eq_true_eq, decide_eq_false_iff_not, bne_iff_ne, ne_eq, beq_iff_eq, qd, beq_eq_false_iff_ne, Bool.not_eq_true', Bool.not_eq_false', gt_iff_lt, ge_iff_le] at *); (repeat simp (disch := omega) only [zO, zi] at *)); omega)) ?_
  refine g_u (xL rfl rfl Tryz.underlying5 Tryz.underlying3) <| g_u (zE rfl rfl) <| zH <| zA <| zD <| zD <| zB <| g_u (zC rfl rfl) <| g_u (ye rfl rfl rfl) <| zH <| zA ?_
  refine zN rfl (fun hb1 => ?_) (fun hb1 => ?_)
  · refine zD ?_
    refine zB <| g_u (zC rfl rfl) <| g_u (zE rfl rfl) <| zH <| zA <| zL <| zK ?_
    exact ⟨⟨(rfl : toAV (Al.look _ _) = some _).trans (congrArg some (by (unfold vY; ((try simp only [decide_eq_true_eq, decide_eq_false_iff_not, bne_iff_ne, ne_eq, beq_iff_eq, qd, beq_eq_false_iff_ne, Bool.not_eq_true', Bool.not_eq_false', gt_iff_lt, ge_iff_le] at *); (repeat simp (disch := omega) only [zO, zi] at *)); rw [if_pos (by omega)]))), rfl⟩, trivial⟩
  · refine zQ ?_
    refine zA <| zD <| zB <| g_u (zC rfl rfl) <| g_u (vW rfl rfl rfl) <| g_u (zE rfl rfl) <| g_u (zE rfl rfl) <| zH <| zA <| zD <| zD <| zB <| g_u (zC rfl rfl) <| g_u (tD rfl rfl rfl) <| zH <| zA ?_
    refine zN rfl (fun hb2 => ?_) (fun hb2 => ?_)
    · refine zB ?_
      refine g_u (zC rfl rfl) <| g_u (vW rfl rfl rfl) <| g_u (zE rfl rfl) <| g_u (zE rfl rfl) <| zH <| zA <| zD <| zD <| zB <| g_u (zE rfl rfl) <| zH <| zA <| zU ?_
      refine zw (fun j : Nat × Int × Int => [(0, .imm (sv s)), (4, .imm (iv j.2.2)), (5, .imm (iv 3)), (6, .imm (iv j.2.1))]) (fun j => j.2.1 + j.1 = 4 ∧ ((j.2.1 = 1 ∧ -300 ≤ j.2.2 ∧ j.2.2 ≤ 300) ∨ (j.2.1 = 2 ∧ -20000 ≤ j.2.2 ∧ j.2.2 ≤ 20000) ∨ (j.2.1 = 3 ∧ -1400000 ≤ j.2.2 ∧ j.2.2 ≤ 1400000) ∨ (j.2.1 = 4 ∧ -99000000 ≤ j.2.2 ∧ j.2.2 ≤ 99000000)) ∧ xV s j.1 j.2.1 j.2.2 = vY s) (fun j => j.1) (⟨3, 1, IntKind.i64.wrap (IntKind.i64.wrap (bAt s 0) - 240)⟩) ?_ ⟨rfl, rfl, rfl, rfl, trivial⟩ ?_
      · refine ⟨rfl, .inl ⟨rfl, by dsimp only; ((try simp only [decide_eq_true_eq, decide_eq_false_iff_not, bne_iff_ne, ne_eq, beq_iff_eq, qd, beq_eq_false_iff_ne, Bool.not_eq_true', Bool.not_eq_false', gt_iff_lt, ge_iff_le] at *); (repeat simp (disch := omega) only [zO, zi] at *)); omega⟩, ?_⟩; unfold vY; ((try simp only [decide_eq_true_eq, decide_eq_false_iff_not, bne_iff_ne, ne_eq, beq_iff_eq, qd, beq_eq_false_iff_ne, Bool.not_eq_true', Bool.not_eq_false', gt_iff_lt, ge_iff_le] at *); (repeat simp (disch := omega) only [zO, zi] at *)); rw [if_neg (by omega), if_pos (by omega)]
      · rintro ⟨n, i, r⟩ ⟨h1, h2, h3⟩; dsimp only at h1 h2 h3
        refine zD <| zD <| zB <| g_u (zC rfl rfl) <| g_u (zC rfl rfl) <| g_u (s_leI rfl rfl rfl) <| zH <| zA ?_
        refine zN rfl (fun hb3 => ?_) (fun hb3 => ?_)
        · refine zQ ?_
          refine zA <| zD <| zU <| zD <| zD <| zB <| g_u (zC rfl rfl) <| g_u (zC rfl rfl) <| g_u (yp rfl rfl Tryz.underlying9) <| g_u (tD rfl rfl rfl) <| zH <| zA ?_
          refine zN rfl (fun hb4 => ?_) (fun hb4 => ?_)
          · refine zD ?_
            refine zB <| g_u (zE rfl rfl) <| zH <| zA <| zL <| zK <| zt <| zK <| zK <| zt <| zK ?_
            obtain ⟨m, rfl⟩ : ∃ m, n = m + 1 := ⟨n - 1, by ((try simp only [decide_eq_true_eq, decide_eq_false_iff_not, bne_iff_ne, ne_eq, beq_iff_eq, qd, beq_eq_false_iff_ne, Bool.not_eq_true', Bool.not_eq_false', gt_iff_lt, ge_iff_le] at *); (repeat simp (disch := omega) only [zO, zi] at *)); omega⟩
            rw [xV, if_pos (by ((try simp only [decide_eq_true_eq, decide_eq_false_iff_not, bne_iff_ne, ne_eq, beq_iff_eq, qd, beq_eq_false_iff_ne, Bool.not_eq_true', Bool.not_eq_false', gt_iff_lt, ge_iff_le] at *); (repeat simp (disch := omega) only [zO, zi] at *)); omega)] at h3
            exact ⟨⟨(rfl : toAV (Al.look _ _) = some _).trans (congrArg some (by rw [← h3])), rfl⟩, trivial⟩
          · refine zQ ?_
            refine zA <| zB <| g_u (zC rfl rfl) <| g_u (s_mul rfl rfl rfl) <| g_u (zC rfl rfl) <| g_u (zC rfl rfl) ?_
            refine g_u (sN rfl rfl rfl Tryz.underlying9 (by ((try simp only [decide_eq_true_eq, decide_eq_false_iff_not, bne_iff_ne, ne_eq, beq_iff_eq, qd, beq_eq_false_iff_ne, Bool.not_eq_true', Bool.not_eq_false', gt_iff_lt, ge_iff_le] at *); (repeat simp (disch := omega) only [zO, zi] at *)); omega)) ?_
            refine g_u (xL rfl rfl Tryz.underlying5 Tryz.underlying3) <| g_u (z0 rfl rfl rfl) <| g_u (vW rfl rfl rfl) <| g_u (zE rfl rfl) <| zH <| zW <| zA <| zB <| g_u (zC rfl rfl) <| g_u (z0 rfl rfl rfl) <| g_u (zE rfl rfl) <| zH <| zA ?_
            have hb := vD s i
            obtain ⟨m, rfl⟩ : ∃ m, n = m + 1 := ⟨n - 1, by ((try simp only [decide_eq_true_eq, decide_eq_false_iff_not, bne_iff_ne, ne_eq, beq_iff_eq, qd, beq_eq_false_iff_ne, Bool.not_eq_true', Bool.not_eq_false', gt_iff_lt, ge_iff_le] at *); (repeat simp (disch := omega) only [zO, zi] at *)); omega⟩
            rw [xV, if_neg (by ((try simp only [decide_eq_true_eq, decide_eq_false_iff_not, bne_iff_ne, ne_eq, beq_iff_eq, qd, beq_eq_false_iff_ne, Bool.not_eq_true', Bool.not_eq_false', gt_iff_lt, ge_iff_le] at *); (repeat simp (disch := omega) only [zO, zi] at *)); omega)] at h3
            rw [show (64 * r + bAt s i - 128 : Int) = IntKind.i64.wrap (IntKind.i64.wrap (IntKind.i64.wrap (64 * r) + IntKind.i64.wrap (bAt s i)) - 128) by ((try simp only [decide_eq_true_eq, decide_eq_false_iff_not, bne_iff_ne, ne_eq, beq_iff_eq, qd, beq_eq_false_iff_ne, Bool.not_eq_true', Bool.not_eq_false', gt_iff_lt, ge_iff_le] at *); (repeat simp (disch := omega) only [zO, zi] at *)), show (i + 1 : Int) = IntKind.i64.wrap (i + 1) by ((try simp only [decide_eq_true_eq, decide_eq_false_iff_not, bne_iff_ne, ne_eq, beq_iff_eq, qd, beq_eq_false_iff_ne, Bool.not_eq_true', Bool.not_eq_false', gt_iff_lt, ge_iff_le] at *); (repeat simp (disch := omega) only [zO, zi] at *))] at h3
            exact ⟨⟨m, IntKind.i64.wrap (i + 1), IntKind.i64.wrap (IntKind.i64.wrap (IntKind.i64.wrap (64 * r) + IntKind.i64.wrap (bAt s i)) - 128)⟩, ⟨by dsimp only; ((try simp only [decide_eq_true_eq, decide_eq_false_iff_not, bne_iff_ne, ne_eq, beq_iff_eq, qd, beq_eq_false_iff_ne, Bool.not_eq_true', Bool.not_eq_false', gt_iff_lt, ge_iff_le] at *); (repeat simp (disch := omega) only [zO, zi] at *)); omega, by dsimp only; ((try simp only [decide_eq_true_eq, decide_eq_false_iff_not, bne_iff_ne, ne_eq, beq_iff_eq, qd, beq_eq_false_iff_ne, Bool.not_eq_true', Bool.not_eq_false', gt_iff_lt, ge_iff_le] at *); (repeat simp (disch := omega) only [zO, zi] at *)); omega, h3⟩, ⟨rfl, rfl, rfl, rfl, trivial⟩, Nat.lt_succ_self _⟩
        · refine zz ?_
          refine zT <| zT <| zq <| zA <| zD <| zB <| g_u (zC rfl rfl) <| g_u (zE rfl rfl) <| zH <| zA <| zL ?_
          obtain rfl : n = 0 := by ((try simp only [decide_eq_true_eq, decide_eq_false_iff_not, bne_iff_ne, ne_eq, beq_iff_eq, qd, beq_eq_false_iff_ne, Bool.not_eq_true', Bool.not_eq_false', gt_iff_lt, ge_iff_le] at *); (repeat simp (disch := omega) only [zO, zi] at *)); omega
          change r = _ at h3
          exact ⟨⟨(rfl : toAV (Al.look _ _) = some _).trans (congrArg some (by rw [← h3])), rfl⟩, trivial⟩
    · refine zD ?_
      refine zB <| g_u (zC rfl rfl) <| g_u (tD rfl rfl rfl) <| zH <| zA ?_
      refine zN rfl (fun hb5 => ?_) (fun hb5 => ?_)
      · refine zB ?_
        refine g_u (zC rfl rfl) <| g_u (vW rfl rfl rfl) <| g_u (zE rfl rfl) <| g_u (zE rfl rfl) <| zH <| zA <| zD <| zD <| zB <| g_u (zE rfl rfl) <| zH <| zA <| zU ?_
        refine zw (fun j : Nat × Int × Int => [(0, .imm (sv s)), (4, .imm (iv j.2.2)), (5, .imm (iv 2)), (6, .imm (iv j.2.1))]) (fun j => j.2.1 + j.1 = 3 ∧ ((j.2.1 = 1 ∧ -300 ≤ j.2.2 ∧ j.2.2 ≤ 300) ∨ (j.2.1 = 2 ∧ -20000 ≤ j.2.2 ∧ j.2.2 ≤ 20000) ∨ (j.2.1 = 3 ∧ -1400000 ≤ j.2.2 ∧ j.2.2 ≤ 1400000) ∨ (j.2.1 = 4 ∧ -99000000 ≤ j.2.2 ∧ j.2.2 ≤ 99000000)) ∧ xV s j.1 j.2.1 j.2.2 = vY s) (fun j => j.1) (⟨2, 1, IntKind.i64.wrap (IntKind.i64.wrap (bAt s 0) - 224)⟩) ?_ ⟨rfl, rfl, rfl, rfl, trivial⟩ ?_
        · refine ⟨rfl, .inl ⟨rfl, by dsimp only; ((try simp only [decide_eq_true_eq, decide_eq_false_iff_not, bne_iff_ne, ne_eq, beq_iff_eq, qd, beq_eq_false_iff_ne, Bool.not_eq_true', Bool.not_eq_false', gt_iff_lt, ge_iff_le] at *); (repeat simp (disch := omega) only [zO, zi] at *)); omega⟩, ?_⟩; unfold vY; ((try simp only [decide_eq_true_eq, decide_eq_false_iff_not, bne_iff_ne, ne_eq, beq_iff_eq, qd, beq_eq_false_iff_ne, Bool.not_eq_true', Bool.not_eq_false', gt_iff_lt, ge_iff_le] at *); (repeat simp (disch := omega) only [zO, zi] at *)); rw [if_neg (by omega), if_neg (by omega), if_pos (by omega)]
        · rintro ⟨n, i, r⟩ ⟨h1, h2, h3⟩; dsimp only at h1 h2 h3
          refine zD <| zD <| zB <| g_u (zC rfl rfl) <| g_u (zC rfl rfl) <| g_u (s_leI rfl rfl rfl) <| zH <| zA ?_
          refine zN rfl (fun hb6 => ?_) (fun hb6 => ?_)
          · refine zQ ?_
            refine zA <| zD <| zU <| zD <| zD <| zB <| g_u (zC rfl rfl) <| g_u (zC rfl rfl) <| g_u (yp rfl rfl Tryz.underlying9) <| g_u (tD rfl rfl rfl) <| zH <| zA ?_
            refine zN rfl (fun hb7 => ?_) (fun hb7 => ?_)
            · refine zD ?_
              refine zB <| g_u (zE rfl rfl) <| zH <| zA <| zL <| zK <| zt <| zK <| zK <| zt <| zK ?_
              obtain ⟨m, rfl⟩ : ∃ m, n = m + 1 := ⟨n - 1, by ((try simp only [decide_eq_true_eq, decide_eq_false_iff_not, bne_iff_ne, ne_eq, beq_iff_eq, qd, beq_eq_false_iff_ne, Bool.not_eq_true', Bool.not_eq_false', gt_iff_lt, ge_iff_le] at *); (repeat simp (disch := omega) only [zO, zi] at *)); omega⟩
              rw [xV, if_pos (by ((try simp only [decide_eq_true_eq, decide_eq_false_iff_not, bne_iff_ne, ne_eq, beq_iff_eq, qd, beq_eq_false_iff_ne, Bool.not_eq_true', Bool.not_eq_false', gt_iff_lt, ge_iff_le] at *); (repeat simp (disch := omega) only [zO, zi] at *)); omega)] at h3
              exact ⟨⟨(rfl : toAV (Al.look _ _) = some _).trans (congrArg some (by rw [← h3])), rfl⟩, trivial⟩
            · refine zQ ?_
              refine zA <| zB <| g_u (zC rfl rfl) <| g_u (s_mul rfl rfl rfl) <| g_u (zC rfl rfl) <| g_u (zC rfl rfl) ?_
              refine g_u (sN rfl rfl rfl Tryz.underlying9 (by ((try simp only [decide_eq_true_eq, decide_eq_false_iff_not, bne_iff_ne, ne_eq, beq_iff_eq, qd, beq_eq_false_iff_ne, Bool.not_eq_true', Bool.not_eq_false', gt_iff_lt, ge_iff_le] at *); (repeat simp (disch := omega) only [zO, zi] at *)); omega)) ?_
              refine g_u (xL rfl rfl Tryz.underlying5 Tryz.underlying3) <| g_u (z0 rfl rfl rfl) <| g_u (vW rfl rfl rfl) <| g_u (zE rfl rfl) <| zH <| zW <| zA <| zB <| g_u (zC rfl rfl) <| g_u (z0 rfl rfl rfl) <| g_u (zE rfl rfl) <| zH <| zA ?_
              have hb := vD s i
              obtain ⟨m, rfl⟩ : ∃ m, n = m + 1 := ⟨n - 1, by ((try simp only [decide_eq_true_eq, decide_eq_false_iff_not, bne_iff_ne, ne_eq, beq_iff_eq, qd, beq_eq_false_iff_ne, Bool.not_eq_true', Bool.not_eq_false', gt_iff_lt, ge_iff_le] at *); (repeat simp (disch := omega) only [zO, zi] at *)); omega⟩
              rw [xV, if_neg (by ((try simp only [decide_eq_true_eq, decide_eq_false_iff_not, bne_iff_ne, ne_eq, beq_iff_eq, qd, beq_eq_false_iff_ne, Bool.not_eq_true', Bool.not_eq_false', gt_iff_lt, ge_iff_le] at *); (repeat simp (disch := omega) only [zO, zi] at *)); omega)] at h3
              rw [show (64 * r + bAt s i - 128 : Int) = IntKind.i64.wrap (IntKind.i64.wrap (IntKind.i64.wrap (64 * r) + IntKind.i64.wrap (bAt s i)) - 128) by ((try simp only [decide_eq_true_eq, decide_eq_false_iff_not, bne_iff_ne, ne_eq, beq_iff_eq, qd, beq_eq_false_iff_ne, Bool.not_eq_true', Bool.not_eq_false', gt_iff_lt, ge_iff_le] at *); (repeat simp (disch := omega) only [zO, zi] at *)), show (i + 1 : Int) = IntKind.i64.wrap (i + 1) by ((try simp only [decide_eq_true_eq, decide_eq_false_iff_not, bne_iff_ne, ne_eq, beq_iff_eq, qd, beq_eq_false_iff_ne, Bool.not_eq_true', Bool.not_eq_false', gt_iff_lt, ge_iff_le] at *); (repeat simp (disch := omega) only [zO, zi] at *))] at h3
              exact ⟨⟨m, IntKind.i64.wrap (i + 1), IntKind.i64.wrap (IntKind.i64.wrap (IntKind.i64.wrap (64 * r) + IntKind.i64.wrap (bAt s i)) - 128)⟩, ⟨by dsimp only; ((try simp only [decide_eq_true_eq, decide_eq_false_iff_not, bne_iff_ne, ne_eq, beq_iff_eq, qd, beq_eq_false_iff_ne, Bool.not_eq_true', Bool.not_eq_false', gt_iff_lt, ge_iff_le] at *); (repeat simp (disch := omega) only [zO, zi] at *)); omega, by dsimp only; ((try simp only [decide_eq_true_eq, decide_eq_false_iff_not, bne_iff_ne, ne_eq, beq_iff_eq, qd, beq_eq_false_iff_ne, Bool.not_eq_true', Bool.not_eq_false', gt_iff_lt, ge_iff_le] at *); (repeat simp (disch := omega) only [zO, zi] at *)); omega, h3⟩, ⟨rfl, rfl, rfl, rfl, trivial⟩, Nat.lt_succ_self _⟩
          · refine zz ?_
            refine zT <| zT <| zq <| zA <| zD <| zB <| g_u (zC rfl rfl) <| g_u (zE rfl rfl) <| zH <| zA <| zL ?_
            obtain rfl : n = 0 := by ((try simp only [decide_eq_true_eq, decide_eq_false_iff_not, bne_iff_ne, ne_eq, beq_iff_eq, qd, beq_eq_false_iff_ne, Bool.not_eq_true', Bool.not_eq_false', gt_iff_lt, ge_iff_le] at *); (repeat simp (disch := omega) only [zO, zi] at *)); omega
            change r = _ at h3
            exact ⟨⟨(rfl : toAV (Al.look _ _) = some _).trans (congrArg some (by rw [← h3])), rfl⟩, trivial⟩
      · refine zQ ?_
        refine zA <| zD <| zD <| zB <| g_u (zE rfl rfl) <| zH <| zA <| zU ?_
        refine zw (fun j : Nat × Int × Int => [(0, .imm (sv s)), (4, .imm (iv j.2.2)), (5, .imm (iv 1)), (6, .imm (iv j.2.1))]) (fun j => j.2.1 + j.1 = 2 ∧ ((j.2.1 = 1 ∧ -300 ≤ j.2.2 ∧ j.2.2 ≤ 300) ∨ (j.2.1 = 2 ∧ -20000 ≤ j.2.2 ∧ j.2.2 ≤ 20000) ∨ (j.2.1 = 3 ∧ -1400000 ≤ j.2.2 ∧ j.2.2 ≤ 1400000) ∨ (j.2.1 = 4 ∧ -99000000 ≤ j.2.2 ∧ j.2.2 ≤ 99000000)) ∧ xV s j.1 j.2.1 j.2.2 = vY s) (fun j => j.1) (⟨1, 1, IntKind.i64.wrap (IntKind.i64.wrap (bAt s 0) - 192)⟩) ?_ ⟨rfl, rfl, rfl, rfl, trivial⟩ ?_
        · refine ⟨rfl, .inl ⟨rfl, by dsimp only; ((try simp only [decide_eq_true_eq, decide_eq_false_iff_not, bne_iff_ne, ne_eq, beq_iff_eq, qd, beq_eq_false_iff_ne, Bool.not_eq_true', Bool.not_eq_false', gt_iff_lt, ge_iff_le] at *); (repeat simp (disch := omega) only [zO, zi] at *)); omega⟩, ?_⟩; unfold vY; ((try simp only [decide_eq_true_eq, decide_eq_false_iff_not, bne_iff_ne, ne_eq, beq_iff_eq, qd, beq_eq_false_iff_ne, Bool.not_eq_true', Bool.not_eq_false', gt_iff_lt, ge_iff_le] at *); (repeat simp (disch := omega) only [zO, zi] at *)); rw [if_neg (by omega), if_neg (by omega), if_neg (by omega)]
        · rintro ⟨n, i, r⟩ ⟨h1, h2, h3⟩; dsimp only at h1 h2 h3
          refine zD <| zD <| zB <| g_u (zC rfl rfl) <| g_u (zC rfl rfl) <| g_u (s_leI rfl rfl rfl) <| zH <| zA ?_
          refine zN rfl (fun hb8 => ?_) (fun hb8 => ?_)
          · refine zQ ?_
            refine zA <| zD <| zU <| zD <| zD <| zB <| g_u (zC rfl rfl) <| g_u (zC rfl rfl) <| g_u (yp rfl rfl Tryz.underlying9) <| g_u (tD rfl rfl rfl) <| zH <| zA ?_
            refine zN rfl (fun hb9 => ?_) (fun hb9 => ?_)
            · refine zD ?_
              refine zB <| g_u (zE rfl rfl) <| zH <| zA <| zL <| zK <| zt <| zK <| zK <| zt <| zK ?_
              obtain ⟨m, rfl⟩ : ∃ m, n = m + 1 := ⟨n - 1, by ((try simp only [decide_eq_true_eq, decide_eq_false_iff_not, bne_iff_ne, ne_eq, beq_iff_eq, qd, beq_eq_false_iff_ne, Bool.not_eq_true', Bool.not_eq_false', gt_iff_lt, ge_iff_le] at *); (repeat simp (disch := omega) only [zO, zi] at *)); omega⟩
              rw [xV, if_pos (by ((try simp only [decide_eq_true_eq, decide_eq_false_iff_not, bne_iff_ne, ne_eq, beq_iff_eq, qd, beq_eq_false_iff_ne, Bool.not_eq_true', Bool.not_eq_false', gt_iff_lt, ge_iff_le] at *); (repeat simp (disch := omega) only [zO, zi] at *)); omega)] at h3
              exact ⟨⟨(rfl : toAV (Al.look _ _) = some _).trans (congrArg some (by rw [← h3])), rfl⟩, trivial⟩
            · refine zQ ?_
              refine zA <| zB <| g_u (zC rfl rfl) <| g_u (s_mul rfl rfl rfl) <| g_u (zC rfl rfl) <| g_u (zC rfl rfl) ?_
              refine g_u (sN rfl rfl rfl Tryz.underlying9 (by ((try simp only [decide_eq_true_eq, decide_eq_false_iff_not, bne_iff_ne, ne_eq, beq_iff_eq, qd, beq_eq_false_iff_ne, Bool.not_eq_true', Bool.not_eq_false', gt_iff_lt, ge_iff_le] at *); (repeat simp (disch := omega) only [zO, zi] at *)); omega)) ?_
              refine g_u (xL rfl rfl Tryz.underlying5 Tryz.underlying3) <| g_u (z0 rfl rfl rfl) <| g_u (vW rfl rfl rfl) <| g_u (zE rfl rfl) <| zH <| zW <| zA <| zB <| g_u (zC rfl rfl) <| g_u (z0 rfl rfl rfl) <| g_u (zE rfl rfl) <| zH <| zA ?_
              have hb := vD s i
              obtain ⟨m, rfl⟩ : ∃ m, n = m + 1 := ⟨n - 1, by ((try simp only [decide_eq_true_eq, decide_eq_false_iff_not, bne_iff_ne, ne_eq, beq_iff_eq, qd, beq_eq_false_iff_ne, Bool.not_eq_true', Bool.not_eq_false', gt_iff_lt, ge_iff_le] at *); (repeat simp (disch := omega) only [zO, zi] at *)); omega⟩
              rw [xV, if_neg (by ((try simp only [decide_eq_true_eq, decide_eq_false_iff_not, bne_iff_ne, ne_eq, beq_iff_eq, qd, beq_eq_false_iff_ne, Bool.not_eq_true', Bool.not_eq_false', gt_iff_lt, ge_iff_le] at *); (repeat simp (disch := omega) only [zO, zi] at *)); omega)] at h3
              rw [show (64 * r + bAt s i - 128 : Int) = IntKind.i64.wrap (IntKind.i64.wrap (IntKind.i64.wrap (64 * r) + IntKind.i64.wrap (bAt s i)) - 128) by ((try simp only [decide_eq_true_eq, decide_eq_false_iff_not, bne_iff_ne, ne_eq, beq_iff_eq, qd, beq_eq_false_iff_ne, Bool.not_eq_true', Bool.not_eq_false', gt_iff_lt, ge_iff_le] at *); (repeat simp (disch := omega) only [zO, zi] at *)), show (i + 1 : Int) = IntKind.i64.wrap (i + 1) by ((try simp only [decide_eq_true_eq, decide_eq_false_iff_not, bne_iff_ne, ne_eq, beq_iff_eq, qd, beq_eq_false_iff_ne, Bool.not_eq_true', Bool.not_eq_false', gt_iff_lt, ge_iff_le] at *); (repeat simp (disch := omega) only [zO, zi] at *))] at h3
              exact ⟨⟨m, IntKind.i64.wrap (i + 1), IntKind.i64.wrap (IntKind.i64.wrap (IntKind.i64.wrap (64 * r) + IntKind.i64.wrap (bAt s i)) - 128)⟩, ⟨by dsimp only; ((try simp only [decide_eq_true_eq, decide_eq_false_iff_not, bne_iff_ne, ne_eq, beq_iff_eq, qd, beq_eq_false_iff_ne, Bool.not_eq_true', Bool.not_eq_false', gt_iff_lt, ge_iff_le] at *); (repeat simp (disch := omega) only [zO, zi] at *)); omega, by dsimp only; ((try simp only [decide_eq_true_eq, decide_eq_false_iff_not, bne_iff_ne, ne_eq, beq_iff_eq, qd, beq_eq_false_iff_ne, Bool.not_eq_true', Bool.not_eq_false', gt_iff_lt, ge_iff_le] at *); (repeat simp (disch := omega) only [zO, zi] at *)); omega, h3⟩, ⟨rfl, rfl, rfl, rfl, trivial⟩, Nat.lt_succ_self _⟩
          · refine zz ?_
            refine zT <| zT <| zq <| zA <| zD <| zB <| g_u (zC rfl rfl) <| g_u (zE rfl rfl) <| zH <| zA <| zL ?_
            obtain rfl : n = 0 := by ((try simp only [decide_eq_true_eq, decide_eq_false_iff_not, bne_iff_ne, ne_eq, beq_iff_eq, qd, beq_eq_false_iff_ne, Bool.not_eq_true', Bool.not_eq_false', gt_iff_lt, ge_iff_le] at *); (repeat simp (disch := omega) only [zO, zi] at *)); omega
            change r = _ at h3
            exact ⟨⟨(rfl : toAV (Al.look _ _) = some _).trans (congrArg some (by rw [← h3])), rfl⟩, trivial⟩
theorem bytes_c (r : Int) : zn Tryz.prog Γ0 164 [rv r] [sv (yF (v8 r))] := by
  refine z_ Tryz.func164 rfl Tryz.ntmps164 (by kernel_rfl) rfl fun w0 I0 G0 => ?_
  refine zD <| zB <| g_u (zE rfl rfl) <| zH <| zA <| zD <| zB <| g_u (zC rfl rfl) <| g_u (xL rfl rfl Tryz.underlying21 Tryz.underlying3) <| g_u (zE rfl rfl) <| zH <| zA <| zD <| zD <| zB <| g_u (zC rfl rfl) <| g_u (ye rfl rfl rfl) <| zH <| zA ?_
  refine zN rfl (fun hb1 => ?_) (fun hb1 => ?_)
  · refine zD ?_
    refine zB <| g_u (zC rfl rfl) <| g_u (xL rfl rfl Tryz.underlying3 Tryz.underlying5) <| g_u (zl (X0 := z5) rfl Tryz.underlying42 tS5 tZ5 rfl rfl rfl rfl rfl rfl rfl rfl) <| g_u (tq ((uY bl_nil)) rfl rfl Tryz.underlying42 Tryz.underlying9 Tryz.underlying5) <| g_u (zE rfl rfl) <| zH <| zA <| zL <| zK ?_
    exact ⟨⟨(rfl : toAV (Al.look _ _) = some _).trans (congrArg some (by (unfold v8 w64; simp only [decide_eq_true_eq, decide_eq_false_iff_not] at *; first | (rw [if_pos (by omega)]; first | done | rfl) | (rw [if_neg (by omega), if_pos (by omega)]; first | done | rfl) | (rw [if_neg (by omega), if_neg (by omega), if_pos (by omega)]; first | done | rfl) | (rw [if_neg (by omega), if_neg (by omega), if_neg (by omega)]; first | done | rfl)))), rfl⟩, trivial⟩
  · refine zQ ?_
    refine zA <| zD <| zD <| zB <| g_u (zC rfl rfl) <| g_u (ye rfl rfl rfl) <| zH <| zA ?_
    refine zN rfl (fun hb2 => ?_) (fun hb2 => ?_)
    · refine zD ?_
      refine zB <| g_u (zC rfl rfl) ?_
      refine g_u (rN rfl rfl rfl (by first | decide | omega | (((try simp only [decide_eq_true_eq, decide_eq_false_iff_not, bne_iff_ne, ne_eq, beq_iff_eq, qd, beq_eq_false_iff_ne, Bool.not_eq_true', Bool.not_eq_false', gt_iff_lt, ge_iff_le] at *); (repeat simp (disch := omega) only [zO, zi] at *)); omega))) ?_
      refine g_u (z0 rfl rfl rfl) <| g_u (xL rfl rfl Tryz.underlying3 Tryz.underlying5) <| g_u (zC rfl rfl) ?_
      refine g_u (r8 rfl rfl rfl (by first | decide | omega | (((try simp only [decide_eq_true_eq, decide_eq_false_iff_not, bne_iff_ne, ne_eq, beq_iff_eq, qd, beq_eq_false_iff_ne, Bool.not_eq_true', Bool.not_eq_false', gt_iff_lt, ge_iff_le] at *); (repeat simp (disch := omega) only [zO, zi] at *)); omega))) ?_
      refine g_u (z0 rfl rfl rfl) <| g_u (xL rfl rfl Tryz.underlying3 Tryz.underlying5) <| g_u (zl (X0 := z5) rfl Tryz.underlying42 tS5 tZ5 rfl rfl rfl rfl rfl rfl rfl rfl) <| g_u (tq ((uY (uY bl_nil))) rfl rfl Tryz.underlying42 Tryz.underlying9 Tryz.underlying5) <| g_u (zE rfl rfl) <| zH <| zA <| zL <| zK ?_
      exact ⟨⟨(rfl : toAV (Al.look _ _) = some _).trans (congrArg some (by (unfold v8 w64; simp only [decide_eq_true_eq, decide_eq_false_iff_not] at *; first | (rw [if_pos (by omega)]; first | done | rfl) | (rw [if_neg (by omega), if_pos (by omega)]; first | done | rfl) | (rw [if_neg (by omega), if_neg (by omega), if_pos (by omega)]; first | done | rfl) | (rw [if_neg (by omega), if_neg (by omega), if_neg (by omega)]; first | done | rfl)))), rfl⟩, trivial⟩
    · refine zQ ?_
      refine zA <| zD <| zD <| zB <| g_u (zC rfl rfl) <| g_u (ye rfl rfl rfl) <| zH <| zA ?_
      refine zN rfl (fun hb3 => ?_) (fun hb3 => ?_)
      · refine zD ?_
        refine zB <| g_u (zC rfl rfl) ?_
        refine g_u (rN rfl rfl rfl (by first | decide | omega | (((try simp only [decide_eq_true_eq, decide_eq_false_iff_not, bne_iff_ne, ne_eq, beq_iff_eq, qd, beq_eq_false_iff_ne, Bool.not_eq_true', Bool.not_eq_false', gt_iff_lt, ge_iff_le] at *); (repeat simp (disch := omega) only [zO, zi] at *)); omega))) ?_
        refine g_u (z0 rfl rfl rfl) <| g_u (xL rfl rfl Tryz.underlying3 Tryz.underlying5) <| g_u (zC rfl rfl) ?_
        refine g_u (rN rfl rfl rfl (by first | decide | omega | (((try simp only [decide_eq_true_eq, decide_eq_false_iff_not, bne_iff_ne, ne_eq, beq_iff_eq, qd, beq_eq_false_iff_ne, Bool.not_eq_true', Bool.not_eq_false', gt_iff_lt, ge_iff_le] at *); (repeat simp (disch := omega) only [zO, zi] at *)); omega))) ?_
        refine g_u (r8 rfl rfl rfl (by first | decide | omega | (((try simp only [decide_eq_true_eq, decide_eq_false_iff_not, bne_iff_ne, ne_eq, beq_iff_eq, qd, beq_eq_false_iff_ne, Bool.not_eq_true', Bool.not_eq_false', gt_iff_lt, ge_iff_le] at *); (repeat simp (disch := omega) only [zO, zi] at *)); omega))) ?_
        refine g_u (z0 rfl rfl rfl) <| g_u (xL rfl rfl Tryz.underlying3 Tryz.underlying5) <| g_u (zC rfl rfl) ?_
        refine g_u (r8 rfl rfl rfl (by first | decide | omega | (((try simp only [decide_eq_true_eq, decide_eq_false_iff_not, bne_iff_ne, ne_eq, beq_iff_eq, qd, beq_eq_false_iff_ne, Bool.not_eq_true', Bool.not_eq_false', gt_iff_lt, ge_iff_le] at *); (repeat simp (disch := omega) only [zO, zi] at *)); omega))) ?_
        refine g_u (z0 rfl rfl rfl) <| g_u (xL rfl rfl Tryz.underlying3 Tryz.underlying5) <| g_u (zl (X0 := z5) rfl Tryz.underlying42 tS5 tZ5 rfl rfl rfl rfl rfl rfl rfl rfl) <| g_u (tq ((uY (uY (uY bl_nil)))) rfl rfl Tryz.underlying42 Tryz.underlying9 Tryz.underlying5) <| g_u (zE rfl rfl) <| zH <| zA <| zL <| zK ?_
        exact ⟨⟨(rfl : toAV (Al.look _ _) = some _).trans (congrArg some (by (unfold v8 w64; simp only [decide_eq_true_eq, decide_eq_false_iff_not] at *; first | (rw [if_pos (by omega)]; first | done | rfl) | (rw [if_neg (by omega), if_pos (by omega)]; first | done | rfl) | (rw [if_neg (by omega), if_neg (by omega), if_pos (by omega)]; first | done | rfl) | (rw [if_neg (by omega), if_neg (by omega), if_neg (by omega)]; first | done | rfl)))), rfl⟩, trivial⟩
      · refine zQ ?_
        refine zA <| zD <| zB <| g_u (zC rfl rfl) ?_
        refine g_u (rN rfl rfl rfl (by first | decide | omega | (((try simp only [decide_eq_true_eq, decide_eq_false_iff_not, bne_iff_ne, ne_eq, beq_iff_eq, qd, beq_eq_false_iff_ne, Bool.not_eq_true', Bool.not_eq_false', gt_iff_lt, ge_iff_le] at *); (repeat simp (disch := omega) only [zO, zi] at *)); omega))) ?_
        refine g_u (z0 rfl rfl rfl) <| g_u (xL rfl rfl Tryz.underlying3 Tryz.underlying5) <| g_u (zC rfl rfl) ?_
        refine g_u (rN rfl rfl rfl (by first | decide | omega | (((try simp only [decide_eq_true_eq, decide_eq_false_iff_not, bne_iff_ne, ne_eq, beq_iff_eq, qd, beq_eq_false_iff_ne, Bool.not_eq_true', Bool.not_eq_false', gt_iff_lt, ge_iff_le] at *); (repeat simp (disch := omega) only [zO, zi] at *)); omega))) ?_
        refine g_u (r8 rfl rfl rfl (by first | decide | omega | (((try simp only [decide_eq_true_eq, decide_eq_false_iff_not, bne_iff_ne, ne_eq, beq_iff_eq, qd, beq_eq_false_iff_ne, Bool.not_eq_true', Bool.not_eq_false', gt_iff_lt, ge_iff_le] at *); (repeat simp (disch := omega) only [zO, zi] at *)); omega))) ?_
        refine g_u (z0 rfl rfl rfl) <| g_u (xL rfl rfl Tryz.underlying3 Tryz.underlying5) <| g_u (zC rfl rfl) ?_
        refine g_u (rN rfl rfl rfl (by first | decide | omega | (((try simp only [decide_eq_true_eq, decide_eq_false_iff_not, bne_iff_ne, ne_eq, beq_iff_eq, qd, beq_eq_false_iff_ne, Bool.not_eq_true', Bool.not_eq_false', gt_iff_lt, ge_iff_le] at *); (repeat simp (disch := omega) only [zO, zi] at *)); omega))) ?_
        refine g_u (r8 rfl rfl rfl (by first | decide | omega | (((try simp only [decide_eq_true_eq, decide_eq_false_iff_not, bne_iff_ne, ne_eq, beq_iff_eq, qd, beq_eq_false_iff_ne, Bool.not_eq_true', Bool.not_eq_false', gt_iff_lt, ge_iff_le] at *); (repeat simp (disch := omega) only [zO, zi] at *)); omega))) ?_
        refine g_u (z0 rfl rfl rfl) <| g_u (xL rfl rfl Tryz.underlying3 Tryz.underlying5) <| g_u (zC rfl rfl) ?_
        refine g_u (r8 rfl rfl rfl (by first | decide | omega | (((try simp only [decide_eq_true_eq, decide_eq_false_iff_not, bne_iff_ne, ne_eq, beq_iff_eq, qd, beq_eq_false_iff_ne, Bool.not_eq_true', Bool.not_eq_false', gt_iff_lt, ge_iff_le] at *); (repeat simp (disch := omega) only [zO, zi] at *)); omega))) ?_
        refine g_u (z0 rfl rfl rfl) <| g_u (xL rfl rfl Tryz.underlying3 Tryz.underlying5) <| g_u (zl (X0 := z5) rfl Tryz.underlying42 tS5 tZ5 rfl rfl rfl rfl rfl rfl rfl rfl) <| g_u (tq ((uY (uY (uY (uY bl_nil))))) rfl rfl Tryz.underlying42 Tryz.underlying9 Tryz.underlying5) <| g_u (zE rfl rfl) <| zH <| zA <| zL ?_
        exact ⟨⟨(rfl : toAV (Al.look _ _) = some _).trans (congrArg some (by (unfold v8 w64; simp only [decide_eq_true_eq, decide_eq_false_iff_not] at *; first | (rw [if_pos (by omega)]; first | done | rfl) | (rw [if_neg (by omega), if_pos (by omega)]; first | done | rfl) | (rw [if_neg (by omega), if_neg (by omega), if_pos (by omega)]; first | done | rfl) | (rw [if_neg (by omega), if_neg (by omega), if_neg (by omega)]; first | done | rfl)))), rfl⟩, trivial⟩
theorem rrune_c (s : ByteArray) (p : Int) (hs : s.size < 9223372036854775808) : zn Tryz.prog Γ0 155 [sv s, iv p] [rv (xo s p).1, iv (xo s p).2] := by
  refine z_ Tryz.func155 rfl Tryz.ntmps155 (by kernel_rfl) rfl fun w0 I0 G0 => ?_
  refine zD <| zB <| g_u (zE rfl rfl) <| g_u (zE rfl rfl) <| zH <| zA <| zD <| zD <| zB <| g_u (zC rfl rfl) <| g_u (ye rfl rfl rfl) <| g_u (zC rfl rfl) <| yB (t := 10) rfl ?_
  rintro (hb1 | hb1)
  · rw [hb1]
    refine zI rfl rfl rfl <| zI rfl rfl rfl <| zI rfl rfl rfl <| zI rfl rfl rfl <| g_u (zZ rfl rfl rfl) <| zH <| zA <| zs rfl <| zD <| zB <| g_u (zE rfl rfl) <| g_u (zE rfl rfl) <| zH <| zA <| zL <| zK ?_
    exact ⟨⟨(rfl : toAV (Al.look _ _) = some _).trans (congrArg some (by (unfold xo; (try simp only [yH] at *); ((try simp only [decide_eq_true_eq, decide_eq_false_iff_not, bne_iff_ne, ne_eq, beq_iff_eq, qd, beq_eq_false_iff_ne, Bool.not_eq_true', Bool.not_eq_false', gt_iff_lt, ge_iff_le] at *); (repeat simp (disch := omega) only [zO, zi] at *)); first | (rw [if_pos (by omega)]; first | done | rfl) | (rw [if_neg (by omega), if_pos (by first | exact .inl (by omega) | exact .inr (.inl (by omega)) | exact .inr (.inr (by assumption)))]; first | done | rfl) | (rw [if_neg (by omega), if_neg (by rintro (h | h | h) <;> first | omega | (simp_all; done)), if_pos (by first | exact .inl (by omega) | exact .inr (by assumption))]; first | done | rfl) | (rw [if_neg (by omega), if_neg (by rintro (h | h | h) <;> first | omega | (simp_all; done)), if_neg (by rintro (h | h) <;> first | omega | exact h (by assumption))]; first | done | rfl)))), rfl⟩, ⟨(rfl : toAV (Al.look _ _) = some _).trans (congrArg some (by (unfold xo; (try simp only [yH] at *); ((try simp only [decide_eq_true_eq, decide_eq_false_iff_not, bne_iff_ne, ne_eq, beq_iff_eq, qd, beq_eq_false_iff_ne, Bool.not_eq_true', Bool.not_eq_false', gt_iff_lt, ge_iff_le] at *); (repeat simp (disch := omega) only [zO, zi] at *)); first | (rw [if_pos (by omega)]; first | done | rfl) | (rw [if_neg (by omega), if_pos (by first | exact .inl (by omega) | exact .inr (.inl (by omega)) | exact .inr (.inr (by assumption)))]; first | done | rfl) | (rw [if_neg (by omega), if_neg (by rintro (h | h | h) <;> first | omega | (simp_all; done)), if_pos (by first | exact .inl (by omega) | exact .inr (by assumption))]; first | done | rfl) | (rw [if_neg (by omega), if_neg (by rintro (h | h | h) <;> first | omega | (simp_all; done)), if_neg (by rintro (h | h) <;> first | omega | exact h (by assumption))]; first | done | rfl)))), rfl⟩, trivial⟩
  · rw [hb1]
    refine zY rfl rfl (zC rfl rfl) <| zY rfl rfl (zC rfl rfl) <| zY rfl rfl (yp rfl rfl Tryz.underlying9) <| zY rfl rfl (tD rfl rfl rfl) <| g_u (zh rfl rfl rfl) <| zH <| zA ?_
    refine zN rfl (fun hb2 => ?_) (fun hb2 => ?_)
    · refine zD ?_
      refine zB <| g_u (zE rfl rfl) <| g_u (zE rfl rfl) <| zH <| zA <| zL <| zK ?_
      exact ⟨⟨(rfl : toAV (Al.look _ _) = some _).trans (congrArg some (by (unfold xo; (try simp only [yH] at *); ((try simp only [decide_eq_true_eq, decide_eq_false_iff_not, bne_iff_ne, ne_eq, beq_iff_eq, qd, beq_eq_false_iff_ne, Bool.not_eq_true', Bool.not_eq_false', gt_iff_lt, ge_iff_le] at *); (repeat simp (disch := omega) only [zO, zi] at *)); first | (rw [if_pos (by omega)]; first | done | rfl) | (rw [if_neg (by omega), if_pos (by first | exact .inl (by omega) | exact .inr (.inl (by omega)) | exact .inr (.inr (by assumption)))]; first | done | rfl) | (rw [if_neg (by omega), if_neg (by rintro (h | h | h) <;> first | omega | (simp_all; done)), if_pos (by first | exact .inl (by omega) | exact .inr (by assumption))]; first | done | rfl) | (rw [if_neg (by omega), if_neg (by rintro (h | h | h) <;> first | omega | (simp_all; done)), if_neg (by rintro (h | h) <;> first | omega | exact h (by assumption))]; first | done | rfl)))), rfl⟩, ⟨(rfl : toAV (Al.look _ _) = some _).trans (congrArg some (by (unfold xo; (try simp only [yH] at *); ((try simp only [decide_eq_true_eq, decide_eq_false_iff_not, bne_iff_ne, ne_eq, beq_iff_eq, qd, beq_eq_false_iff_ne, Bool.not_eq_true', Bool.not_eq_false', gt_iff_lt, ge_iff_le] at *); (repeat simp (disch := omega) only [zO, zi] at *)); first | (rw [if_pos (by omega)]; first | done | rfl) | (rw [if_neg (by omega), if_pos (by first | exact .inl (by omega) | exact .inr (.inl (by omega)) | exact .inr (.inr (by assumption)))]; first | done | rfl) | (rw [if_neg (by omega), if_neg (by rintro (h | h | h) <;> first | omega | (simp_all; done)), if_pos (by first | exact .inl (by omega) | exact .inr (by assumption))]; first | done | rfl) | (rw [if_neg (by omega), if_neg (by rintro (h | h | h) <;> first | omega | (simp_all; done)), if_neg (by rintro (h | h) <;> first | omega | exact h (by assumption))]; first | done | rfl)))), rfl⟩, trivial⟩
    · refine zQ ?_
      refine zA <| zD <| zB <| g_u (zC rfl rfl) <| g_u (zC rfl rfl) ?_
      refine g_u (si_l rfl rfl rfl Tryz.underlying9 (by ((try simp only [decide_eq_true_eq, decide_eq_false_iff_not, bne_iff_ne, ne_eq, beq_iff_eq, qd, beq_eq_false_iff_ne, Bool.not_eq_true', Bool.not_eq_false', gt_iff_lt, ge_iff_le] at *); (repeat simp (disch := omega) only [zO, zi] at *)); omega)) ?_
      refine g_u (zP (guess_c _ (by ((try simp only [decide_eq_true_eq, decide_eq_false_iff_not, bne_iff_ne, ne_eq, beq_iff_eq, qd, beq_eq_false_iff_ne, Bool.not_eq_true', Bool.not_eq_false', gt_iff_lt, ge_iff_le] at *); (repeat simp (disch := omega) only [zO, zi] at *)); rw [ex_size _ _ _ (Nat.le_refl _)]; omega) (by ((try simp only [decide_eq_true_eq, decide_eq_false_iff_not, bne_iff_ne, ne_eq, beq_iff_eq, qd, beq_eq_false_iff_ne, Bool.not_eq_true', Bool.not_eq_false', gt_iff_lt, ge_iff_le] at *); (repeat simp (disch := omega) only [zO, zi] at *)); rw [ex_size _ _ _ (Nat.le_refl _)]; omega)) rfl rfl) ?_
      refine g_u (zE rfl rfl) <| zH <| zA <| zD <| zD <| zB <| g_u (zC rfl rfl) <| g_u (ye rfl rfl rfl) <| g_u (zC rfl rfl) <| yB (t := 22) rfl ?_
      rintro (hb3 | hb3)
      · rw [hb3]
        refine zI rfl rfl rfl <| zI rfl rfl rfl <| g_u (zZ rfl rfl rfl) <| g_u (zC rfl rfl) <| zI rfl rfl rfl <| zI rfl rfl rfl <| zI rfl rfl rfl <| zI rfl rfl rfl <| g_u (zZ rfl rfl rfl) <| zH <| zA <| zs rfl <| zD <| zB <| g_u (zE rfl rfl) <| g_u (zE rfl rfl) <| zH <| zA <| zL <| zK ?_
        exact ⟨⟨(rfl : toAV (Al.look _ _) = some _).trans (congrArg some (by (unfold xo; (try simp only [yH] at *); ((try simp only [decide_eq_true_eq, decide_eq_false_iff_not, bne_iff_ne, ne_eq, beq_iff_eq, qd, beq_eq_false_iff_ne, Bool.not_eq_true', Bool.not_eq_false', gt_iff_lt, ge_iff_le] at *); (repeat simp (disch := omega) only [zO, zi] at *)); first | (rw [if_pos (by omega)]; first | done | rfl) | (rw [if_neg (by omega), if_pos (by first | exact .inl (by omega) | exact .inr (.inl (by omega)) | exact .inr (.inr (by assumption)))]; first | done | rfl) | (rw [if_neg (by omega), if_neg (by rintro (h | h | h) <;> first | omega | (simp_all; done)), if_pos (by first | exact .inl (by omega) | exact .inr (by assumption))]; first | done | rfl) | (rw [if_neg (by omega), if_neg (by rintro (h | h | h) <;> first | omega | (simp_all; done)), if_neg (by rintro (h | h) <;> first | omega | exact h (by assumption))]; first | done | rfl)))), rfl⟩, ⟨(rfl : toAV (Al.look _ _) = some _).trans (congrArg some (by (unfold xo; (try simp only [yH] at *); ((try simp only [decide_eq_true_eq, decide_eq_false_iff_not, bne_iff_ne, ne_eq, beq_iff_eq, qd, beq_eq_false_iff_ne, Bool.not_eq_true', Bool.not_eq_false', gt_iff_lt, ge_iff_le] at *); (repeat simp (disch := omega) only [zO, zi] at *)); first | (rw [if_pos (by omega)]; first | done | rfl) | (rw [if_neg (by omega), if_pos (by first | exact .inl (by omega) | exact .inr (.inl (by omega)) | exact .inr (.inr (by assumption)))]; first | done | rfl) | (rw [if_neg (by omega), if_neg (by rintro (h | h | h) <;> first | omega | (simp_all; done)), if_pos (by first | exact .inl (by omega) | exact .inr (by assumption))]; first | done | rfl) | (rw [if_neg (by omega), if_neg (by rintro (h | h | h) <;> first | omega | (simp_all; done)), if_neg (by rintro (h | h) <;> first | omega | exact h (by assumption))]; first | done | rfl)))), rfl⟩, trivial⟩
      · rw [hb3]
        refine zY rfl rfl (zC rfl rfl) <| zY rfl rfl (wD rfl rfl rfl) <| g_u (zh rfl rfl rfl) <| g_u (zC rfl rfl) <| yB (t := 26) rfl ?_
        rintro (hb4 | hb4)
        · rw [hb4]
          refine zI rfl rfl rfl <| zI rfl rfl rfl <| zI rfl rfl rfl <| zI rfl rfl rfl <| g_u (zZ rfl rfl rfl) <| zH <| zA <| zs rfl <| zD <| zB <| g_u (zE rfl rfl) <| g_u (zE rfl rfl) <| zH <| zA <| zL <| zK ?_
          exact ⟨⟨(rfl : toAV (Al.look _ _) = some _).trans (congrArg some (by (unfold xo; (try simp only [yH] at *); ((try simp only [decide_eq_true_eq, decide_eq_false_iff_not, bne_iff_ne, ne_eq, beq_iff_eq, qd, beq_eq_false_iff_ne, Bool.not_eq_true', Bool.not_eq_false', gt_iff_lt, ge_iff_le] at *); (repeat simp (disch := omega) only [zO, zi] at *)); first | (rw [if_pos (by omega)]; first | done | rfl) | (rw [if_neg (by omega), if_pos (by first | exact .inl (by omega) | exact .inr (.inl (by omega)) | exact .inr (.inr (by assumption)))]; first | done | rfl) | (rw [if_neg (by omega), if_neg (by rintro (h | h | h) <;> first | omega | (simp_all; done)), if_pos (by first | exact .inl (by omega) | exact .inr (by assumption))]; first | done | rfl) | (rw [if_neg (by omega), if_neg (by rintro (h | h | h) <;> first | omega | (simp_all; done)), if_neg (by rintro (h | h) <;> first | omega | exact h (by assumption))]; first | done | rfl)))), rfl⟩, ⟨(rfl : toAV (Al.look _ _) = some _).trans (congrArg some (by (unfold xo; (try simp only [yH] at *); ((try simp only [decide_eq_true_eq, decide_eq_false_iff_not, bne_iff_ne, ne_eq, beq_iff_eq, qd, beq_eq_false_iff_ne, Bool.not_eq_true', Bool.not_eq_false', gt_iff_lt, ge_iff_le] at *); (repeat simp (disch := omega) only [zO, zi] at *)); first | (rw [if_pos (by omega)]; first | done | rfl) | (rw [if_neg (by omega), if_pos (by first | exact .inl (by omega) | exact .inr (.inl (by omega)) | exact .inr (.inr (by assumption)))]; first | done | rfl) | (rw [if_neg (by omega), if_neg (by rintro (h | h | h) <;> first | omega | (simp_all; done)), if_pos (by first | exact .inl (by omega) | exact .inr (by assumption))]; first | done | rfl) | (rw [if_neg (by omega), if_neg (by rintro (h | h | h) <;> first | omega | (simp_all; done)), if_neg (by rintro (h | h) <;> first | omega | exact h (by assumption))]; first | done | rfl)))), rfl⟩, trivial⟩
        · rw [hb4]
          refine zY rfl rfl (zC rfl rfl) <| zY rfl rfl (xL rfl rfl Tryz.underlying3 Tryz.underlying21) <| zY rfl rfl (zP (ris_c _) rfl rfl) <| zY rfl rfl (uA rfl rfl) <| g_u (zh rfl rfl rfl) <| zH <| zA ?_
          refine zN rfl (fun hb5 => ?_) (fun hb5 => ?_)
          · refine zD ?_
            refine zB <| g_u (zE rfl rfl) <| g_u (zE rfl rfl) <| zH <| zA <| zL <| zK ?_
            exact ⟨⟨(rfl : toAV (Al.look _ _) = some _).trans (congrArg some (by (unfold xo; (try simp only [yH] at *); ((try simp only [decide_eq_true_eq, decide_eq_false_iff_not, bne_iff_ne, ne_eq, beq_iff_eq, qd, beq_eq_false_iff_ne, Bool.not_eq_true', Bool.not_eq_false', gt_iff_lt, ge_iff_le] at *); (repeat simp (disch := omega) only [zO, zi] at *)); first | (rw [if_pos (by omega)]; first | done | rfl) | (rw [if_neg (by omega), if_pos (by first | exact .inl (by omega) | exact .inr (.inl (by omega)) | exact .inr (.inr (by assumption)))]; first | done | rfl) | (rw [if_neg (by omega), if_neg (by rintro (h | h | h) <;> first | omega | (simp_all; done)), if_pos (by first | exact .inl (by omega) | exact .inr (by assumption))]; first | done | rfl) | (rw [if_neg (by omega), if_neg (by rintro (h | h | h) <;> first | omega | (simp_all; done)), if_neg (by rintro (h | h) <;> first | omega | exact h (by assumption))]; first | done | rfl)))), rfl⟩, ⟨(rfl : toAV (Al.look _ _) = some _).trans (congrArg some (by (unfold xo; (try simp only [yH] at *); ((try simp only [decide_eq_true_eq, decide_eq_false_iff_not, bne_iff_ne, ne_eq, beq_iff_eq, qd, beq_eq_false_iff_ne, Bool.not_eq_true', Bool.not_eq_false', gt_iff_lt, ge_iff_le] at *); (repeat simp (disch := omega) only [zO, zi] at *)); first | (rw [if_pos (by omega)]; first | done | rfl) | (rw [if_neg (by omega), if_pos (by first | exact .inl (by omega) | exact .inr (.inl (by omega)) | exact .inr (.inr (by assumption)))]; first | done | rfl) | (rw [if_neg (by omega), if_neg (by rintro (h | h | h) <;> first | omega | (simp_all; done)), if_pos (by first | exact .inl (by omega) | exact .inr (by assumption))]; first | done | rfl) | (rw [if_neg (by omega), if_neg (by rintro (h | h | h) <;> first | omega | (simp_all; done)), if_neg (by rintro (h | h) <;> first | omega | exact h (by assumption))]; first | done | rfl)))), rfl⟩, trivial⟩
          · refine zQ ?_
            refine zA <| zD <| zB <| g_u (zC rfl rfl) <| g_u (xL rfl rfl Tryz.underlying3 Tryz.underlying21) <| g_u (zP (bytes_c _) rfl rfl) <| g_u (zE rfl rfl) <| zH <| zA <| zD <| zD <| zB <| g_u (zC rfl rfl) <| g_u (yp rfl rfl Tryz.underlying9) <| g_u (zC rfl rfl) <| g_u (yp rfl rfl Tryz.underlying9) <| g_u (zC rfl rfl) <| g_u (vW rfl rfl rfl) <| g_u (wD rfl rfl rfl) <| g_u (zC rfl rfl) <| yB (t := 42) rfl ?_
            rintro (hb6 | hb6)
            · rw [hb6]
              refine zI rfl rfl rfl <| zI rfl rfl rfl <| zI rfl rfl rfl <| zI rfl rfl rfl <| zI rfl rfl rfl <| zI rfl rfl rfl <| zI rfl rfl rfl <| zI rfl rfl rfl <| zI rfl rfl rfl <| g_u (zZ rfl rfl rfl) <| zH <| zA <| zs rfl <| zD <| zB <| g_u (zE rfl rfl) <| g_u (zE rfl rfl) <| zH <| zA <| zL <| zK ?_
              exact ⟨⟨(rfl : toAV (Al.look _ _) = some _).trans (congrArg some (by (unfold xo; (try simp only [yH] at *); ((try simp only [decide_eq_true_eq, decide_eq_false_iff_not, bne_iff_ne, ne_eq, beq_iff_eq, qd, beq_eq_false_iff_ne, Bool.not_eq_true', Bool.not_eq_false', gt_iff_lt, ge_iff_le] at *); (repeat simp (disch := omega) only [zO, zi] at *)); first | (rw [if_pos (by omega)]; first | done | rfl) | (rw [if_neg (by omega), if_pos (by first | exact .inl (by omega) | exact .inr (.inl (by omega)) | exact .inr (.inr (by assumption)))]; first | done | rfl) | (rw [if_neg (by omega), if_neg (by rintro (h | h | h) <;> first | omega | (simp_all; done)), if_pos (by first | exact .inl (by omega) | exact .inr (by assumption))]; first | done | rfl) | (rw [if_neg (by omega), if_neg (by rintro (h | h | h) <;> first | omega | (simp_all; done)), if_neg (by rintro (h | h) <;> first | omega | exact h (by assumption))]; first | done | rfl)))), rfl⟩, ⟨(rfl : toAV (Al.look _ _) = some _).trans (congrArg some (by (unfold xo; (try simp only [yH] at *); ((try simp only [decide_eq_true_eq, decide_eq_false_iff_not, bne_iff_ne, ne_eq, beq_iff_eq, qd, beq_eq_false_iff_ne, Bool.not_eq_true', Bool.not_eq_false', gt_iff_lt, ge_iff_le] at *); (repeat simp (disch := omega) only [zO, zi] at *)); first | (rw [if_pos (by omega)]; first | done | rfl) | (rw [if_neg (by omega), if_pos (by first | exact .inl (by omega) | exact .inr (.inl (by omega)) | exact .inr (.inr (by assumption)))]; first | done | rfl) | (rw [if_neg (by omega), if_neg (by rintro (h | h | h) <;> first | omega | (simp_all; done)), if_pos (by first | exact .inl (by omega) | exact .inr (by assumption))]; first | done | rfl) | (rw [if_neg (by omega), if_neg (by rintro (h | h | h) <;> first | omega | (simp_all; done)), if_neg (by rintro (h | h) <;> first | omega | exact h (by assumption))]; first | done | rfl)))), rfl⟩, trivial⟩
            · rw [hb6]
              refine zY rfl rfl (zC rfl rfl) <| zY rfl rfl (zC rfl rfl) <| zY rfl rfl (zC rfl rfl) <| zY rfl rfl (zC rfl rfl) <| zY rfl rfl (yp rfl rfl Tryz.underlying9) <| zY rfl rfl (z0 rfl rfl rfl) ?_
              refine zY rfl rfl (jc rfl rfl rfl rfl Tryz.underlying9 (by ((try simp only [decide_eq_true_eq, decide_eq_false_iff_not, bne_iff_ne, ne_eq, beq_iff_eq, qd, beq_eq_false_iff_ne, Bool.not_eq_true', Bool.not_eq_false', gt_iff_lt, ge_iff_le] at *); (repeat simp (disch := omega) only [zO, zi] at *)); omega)) ?_
              refine zY rfl rfl (zC rfl rfl) <| zY rfl rfl (s_neS rfl rfl rfl) <| g_u (zh rfl rfl rfl) <| zH <| zA ?_
              refine zN rfl (fun hb7 => ?_) (fun hb7 => ?_)
              · refine zD ?_
                refine zB <| g_u (zE rfl rfl) <| g_u (zE rfl rfl) <| zH <| zA <| zL <| zK ?_
                exact ⟨⟨(rfl : toAV (Al.look _ _) = some _).trans (congrArg some (by (unfold xo; (try simp only [yH] at *); ((try simp only [decide_eq_true_eq, decide_eq_false_iff_not, bne_iff_ne, ne_eq, beq_iff_eq, qd, beq_eq_false_iff_ne, Bool.not_eq_true', Bool.not_eq_false', gt_iff_lt, ge_iff_le] at *); (repeat simp (disch := omega) only [zO, zi] at *)); first | (rw [if_pos (by omega)]; first | done | rfl) | (rw [if_neg (by omega), if_pos (by first | exact .inl (by omega) | exact .inr (.inl (by omega)) | exact .inr (.inr (by assumption)))]; first | done | rfl) | (rw [if_neg (by omega), if_neg (by rintro (h | h | h) <;> first | omega | (simp_all; done)), if_pos (by first | exact .inl (by omega) | exact .inr (by assumption))]; first | done | rfl) | (rw [if_neg (by omega), if_neg (by rintro (h | h | h) <;> first | omega | (simp_all; done)), if_neg (by rintro (h | h) <;> first | omega | exact h (by assumption))]; first | done | rfl)))), rfl⟩, ⟨(rfl : toAV (Al.look _ _) = some _).trans (congrArg some (by (unfold xo; (try simp only [yH] at *); ((try simp only [decide_eq_true_eq, decide_eq_false_iff_not, bne_iff_ne, ne_eq, beq_iff_eq, qd, beq_eq_false_iff_ne, Bool.not_eq_true', Bool.not_eq_false', gt_iff_lt, ge_iff_le] at *); (repeat simp (disch := omega) only [zO, zi] at *)); first | (rw [if_pos (by omega)]; first | done | rfl) | (rw [if_neg (by omega), if_pos (by first | exact .inl (by omega) | exact .inr (.inl (by omega)) | exact .inr (.inr (by assumption)))]; first | done | rfl) | (rw [if_neg (by omega), if_neg (by rintro (h | h | h) <;> first | omega | (simp_all; done)), if_pos (by first | exact .inl (by omega) | exact .inr (by assumption))]; first | done | rfl) | (rw [if_neg (by omega), if_neg (by rintro (h | h | h) <;> first | omega | (simp_all; done)), if_neg (by rintro (h | h) <;> first | omega | exact h (by assumption))]; first | done | rfl)))), rfl⟩, trivial⟩
              · refine zQ ?_
                refine zA <| zD <| zB <| g_u (zC rfl rfl) <| g_u (xL rfl rfl Tryz.underlying3 Tryz.underlying21) <| g_u (zC rfl rfl) <| g_u (yp rfl rfl Tryz.underlying9) <| g_u (zE rfl rfl) <| g_u (zE rfl rfl) <| zH <| zA <| zL ?_
                exact ⟨⟨(rfl : toAV (Al.look _ _) = some _).trans (congrArg some (by (unfold xo; (try simp only [yH] at *); ((try simp only [decide_eq_true_eq, decide_eq_false_iff_not, bne_iff_ne, ne_eq, beq_iff_eq, qd, beq_eq_false_iff_ne, Bool.not_eq_true', Bool.not_eq_false', gt_iff_lt, ge_iff_le] at *); (repeat simp (disch := omega) only [zO, zi] at *)); first | (rw [if_pos (by omega)]; first | done | rfl) | (rw [if_neg (by omega), if_pos (by first | exact .inl (by omega) | exact .inr (.inl (by omega)) | exact .inr (.inr (by assumption)))]; first | done | rfl) | (rw [if_neg (by omega), if_neg (by rintro (h | h | h) <;> first | omega | (simp_all; done)), if_pos (by first | exact .inl (by omega) | exact .inr (by assumption))]; first | done | rfl) | (rw [if_neg (by omega), if_neg (by rintro (h | h | h) <;> first | omega | (simp_all; done)), if_neg (by rintro (h | h) <;> first | omega | exact h (by assumption))]; first | done | rfl)))), rfl⟩, ⟨(rfl : toAV (Al.look _ _) = some _).trans (congrArg some (by (unfold xo; (try simp only [yH] at *); ((try simp only [decide_eq_true_eq, decide_eq_false_iff_not, bne_iff_ne, ne_eq, beq_iff_eq, qd, beq_eq_false_iff_ne, Bool.not_eq_true', Bool.not_eq_false', gt_iff_lt, ge_iff_le] at *); (repeat simp (disch := omega) only [zO, zi] at *)); first | (rw [if_pos (by omega)]; first | done | rfl) | (rw [if_neg (by omega), if_pos (by first | exact .inl (by omega) | exact .inr (.inl (by omega)) | exact .inr (.inr (by assumption)))]; first | done | rfl) | (rw [if_neg (by omega), if_neg (by rintro (h | h | h) <;> first | omega | (simp_all; done)), if_pos (by first | exact .inl (by omega) | exact .inr (by assumption))]; first | done | rfl) | (rw [if_neg (by omega), if_neg (by rintro (h | h | h) <;> first | omega | (simp_all; done)), if_neg (by rintro (h | h) <;> first | omega | exact h (by assumption))]; first | done | rfl)))), rfl⟩, trivial⟩
attribute [local irreducible] runeM xo
theorem walk_c (s : ByteArray) (hs : s.size < 9223372036854775808) : zn Tryz.prog Γ0 139 [sv s] [iv (rEnd s).1, iv (rEnd s).2] := by
  refine z_ Tryz.func139 rfl Tryz.ntmps139 (by kernel_rfl) rfl fun w0 I0 G0 => ?_
  refine zD <| zB <| g_u (zE rfl rfl) <| g_u (zE rfl rfl) <| zH <| zA <| zD <| zB <| g_u (zE rfl rfl) <| g_u (zE rfl rfl) <| zH <| zA <| zD <| zU ?_
  refine zw (fun j : Nat × Int × Int => [(0, .imm (sv s)), (4, .imm (iv j.2.1)), (5, .imm (iv j.2.2))]) (fun j => 0 ≤ j.2.1 ∧ j.2.1 ≤ s.size ∧ 0 ≤ j.2.2 ∧ j.2.2 ≤ j.2.1 ∧ (s.size : Int) < j.2.1 + j.1 ∧ goM (rF s) s.size j.1 j.2.1 j.2.2 = rEnd s) (fun j => j.1) (⟨s.size + 1, 0, 0⟩) ?_ ⟨rfl, rfl, rfl, trivial⟩ ?_
  · refine ⟨Int.le_refl 0, Int.natCast_nonneg _, Int.le_refl 0, Int.le_refl 0, ?_, rfl⟩; dsimp only; omega
  · rintro ⟨m, q, c⟩ ⟨h1, h2, h3, h4, h5, h6⟩; dsimp only at h1 h2 h3 h4 h5 h6; obtain ⟨m, rfl⟩ : ∃ k, m = k + 1 := ⟨m - 1, by omega⟩; have F := dec_rF s q
    refine zD <| zD <| zB <| g_u (zC rfl rfl) <| g_u (zC rfl rfl) <| g_u (yp rfl rfl Tryz.underlying9) <| g_u (ye rfl rfl rfl) <| zH <| zA ?_
    refine zN rfl (fun hb1 => ?_) (fun hb1 => ?_)
    · refine zQ ?_
      refine zA <| zU <| zD <| zB <| g_u (zC rfl rfl) <| g_u (zC rfl rfl) ?_
      refine g_u (vb (rrune_c _ _ (by assumption)) rfl rfl) ?_
      refine g_u (xt rfl rfl) <| g_u (zp rfl rfl rfl rfl) <| g_u (zp rfl rfl rfl rfl) <| g_u (zE rfl rfl) <| g_u (zE rfl rfl) <| zH <| zA <| zD <| zD <| zB <| g_u (zC rfl rfl) <| g_u (yz rfl rfl rfl) <| zH <| zA ?_
      refine zN rfl (fun hb2 => ?_) (fun hb2 => ?_)
      · refine zD ?_
        refine zB <| g_u (zC rfl rfl) <| g_u (zC rfl rfl) <| g_u (zE rfl rfl) <| g_u (zE rfl rfl) <| zH <| zA <| zL <| zK <| zt <| zK <| zt <| zK ?_
        change decide (q < (s.size : Int)) = true at hb1
        change (rF s q == 0) = true at hb2
        rw [goM, if_pos (by ((try simp only [decide_eq_true_eq, decide_eq_false_iff_not, bne_iff_ne, ne_eq, beq_iff_eq, qd, beq_eq_false_iff_ne, Bool.not_eq_true', Bool.not_eq_false', gt_iff_lt, ge_iff_le] at *); (repeat simp (disch := omega) only [zO, zi] at *)); omega), if_pos (by ((try simp only [decide_eq_true_eq, decide_eq_false_iff_not, bne_iff_ne, ne_eq, beq_iff_eq, qd, beq_eq_false_iff_ne, Bool.not_eq_true', Bool.not_eq_false', gt_iff_lt, ge_iff_le] at *); (repeat simp (disch := omega) only [zO, zi] at *)); exact hb2)] at h6
        exact ⟨⟨(rfl : toAV (Al.look _ _) = some _).trans (congrArg some (by rw [← h6])), rfl⟩, ⟨(rfl : toAV (Al.look _ _) = some _).trans (congrArg some (by rw [← h6])), rfl⟩, trivial⟩
      · refine zQ ?_
        refine zA <| zD <| zB <| g_u (zC rfl rfl) <| g_u (zC rfl rfl) <| g_u (z0 rfl rfl rfl) <| g_u (zE rfl rfl) <| zH <| zA <| zB <| g_u (zC rfl rfl) <| g_u (z0 rfl rfl rfl) <| g_u (zE rfl rfl) <| zH <| zW <| zA ?_
        change decide (q < (s.size : Int)) = true at hb1
        have F := F h1 (by ((try simp only [decide_eq_true_eq, decide_eq_false_iff_not, bne_iff_ne, ne_eq, beq_iff_eq, qd, beq_eq_false_iff_ne, Bool.not_eq_true', Bool.not_eq_false', gt_iff_lt, ge_iff_le] at *); (repeat simp (disch := omega) only [zO, zi] at *)); omega)
        rw [goM, if_pos (by ((try simp only [decide_eq_true_eq, decide_eq_false_iff_not, bne_iff_ne, ne_eq, beq_iff_eq, qd, beq_eq_false_iff_ne, Bool.not_eq_true', Bool.not_eq_false', gt_iff_lt, ge_iff_le] at *); (repeat simp (disch := omega) only [zO, zi] at *)); omega)] at h6
        change ((rF s q) == 0) = false at hb2
        rw [if_neg (by ((try simp only [decide_eq_true_eq, decide_eq_false_iff_not, bne_iff_ne, ne_eq, beq_iff_eq, qd, beq_eq_false_iff_ne, Bool.not_eq_true', Bool.not_eq_false', gt_iff_lt, ge_iff_le] at *); (repeat simp (disch := omega) only [zO, zi] at *)); exact hb2)] at h6
        have F : 1 ≤ rF s q ∧ q + rF s q ≤ s.size := by ((try simp only [decide_eq_true_eq, decide_eq_false_iff_not, bne_iff_ne, ne_eq, beq_iff_eq, qd, beq_eq_false_iff_ne, Bool.not_eq_true', Bool.not_eq_false', gt_iff_lt, ge_iff_le] at *); (repeat simp (disch := omega) only [zO, zi] at *)); omega
        have e1 : IntKind.i64.wrap (q + rF s q) = q + rF s q := by ((try simp only [decide_eq_true_eq, decide_eq_false_iff_not, bne_iff_ne, ne_eq, beq_iff_eq, qd, beq_eq_false_iff_ne, Bool.not_eq_true', Bool.not_eq_false', gt_iff_lt, ge_iff_le] at *); (repeat simp (disch := omega) only [zO, zi] at *))
        have e2 : IntKind.i64.wrap (c + 1) = c + 1 := by ((try simp only [decide_eq_true_eq, decide_eq_false_iff_not, bne_iff_ne, ne_eq, beq_iff_eq, qd, beq_eq_false_iff_ne, Bool.not_eq_true', Bool.not_eq_false', gt_iff_lt, ge_iff_le] at *); (repeat simp (disch := omega) only [zO, zi] at *))
        refine ⟨⟨m, IntKind.i64.wrap (q + rF s q), IntKind.i64.wrap (c + 1)⟩, ⟨?_, ?_, ?_, ?_, ?_, ?_⟩, ⟨rfl, rfl, rfl, trivial⟩, Nat.lt_succ_self _⟩
        · dsimp only; rw [e1]; omega
        · dsimp only; rw [e1]; omega
        · dsimp only; rw [e2]; omega
        · dsimp only; rw [e1, e2]; omega
        · dsimp only; rw [e1]; omega
        · dsimp only; rw [e1, e2]; exact h6
    · refine zz ?_
      refine zT <| zT <| zq <| zA <| zD <| zB <| g_u (zC rfl rfl) <| g_u (zC rfl rfl) <| g_u (zE rfl rfl) <| g_u (zE rfl rfl) <| zH <| zA <| zL ?_
      change decide (q < (s.size : Int)) = false at hb1
      rw [goM, if_neg (by ((try simp only [decide_eq_true_eq, decide_eq_false_iff_not, bne_iff_ne, ne_eq, beq_iff_eq, qd, beq_eq_false_iff_ne, Bool.not_eq_true', Bool.not_eq_false', gt_iff_lt, ge_iff_le] at *); (repeat simp (disch := omega) only [zO, zi] at *)); omega)] at h6
      exact ⟨⟨(rfl : toAV (Al.look _ _) = some _).trans (congrArg some (by rw [← h6])), rfl⟩, ⟨(rfl : toAV (Al.look _ _) = some _).trans (congrArg some (by rw [← h6])), rfl⟩, trivial⟩
theorem rcheck_c (s : ByteArray) (hs : s.size < 9223372036854775808) : zn Tryz.prog Γ0 107 [sv s] [iv (ru s)] := by
  refine z_ Tryz.func107 rfl Tryz.ntmps107 (by kernel_rfl) rfl fun w0 I0 G0 => ?_
  refine zD <| zB <| g_u (zE rfl rfl) <| zH <| zA <| zD <| zB <| g_u (zC rfl rfl) ?_
  refine g_u (vb (walk_c _ (by assumption)) rfl rfl) ?_
  refine g_u (xt rfl rfl) <| g_u (zp rfl rfl rfl rfl) <| g_u (zp rfl rfl rfl rfl) <| g_u (zE rfl rfl) <| g_u (zE rfl rfl) <| zH <| zA <| zD <| zD <| zB <| g_u (zC rfl rfl) <| g_u (zC rfl rfl) <| g_u (yp rfl rfl Tryz.underlying9) <| g_u (yz rfl rfl rfl) <| zH <| zA ?_
  refine zN rfl (fun hb1 => ?_) (fun hb1 => ?_)
  · refine zD ?_
    refine zB <| g_u (zE rfl rfl) <| zH <| zA <| zL <| zK ?_
    exact ⟨⟨(rfl : toAV (Al.look _ _) = some _).trans (congrArg some (by (unfold ru; ((try simp only [decide_eq_true_eq, decide_eq_false_iff_not, bne_iff_ne, ne_eq, beq_iff_eq, qd, beq_eq_false_iff_ne, Bool.not_eq_true', Bool.not_eq_false', gt_iff_lt, ge_iff_le] at *); (repeat simp (disch := omega) only [zO, zi] at *)); first | rw [if_pos (by omega)] | rw [if_neg (by omega)]))), rfl⟩, trivial⟩
  · refine zQ ?_
    refine zA <| zD <| zB <| g_u (zC rfl rfl) <| g_u (zE rfl rfl) <| zH <| zA <| zL ?_
    exact ⟨⟨(rfl : toAV (Al.look _ _) = some _).trans (congrArg some (by (unfold ru; ((try simp only [decide_eq_true_eq, decide_eq_false_iff_not, bne_iff_ne, ne_eq, beq_iff_eq, qd, beq_eq_false_iff_ne, Bool.not_eq_true', Bool.not_eq_false', gt_iff_lt, ge_iff_le] at *); (repeat simp (disch := omega) only [zO, zi] at *)); first | rw [if_pos (by omega)] | rw [if_neg (by omega)]))), rfl⟩, trivial⟩
attribute [local irreducible] wv rS cutM ru rCountM rCutM
attribute [local irreducible] v8 bytesP
end Go.Proofs
namespace Go.Proofs
open Go Go.Al
theorem jV (k : ByteArray) : k = ⟨#[]⟩ ↔ k.size = 0 := by
  constructor
  · rintro rfl; rfl
  · intro h; refine sZ ?_; have : k.data.toList.length = 0 := by simpa using h
    rw [List.length_eq_zero_iff.1 this]
theorem rk (s : ByteArray) : wv s = -1 ∨ 0 ≤ wv s := by
  have h := u3 s
  unfold wv
  split
  · exact .inr h.2.2.1
  · exact .inl rfl
def rV (l : List GA) (i : Nat) : Option ByteArray := if i = 0 then none else some (nthA l (i - 1)).key
theorem entC_drop {l : List GA} {i : Nat} (d : Int) (h : i < l.length) : entC d (rV l i) (l.drop i) = orC (keyC (nthA l i).key) (if sE (rV l i) (nthA l i).key then 12 else orC (y9 d (nthA l i).val) (entC d (rV l (i + 1)) (l.drop (i + 1)))) := by
  rw [xW (d := a0) h, entC, checkA_eq]; rfl
theorem checkVs_drop {l : List GV} {i : Nat} (d : Int) (h : i < l.length) : vo d (l.drop i) = orC (y9 d (nthV l i)) (vo d (l.drop (i + 1))) := by
  rw [xW (d := v0) h, vo]; rfl
theorem prevBad_pos {l : List GA} {i : Nat} (h : i ≠ 0) (k : ByteArray) : sE (rV l i) k = !(ltB (nthA l (i - 1)).key k) := by unfold rV; rw [if_neg h]; rfl
theorem zJ (a b : Int) (h : a = 0) : orC a b = b := by unfold orC; rw [if_neg (by omega)]
theorem zj (a b : Int) (h : a ≠ 0) : orC a b = a := by unfold orC; rw [if_pos h]
theorem orC_right (a : Int) : orC a 0 = a := by unfold orC; split <;> omega
theorem isEmpty_len {α : Type} (l : List α) : l.isEmpty = decide ((l.length : Int) = 0) := by cases l <;> simp <;> omega
def textsC (l : List GA) : Int := if l.any (fun a => decide (1024 < (xA a.val).size)) then 35 else 0
theorem ud {l : List GA} {i : Nat} (h : i < l.length) : textsC (l.drop i) = if 1024 < (xA (nthA l i).val).size then 35 else textsC (l.drop (i + 1)) := by
  rw [xW (d := a0) h]
  unfold textsC nthA
  by_cases hc : 1024 < (xA (nth l i a0).val).size
  · simp [hc]
  · simp [hc]
theorem uG {α : Type} (l : List α) : (((l.length : Nat) : Int) == 0) = l.isEmpty := by
  rw [isEmpty_len, Bool.eq_iff_iff]; simp
theorem leB (s t : ByteArray) : (Op.bytesLess s.toList t.toList || s.toList == t.toList) = !(ltB t s) := by
  rw [less_eq, yH]
  cases h1 : ltB t s
  · cases h2 : ltB s t
    · rw [ltB_tri h2 h1]; simp
    · simp
  · have h2 : ltB s t = false := by
      cases h : ltB s t
      · rfl
      · have := tU h h1; rw [xT] at this; cases this
    have h3 : s ≠ t := by rintro rfl; rw [xT] at h1; cases h1
    simp [h2, h3]
end Go.Proofs
namespace Go.Al
open Go.RowKit
theorem vk {C : Cx} {x y : Code} {st : St} {Q : Exit → St → Prop} {ι : Type} (Inv : ι → St) (ok : ι → Prop)
    (h1 : AW C x st (thn (fun st' => ∃ j, ok j ∧ sub st' (Inv j)) Q)) (h2 : ∀ j, ok j → AW C y (Inv j) Q) : AW C x st (thn (fun st' => AW C y st' Q) Q) := by
  refine h1.mono ?_
  intro e st' q
  cases e <;> simp only [thn] at q ⊢ <;> first | exact q | (obtain ⟨j, a, b⟩ := q; exact aw_weak _ b (h2 j a))
end Go.Al
namespace Go.Proofs
open Go Go.Al
set_option maxRecDepth 10000
theorem rkeyP_c (k : ByteArray) (hk : k.size < 9223372036854775808) : zn Tryz.prog Γ0 103 [sv k] [iv (keyC k)] := by
  have cr := rk k
  have ce := check_eq k
  refine z_ Tryz.func103 rfl Tryz.ntmps103 (by kernel_rfl) rfl fun w0 I0 G0 => ?_
  refine zD <| zB <| g_u (zE rfl rfl) <| zH <| zA <| zD <| zD <| zB <| g_u (zC rfl rfl) <| g_u (jZ rfl rfl rfl) <| zH <| zA ?_
  refine zN rfl (fun hb1 => ?_) (fun hb1 => ?_)
  · have q : k.size = 0 := by have e := hb1; rw [yH] at e; exact (jV k).1 (of_decide_eq_true e)
    refine zD <| zB <| g_u (zE rfl rfl) <| zH <| zA <| zL <| zK ?_
    exact ⟨⟨(rfl : toAV (Al.look _ _) = some _).trans (congrArg some (by (exact congrArg iv (by unfold keyC; (repeat' split) <;> first | rfl | omega)))), rfl⟩, trivial⟩
  · have q : ¬ k.size = 0 := by have e := hb1; rw [yH] at e; exact fun h => of_decide_eq_false e ((jV k).2 h)
    refine zQ <| zA <| zD <| zD <| zB <| g_u (zC rfl rfl) ?_
    refine g_u (zP (rcheck_c _ (by omega)) rfl rfl) ?_
    refine g_u (xl rfl rfl rfl) <| zH <| zA ?_
    refine zN rfl (fun hb2 => ?_) (fun hb2 => ?_)
    · have q := bne_iff_ne.1 hb2
      refine zD <| zB <| g_u (zE rfl rfl) <| zH <| zA <| zL <| zK ?_
      exact ⟨⟨(rfl : toAV (Al.look _ _) = some _).trans (congrArg some (by (exact congrArg iv (by unfold keyC; (repeat' split) <;> first | rfl | omega)))), rfl⟩, trivial⟩
    · have q := qd.1 hb2
      refine zQ <| zA <| zD <| zD <| zB <| g_u (zC rfl rfl) <| g_u (yp rfl rfl Tryz.underlying9) <| g_u (wD rfl rfl rfl) <| zH <| zA ?_
      refine zN rfl (fun hb3 => ?_) (fun hb3 => ?_)
      · have q := of_decide_eq_true hb3
        refine zD <| zB <| g_u (zE rfl rfl) <| zH <| zA <| zL <| zK ?_
        exact ⟨⟨(rfl : toAV (Al.look _ _) = some _).trans (congrArg some (by (exact congrArg iv (by unfold keyC; (repeat' split) <;> first | rfl | omega)))), rfl⟩, trivial⟩
      · have q := of_decide_eq_false hb3
        refine zQ <| zA <| zD <| zB <| g_u (zE rfl rfl) <| zH <| zA <| zL ?_
        exact ⟨⟨(rfl : toAV (Al.look _ _) = some _).trans (congrArg some (by (exact congrArg iv (by unfold keyC; (repeat' split) <;> first | rfl | omega)))), rfl⟩, trivial⟩
set_option maxHeartbeats 2000000 in
theorem rentC_st (l : List GA) (d : Int) (hd : 0 ≤ d ∧ d + wtAs l ≤ 1000000000) (ih : ∀ a ∈ l, ∀ d : Int, 0 ≤ d ∧ d + a.val.wt ≤ 1000000000 → zn Tryz.prog Γ0 104 [a.val.av, iv d] [iv (y9 d a.val)]) : zn Tryz.prog Γ0 73 [.sl 7 (l.map avA), iv d] [iv (entC d none l)] := by
  refine z_ Tryz.func73 rfl Tryz.ntmps73 (by kernel_rfl) rfl fun w0 I0 G0 => ?_
  refine zD <| zB <| g_u (zE rfl rfl) <| zH <| zA <| zD <| zD <| zB <| g_u (zE rfl rfl) <| zH <| zA <| zU ?_
  refine zw (fun i : Nat => [(0, .imm (.sl 7 (l.map avA))), (1, .imm (iv d)), (5, .imm (iv (i : Int)))]) (fun i => i ≤ l.length ∧ entC d none l = entC d (rV l i) (l.drop i)) (fun i => l.length - i) (0) ?_ ⟨rfl, rfl, rfl, trivial⟩ ?_
  · exact ⟨Nat.zero_le _, rfl⟩
  · rintro i ⟨h1, h2⟩; (try dsimp only at h1 h2)
    refine zD <| zD <| zB <| g_u (zC rfl rfl) <| g_u (zC rfl rfl) <| g_u (z7 rfl rfl Tryz.underlying44) <| g_u (ye rfl rfl rfl) <| zH <| zA ?_
    refine zN rfl (fun hb1 => ?_) (fun hb1 => ?_)
    · have hi : i < l.length := by have := of_decide_eq_true hb1; (try simp only [List.length_map] at this); omega
      have hw1 := xy (xY hi)
      have hw2 := (nthA l i).wt_eq
      have E := entC_drop d hi
      have ll := yv l
      refine zQ <| zA <| zD <| zU <| zD <| zD <| zB <| g_u (zC rfl rfl) <| g_u (zC rfl rfl) ?_
      refine g_u (zR rfl rfl rfl Tryz.underlying44 tS72 (by omega) (ixA hi)) ?_
      refine g_u (zf rfl rfl uq rfl rfl) <| g_u (zd rfl rfl tA9 tS9 rfl rfl) ?_
      refine g_u (zP (rkeyP_c _ (by omega)) rfl rfl) ?_
      refine g_u (zE rfl rfl) <| zH <| zA <| zD <| zB <| g_u (zC rfl rfl) <| g_u (xl rfl rfl rfl) <| zH <| zA ?_
      refine zN rfl (fun hb2 => ?_) (fun hb2 => ?_)
      · have q := bne_iff_ne.1 hb2
        refine zD <| zB <| g_u (zC rfl rfl) <| g_u (zE rfl rfl) <| zH <| zA <| zL <| zK <| zt <| zK <| zK <| zt <| zK ?_
        exact ⟨⟨(rfl : toAV (Al.look _ _) = some _).trans (congrArg some (by (exact congrArg iv (by first | (exfalso; omega) | (rw [h2, hin, List.drop_length]; rfl) | (rw [h2, E, zj _ _ (by omega)]; done) | (rw [h2, E, zJ _ _ (by omega), if_pos pb]; done) | (rw [h2, E, zJ _ _ (by omega), if_neg (by rw [pb]; decide), zj _ _ (by omega)]; done))))), rfl⟩, trivial⟩
      · have q := qd.1 hb2
        refine zQ <| zA <| zD <| zD <| y_ xR <| g_u (zC rfl rfl) <| g_u (wD rfl rfl rfl) <| g_u (zC rfl rfl) <| yB (t := 25) rfl ?_
        rintro (hb3 | hb3)
        · rw [hb3]
          have hi0 : i ≠ 0 := by have := of_decide_eq_true hb3; omega
          have hm : i - 1 < l.length := by omega
          have em : IntKind.i64.wrap ((i : Int) - 1) = ((i - 1 : Nat) : Int) := by rw [zO (by omega) (by omega)]; omega
          refine zY rfl rfl (zC rfl rfl) <| zY rfl rfl (zC rfl rfl) ?_
          refine zY rfl rfl (zR rfl rfl rfl Tryz.underlying44 tS72 (by omega) (ixA hi)) ?_
          refine zY rfl rfl (zf rfl rfl uq rfl rfl) <| zY rfl rfl (zd rfl rfl tA9 tS9 rfl rfl) <| zY rfl rfl (zC rfl rfl) <| zY rfl rfl (zC rfl rfl) <| zY rfl rfl (vW rfl rfl rfl) ?_
          refine zY rfl rfl (zR rfl rfl rfl Tryz.underlying44 tS72 (by rw [em]; omega) ((congrArg (fun z : Int => (l.map avA)[z.toNat]?) em).trans (ixA hm))) ?_
          refine zY rfl rfl (zf rfl rfl uq rfl rfl) <| zY rfl rfl (zd rfl rfl tA9 tS9 rfl rfl) <| zY rfl rfl (s_leS rfl rfl rfl) <| g_u (zZ rfl rfl rfl) ?_
          refine zH ⟨by kernel_rfl, ?_⟩
          refine zA ?_
          refine zN rfl (fun hb4 => ?_) (fun hb4 => ?_)
          · have pb : sE (rV l i) (nthA l i).key = true := by rw [prevBad_pos hi0, ← leB]; exact hb4
            refine zD <| zB <| g_u (zE rfl rfl) <| zH <| zA <| zL <| zK <| zt <| zK <| zK <| zt <| zK ?_
            exact ⟨⟨(rfl : toAV (Al.look _ _) = some _).trans (congrArg some (by (exact congrArg iv (by first | (exfalso; omega) | (rw [h2, hin, List.drop_length]; rfl) | (rw [h2, E, zj _ _ (by omega)]; done) | (rw [h2, E, zJ _ _ (by omega), if_pos pb]; done) | (rw [h2, E, zJ _ _ (by omega), if_neg (by rw [pb]; decide), zj _ _ (by omega)]; done))))), rfl⟩, trivial⟩
          · have pb : sE (rV l i) (nthA l i).key = false := by rw [prevBad_pos hi0, ← leB]; exact hb4
            refine zQ <| zA <| zD <| zB <| g_u (zC rfl rfl) <| g_u (zC rfl rfl) ?_
            refine g_u (zR rfl rfl rfl Tryz.underlying44 tS72 (by omega) (ixA hi)) ?_
            refine g_u (zf rfl rfl ul rfl rfl) <| g_u (zd rfl rfl tA70 tS70 rfl rfl) <| g_u (zC rfl rfl) ?_
            refine g_u (zP (ih _ (xY hi) d ⟨by omega, by omega⟩) rfl rfl) ?_
            refine g_u (zE rfl rfl) <| zH <| zA <| zD <| zB <| g_u (zC rfl rfl) <| g_u (xl rfl rfl rfl) <| zH <| zA ?_
            refine zN rfl (fun hb5 => ?_) (fun hb5 => ?_)
            · have q := bne_iff_ne.1 hb5
              refine zD <| zB <| g_u (zC rfl rfl) <| g_u (zE rfl rfl) <| zH <| zA <| zL <| zt <| zK <| zK <| zt <| zK ?_
              exact ⟨⟨(rfl : toAV (Al.look _ _) = some _).trans (congrArg some (by (exact congrArg iv (by first | (exfalso; omega) | (rw [h2, hin, List.drop_length]; rfl) | (rw [h2, E, zj _ _ (by omega)]; done) | (rw [h2, E, zJ _ _ (by omega), if_pos pb]; done) | (rw [h2, E, zJ _ _ (by omega), if_neg (by rw [pb]; decide), zj _ _ (by omega)]; done))))), rfl⟩, trivial⟩
            · have q := qd.1 hb5
              refine zQ <| zW <| zA <| zB <| g_u (zC rfl rfl) <| g_u (z0 rfl rfl rfl) <| g_u (zE rfl rfl) <| zH <| zA ?_
              first | (exfalso; omega) | refine ⟨i + 1, ⟨hi, by (try dsimp only); rw [h2, E, zJ _ _ (by omega), if_neg (by rw [pb]; decide), zJ _ _ (by omega)]⟩, ⟨rfl, rfl, zX rfl (by rw [zO (by omega) (by omega)]; rfl), trivial⟩, by (try dsimp only); omega⟩
        · rw [hb3]
          have hi0 : i = 0 := by have := of_decide_eq_false hb3; omega
          have pb : sE (rV l i) (nthA l i).key = false := by unfold rV; rw [if_pos hi0]; rfl
          refine zI rfl rfl rfl <| zI rfl rfl rfl <| zI rfl rfl rfl <| zI rfl rfl rfl <| zI rfl rfl rfl <| zI rfl rfl rfl <| zI rfl rfl rfl <| zI rfl rfl rfl <| zI rfl rfl rfl <| zI rfl rfl rfl <| zI rfl rfl rfl <| zI rfl rfl rfl <| g_u (zh rfl rfl rfl) ?_
          refine zH ⟨by kernel_rfl, ?_⟩
          refine zA <| yD rfl <| zQ <| zA <| zD <| zB <| g_u (zC rfl rfl) <| g_u (zC rfl rfl) ?_
          refine g_u (zR rfl rfl rfl Tryz.underlying44 tS72 (by omega) (ixA hi)) ?_
          refine g_u (zf rfl rfl ul rfl rfl) <| g_u (zd rfl rfl tA70 tS70 rfl rfl) <| g_u (zC rfl rfl) ?_
          refine g_u (zP (ih _ (xY hi) d ⟨by omega, by omega⟩) rfl rfl) ?_
          refine g_u (zE rfl rfl) <| zH <| zA <| zD <| zB <| g_u (zC rfl rfl) <| g_u (xl rfl rfl rfl) <| zH <| zA ?_
          refine zN rfl (fun hb6 => ?_) (fun hb6 => ?_)
          · have q := bne_iff_ne.1 hb6
            refine zD <| zB <| g_u (zC rfl rfl) <| g_u (zE rfl rfl) <| zH <| zA <| zL <| zt <| zK <| zK <| zt <| zK ?_
            exact ⟨⟨(rfl : toAV (Al.look _ _) = some _).trans (congrArg some (by (exact congrArg iv (by first | (exfalso; omega) | (rw [h2, hin, List.drop_length]; rfl) | (rw [h2, E, zj _ _ (by omega)]; done) | (rw [h2, E, zJ _ _ (by omega), if_pos pb]; done) | (rw [h2, E, zJ _ _ (by omega), if_neg (by rw [pb]; decide), zj _ _ (by omega)]; done))))), rfl⟩, trivial⟩
          · have q := qd.1 hb6
            refine zQ <| zW <| zA <| zB <| g_u (zC rfl rfl) <| g_u (z0 rfl rfl rfl) <| g_u (zE rfl rfl) <| zH <| zA ?_
            first | (exfalso; omega) | refine ⟨i + 1, ⟨hi, by (try dsimp only); rw [h2, E, zJ _ _ (by omega), if_neg (by rw [pb]; decide), zJ _ _ (by omega)]⟩, ⟨rfl, rfl, zX rfl (by rw [zO (by omega) (by omega)]; rfl), trivial⟩, by (try dsimp only); omega⟩
    · have hin : i = l.length := by have := of_decide_eq_false hb1; (try simp only [List.length_map] at this); omega
      refine zz <| zT <| zT <| zq <| zA <| zD <| zB <| g_u (zE rfl rfl) <| zH <| zA <| zL ?_
      exact ⟨⟨(rfl : toAV (Al.look _ _) = some _).trans (congrArg some (by (exact congrArg iv (by first | (exfalso; omega) | (rw [h2, hin, List.drop_length]; rfl) | (rw [h2, E, zj _ _ (by omega)]; done) | (rw [h2, E, zJ _ _ (by omega), if_pos pb]; done) | (rw [h2, E, zJ _ _ (by omega), if_neg (by rw [pb]; decide), zj _ _ (by omega)]; done))))), rfl⟩, trivial⟩
set_option maxHeartbeats 2000000 in
theorem rempty_c (v : GV) : zn Tryz.prog Γ0 134 [v.av] [bv (uJ v)] := by
  refine z_ Tryz.func134 rfl Tryz.ntmps134 (by kernel_rfl) rfl fun w0 I0 G0 => ?_
  refine zD <| zB <| g_uG (zk 1001 rfl rfl rfl rfl) rfl <| g_u (zE rfl rfl) <| zH <| zA <| zD ?_
  refine vk (fun _ : Unit => [(1, .ptr 1001 0), (1001, .box 70 (.imm v.av)), (3, .imm (bv (v.kind == 1 || v.kind == 5 || decide (v.text.size = 0))))]) (fun _ => True) ?_ ?_
  · refine zB ?_
    refine g_u (zF rfl rfl xI rfl) <| g_u (zG rfl rfl rfl tA5 tS5 rfl rfl) <| g_u (yz rfl rfl rfl) <| g_u (zC rfl rfl) <| yB (t := 11) rfl ?_
    rintro (hb1 | hb1)
    · rw [hb1]
      refine zI rfl rfl rfl <| zI rfl rfl rfl <| zI rfl rfl rfl <| g_u (zZ rfl rfl rfl) <| g_u (zC rfl rfl) <| zI rfl rfl rfl <| zI rfl rfl rfl <| zI rfl rfl rfl <| g_u (zZ rfl rfl rfl) <| g_u (zE rfl rfl) <| zH <| zA ?_
      exact ⟨(), trivial, ⟨rfl, rfl, xF rfl (by (try simp only [yH] at *); simp_all [jV, uG]), trivial⟩⟩
    · rw [hb1]
      refine zY rfl rfl (zF rfl rfl xI rfl) <| zY rfl rfl (zG rfl rfl rfl tA5 tS5 rfl rfl) <| zY rfl rfl (yz rfl rfl rfl) <| g_u (zh rfl rfl rfl) <| g_u (zC rfl rfl) <| yB (t := 16) rfl ?_
      rintro (hb2 | hb2)
      · rw [hb2]
        refine zI rfl rfl rfl <| zI rfl rfl rfl <| zI rfl rfl rfl <| g_u (zZ rfl rfl rfl) <| g_u (zE rfl rfl) <| zH <| zA ?_
        exact ⟨(), trivial, ⟨rfl, rfl, xF rfl (by (try simp only [yH] at *); simp_all [jV, uG]), trivial⟩⟩
      · rw [hb2]
        refine zY rfl rfl (zF rfl rfl sc rfl) <| zY rfl rfl (zG rfl rfl rfl tA9 tS9 rfl rfl) <| zY rfl rfl (jZ rfl rfl rfl) <| g_u (zh rfl rfl rfl) <| g_u (zE rfl rfl) <| zH <| zA ?_
        exact ⟨(), trivial, ⟨rfl, rfl, xF rfl (by (try simp only [yH] at *); simp_all [jV, uG]), trivial⟩⟩
  · rintro _ _
    refine zD ?_
    refine vk (fun _ : Unit => [(1, .ptr 1001 0), (1001, .box 70 (.imm v.av)), (3, .imm (bv (v.kind == 1 || v.kind == 5 || decide (v.text.size = 0)))), (4, .imm (bv (v.kind == 2 || v.kind == 3 || v.num == 0)))]) (fun _ => True) ?_ ?_
    · refine zB ?_
      refine g_u (zF rfl rfl xI rfl) <| g_u (zG rfl rfl rfl tA5 tS5 rfl rfl) <| g_u (yz rfl rfl rfl) <| g_u (zC rfl rfl) <| yB (t := 24) rfl ?_
      rintro (hb3 | hb3)
      · rw [hb3]
        refine zI rfl rfl rfl <| zI rfl rfl rfl <| zI rfl rfl rfl <| g_u (zZ rfl rfl rfl) <| g_u (zC rfl rfl) <| zI rfl rfl rfl <| zI rfl rfl rfl <| zI rfl rfl rfl <| g_u (zZ rfl rfl rfl) <| g_u (zE rfl rfl) <| zH <| zA ?_
        exact ⟨(), trivial, ⟨rfl, rfl, rfl, xF rfl (by (try simp only [yH] at *); simp_all [jV, uG]), trivial⟩⟩
      · rw [hb3]
        refine zY rfl rfl (zF rfl rfl xI rfl) <| zY rfl rfl (zG rfl rfl rfl tA5 tS5 rfl rfl) <| zY rfl rfl (yz rfl rfl rfl) <| g_u (zh rfl rfl rfl) <| g_u (zC rfl rfl) <| yB (t := 29) rfl ?_
        rintro (hb4 | hb4)
        · rw [hb4]
          refine zI rfl rfl rfl <| zI rfl rfl rfl <| zI rfl rfl rfl <| g_u (zZ rfl rfl rfl) <| g_u (zE rfl rfl) <| zH <| zA ?_
          exact ⟨(), trivial, ⟨rfl, rfl, rfl, xF rfl (by (try simp only [yH] at *); simp_all [jV, uG]), trivial⟩⟩
        · rw [hb4]
          refine zY rfl rfl (zF rfl rfl rP rfl) <| zY rfl rfl (zG rfl rfl rfl tA3 tS3 rfl rfl) <| zY rfl rfl (yz rfl rfl rfl) <| g_u (zh rfl rfl rfl) <| g_u (zE rfl rfl) <| zH <| zA ?_
          exact ⟨(), trivial, ⟨rfl, rfl, rfl, xF rfl (by (try simp only [yH] at *); simp_all [jV, uG]), trivial⟩⟩
    · rintro _ _
      refine zD ?_
      refine vk (fun _ : Unit => [(1, .ptr 1001 0), (1001, .box 70 (.imm v.av)), (3, .imm (bv (v.kind == 1 || v.kind == 5 || decide (v.text.size = 0)))), (4, .imm (bv (v.kind == 2 || v.kind == 3 || v.num == 0))), (5, .imm (bv (v.kind == 4 || v.bits == 0)))]) (fun _ => True) ?_ ?_
      · refine zB ?_
        refine g_u (zF rfl rfl xI rfl) <| g_u (zG rfl rfl rfl tA5 tS5 rfl rfl) <| g_u (yz rfl rfl rfl) <| g_u (zC rfl rfl) <| yB (t := 37) rfl ?_
        rintro (hb5 | hb5)
        · rw [hb5]
          refine zI rfl rfl rfl <| zI rfl rfl rfl <| zI rfl rfl rfl <| g_u (zZ rfl rfl rfl) <| g_u (zE rfl rfl) <| zH <| zA ?_
          exact ⟨(), trivial, ⟨rfl, rfl, rfl, rfl, xF rfl (by (try simp only [yH] at *); simp_all [jV, uG]), trivial⟩⟩
        · rw [hb5]
          refine zY rfl rfl (zF rfl rfl fa70_3 rfl) <| zY rfl rfl (zG rfl rfl rfl tA57 tS57 rfl rfl) <| zY rfl rfl (yz rfl rfl rfl) <| g_u (zh rfl rfl rfl) <| g_u (zE rfl rfl) <| zH <| zA ?_
          exact ⟨(), trivial, ⟨rfl, rfl, rfl, rfl, xF rfl (by (try simp only [yH] at *); simp_all [jV, uG]), trivial⟩⟩
      · rintro _ _
        refine zD ?_
        refine vk (fun _ : Unit => [(1, .ptr 1001 0), (1001, .box 70 (.imm v.av)), (3, .imm (bv (v.kind == 1 || v.kind == 5 || decide (v.text.size = 0)))), (4, .imm (bv (v.kind == 2 || v.kind == 3 || v.num == 0))), (5, .imm (bv (v.kind == 4 || v.bits == 0))), (6, .imm (bv (v.kind == 6 || v.list.isEmpty)))]) (fun _ => True) ?_ ?_
        · refine zB ?_
          refine g_u (zF rfl rfl xI rfl) <| g_u (zG rfl rfl rfl tA5 tS5 rfl rfl) <| g_u (yz rfl rfl rfl) <| g_u (zC rfl rfl) <| yB (t := 45) rfl ?_
          rintro (hb6 | hb6)
          · rw [hb6]
            refine zI rfl rfl rfl <| zI rfl rfl rfl <| zI rfl rfl rfl <| zI rfl rfl rfl <| g_u (zZ rfl rfl rfl) <| g_u (zE rfl rfl) <| zH <| zA ?_
            exact ⟨(), trivial, ⟨rfl, rfl, rfl, rfl, rfl, xF rfl (by (try simp only [yH] at *); simp_all [jV, uG]), trivial⟩⟩
          · rw [hb6]
            refine zY rfl rfl (zF rfl rfl rR rfl) <| zY rfl rfl (zG rfl rfl rfl tA68 tS68 rfl rfl) <| zY rfl rfl (z7 rfl rfl Tryz.underlying68) <| zY rfl rfl (yz rfl rfl rfl) <| g_u (zh rfl rfl rfl) <| g_u (zE rfl rfl) <| zH <| zA ?_
            exact ⟨(), trivial, ⟨rfl, rfl, rfl, rfl, rfl, xF rfl (by (try simp only [yH] at *); simp_all [jV, uG]), trivial⟩⟩
        · rintro _ _
          refine zD ?_
          refine vk (fun _ : Unit => [(1, .ptr 1001 0), (1001, .box 70 (.imm v.av)), (3, .imm (bv (v.kind == 1 || v.kind == 5 || decide (v.text.size = 0)))), (4, .imm (bv (v.kind == 2 || v.kind == 3 || v.num == 0))), (5, .imm (bv (v.kind == 4 || v.bits == 0))), (6, .imm (bv (v.kind == 6 || v.list.isEmpty))), (7, .imm (bv (v.kind == 7 || v.map.isEmpty)))]) (fun _ => True) ?_ ?_
          · refine zB ?_
            refine g_u (zF rfl rfl xI rfl) <| g_u (zG rfl rfl rfl tA5 tS5 rfl rfl) <| g_u (yz rfl rfl rfl) <| g_u (zC rfl rfl) <| yB (t := 54) rfl ?_
            rintro (hb7 | hb7)
            · rw [hb7]
              refine zI rfl rfl rfl <| zI rfl rfl rfl <| zI rfl rfl rfl <| zI rfl rfl rfl <| g_u (zZ rfl rfl rfl) <| g_u (zE rfl rfl) <| zH <| zA ?_
              exact ⟨(), trivial, ⟨rfl, rfl, rfl, rfl, rfl, rfl, xF rfl (by (try simp only [yH] at *); simp_all [jV, uG]), trivial⟩⟩
            · rw [hb7]
              refine zY rfl rfl (zF rfl rfl rO rfl) <| zY rfl rfl (zG rfl rfl rfl tA44 tS44 rfl rfl) <| zY rfl rfl (z7 rfl rfl Tryz.underlying44) <| zY rfl rfl (yz rfl rfl rfl) <| g_u (zh rfl rfl rfl) <| g_u (zE rfl rfl) <| zH <| zA ?_
              exact ⟨(), trivial, ⟨rfl, rfl, rfl, rfl, rfl, rfl, xF rfl (by (try simp only [yH] at *); simp_all [jV, uG]), trivial⟩⟩
          · rintro _ _
            refine zD <| zB <| g_u (zC rfl rfl) <| g_u (zC rfl rfl) <| yB (t := 61) rfl ?_
            rintro (hb8 | hb8)
            · rw [hb8]
              refine zY rfl rfl (zC rfl rfl) <| g_u (zZ rfl rfl rfl) <| g_u (zC rfl rfl) <| yB (t := 64) rfl ?_
              rintro (hb9 | hb9)
              · rw [hb9]
                refine zY rfl rfl (zC rfl rfl) <| g_u (zZ rfl rfl rfl) <| g_u (zC rfl rfl) <| yB (t := 67) rfl ?_
                rintro (hb10 | hb10)
                · rw [hb10]
                  refine zY rfl rfl (zC rfl rfl) <| g_u (zZ rfl rfl rfl) <| g_u (zC rfl rfl) <| yB (t := 70) rfl ?_
                  rintro (hb11 | hb11)
                  · rw [hb11]
                    refine zY rfl rfl (zC rfl rfl) <| g_u (zZ rfl rfl rfl) <| g_u (zE rfl rfl) <| zH <| zA <| zL ?_
                    exact ⟨⟨(rfl : toAV (Al.look _ _) = some _).trans (congrArg some (by (exact congrArg bv (by unfold uJ; simp_all)))), rfl⟩, trivial⟩
                  · rw [hb11]
                    refine zI rfl rfl rfl <| g_u (zh rfl rfl rfl) <| g_u (zE rfl rfl) <| zH <| zA <| zL ?_
                    exact ⟨⟨(rfl : toAV (Al.look _ _) = some _).trans (congrArg some (by (exact congrArg bv (by unfold uJ; simp_all)))), rfl⟩, trivial⟩
                · rw [hb10]
                  refine zI rfl rfl rfl <| g_u (zh rfl rfl rfl) <| g_u (zC rfl rfl) <| zI rfl rfl rfl <| g_u (zh rfl rfl rfl) <| g_u (zE rfl rfl) <| zH <| zA <| zL ?_
                  exact ⟨⟨(rfl : toAV (Al.look _ _) = some _).trans (congrArg some (by (exact congrArg bv (by unfold uJ; simp_all)))), rfl⟩, trivial⟩
              · rw [hb9]
                refine zI rfl rfl rfl <| g_u (zh rfl rfl rfl) <| g_u (zC rfl rfl) <| zI rfl rfl rfl <| g_u (zh rfl rfl rfl) <| g_u (zC rfl rfl) <| zI rfl rfl rfl <| g_u (zh rfl rfl rfl) <| g_u (zE rfl rfl) <| zH <| zA <| zL ?_
                exact ⟨⟨(rfl : toAV (Al.look _ _) = some _).trans (congrArg some (by (exact congrArg bv (by unfold uJ; simp_all)))), rfl⟩, trivial⟩
            · rw [hb8]
              refine zI rfl rfl rfl <| g_u (zh rfl rfl rfl) <| g_u (zC rfl rfl) <| zI rfl rfl rfl <| g_u (zh rfl rfl rfl) <| g_u (zC rfl rfl) <| zI rfl rfl rfl <| g_u (zh rfl rfl rfl) <| g_u (zC rfl rfl) <| zI rfl rfl rfl <| g_u (zh rfl rfl rfl) <| g_u (zE rfl rfl) <| zH <| zA <| zL ?_
              exact ⟨⟨(rfl : toAV (Al.look _ _) = some _).trans (congrArg some (by (exact congrArg bv (by unfold uJ; simp_all)))), rfl⟩, trivial⟩
set_option maxHeartbeats 2000000 in
theorem rcheckV_st (v : GV) (d : Int) (hd : 0 ≤ d ∧ d + v.wt ≤ 1000000000) (ih : ∀ y ∈ v.list, ∀ d : Int, 0 ≤ d ∧ d + y.wt ≤ 1000000000 → zn Tryz.prog Γ0 104 [y.av, iv d] [iv (y9 d y)]) (ihm : ∀ d : Int, 0 ≤ d ∧ d + wtAs v.map ≤ 1000000000 → zn Tryz.prog Γ0 73 [.sl 7 (v.map.map avA), iv d] [iv (entC d none v.map)]) : zn Tryz.prog Γ0 104 [v.av, iv d] [iv (y9 d v)] := by
  have ek := v.wt_eq
  have e1 : IntKind.i64.wrap (d + 1) = d + 1 := zO (by omega) (by omega)
  have lv := xh v.list
  have cr := rk v.text
  have ce := check_eq v.text
  refine z_ Tryz.func104 rfl Tryz.ntmps104 (by kernel_rfl) rfl fun w0 I0 G0 => ?_
  refine zD <| zB <| g_uG (zk 1002 rfl rfl rfl rfl) rfl <| g_u (zE rfl rfl) <| zH <| zA <| zD ?_
  refine vk (fun _ : Unit => [(2, .ptr 1002 0), (1002, .box 70 (.imm v.av)), (1, .imm (iv d))]) (fun _ => ¬ 7 < v.kind) ?_ ?_
  · refine zD ?_
    refine zB <| g_u (zF rfl rfl xI rfl) <| g_u (zG rfl rfl rfl tA5 tS5 rfl rfl) <| g_u (wD rfl rfl rfl) <| zH <| zA ?_
    refine zN rfl (fun hb1 => ?_) (fun hb1 => ?_)
    · have q := of_decide_eq_true hb1
      refine zD <| zB <| g_u (zE rfl rfl) <| zH <| zA <| zL <| zK ?_
      exact ⟨⟨(rfl : toAV (Al.look _ _) = some _).trans (congrArg some (by (exact congrArg iv (by first | (rw [z8, if_pos (by omega)]; done) | (rw [z8, if_neg (by omega), if_pos he]; done) | (rw [z8, if_neg (by omega), if_neg (by rw [hc.2]; decide), if_pos (by omega)]; done) | (rw [z8, if_neg (by omega), if_neg (by rw [hc.2.1]; decide), if_neg (by omega), if_pos (by omega)]; done) | (rw [z8, if_neg (by omega), if_neg (by rw [hc.2.1]; decide), if_neg (by omega), if_neg (by omega), if_pos (by omega)]; done) | (rw [h2, E, zj _ _ (by rw [zj _ _ (by omega)]; omega), zj _ _ (by omega)]; done) | (rw [h2, E, zj (y9 (d + 1) _) _ (by omega), zj _ _ (by omega)]; done) | (rw [h2, hin, List.drop_length]; exact (zJ _ _ rfl).symm))))), rfl⟩, trivial⟩
    · have q := of_decide_eq_false hb1
      refine zQ <| zA ?_
      exact ⟨(), by (try dsimp only); omega, ⟨rfl, rfl, rfl, trivial⟩⟩
  · rintro _ hc
    refine zD ?_
    refine vk (fun _ : Unit => [(2, .ptr 1002 0), (1002, .box 70 (.imm v.av)), (1, .imm (iv d))]) (fun _ => ¬ 7 < v.kind ∧ uJ v = true) ?_ ?_
    · refine zD ?_
      refine zB <| g_u (zG rfl rfl rfl tA70 tS70 rfl rfl) <| g_u (zP (rempty_c _) rfl rfl) <| g_u (uA rfl rfl) <| zH <| zA ?_
      refine zN rfl (fun hb2 => ?_) (fun hb2 => ?_)
      · have he : uJ v = false := by have e := hb2; simpa using e
        refine zD <| zB <| g_u (zE rfl rfl) <| zH <| zA <| zL <| zK ?_
        exact ⟨⟨(rfl : toAV (Al.look _ _) = some _).trans (congrArg some (by (exact congrArg iv (by first | (rw [z8, if_pos (by omega)]; done) | (rw [z8, if_neg (by omega), if_pos he]; done) | (rw [z8, if_neg (by omega), if_neg (by rw [hc.2]; decide), if_pos (by omega)]; done) | (rw [z8, if_neg (by omega), if_neg (by rw [hc.2.1]; decide), if_neg (by omega), if_pos (by omega)]; done) | (rw [z8, if_neg (by omega), if_neg (by rw [hc.2.1]; decide), if_neg (by omega), if_neg (by omega), if_pos (by omega)]; done) | (rw [h2, E, zj _ _ (by rw [zj _ _ (by omega)]; omega), zj _ _ (by omega)]; done) | (rw [h2, E, zj (y9 (d + 1) _) _ (by omega), zj _ _ (by omega)]; done) | (rw [h2, hin, List.drop_length]; exact (zJ _ _ rfl).symm))))), rfl⟩, trivial⟩
      · have he : uJ v = true := by have e := hb2; simpa using e
        refine zQ <| zA ?_
        exact ⟨(), by (try dsimp only); exact ⟨hc, he⟩, ⟨rfl, rfl, rfl, trivial⟩⟩
    · rintro _ hc
      refine zD ?_
      refine vk (fun _ : Unit => [(2, .ptr 1002 0), (1002, .box 70 (.imm v.av)), (1, .imm (iv d))]) (fun _ => ¬ 7 < v.kind ∧ uJ v = true ∧ ¬ (6 ≤ v.kind ∧ 16 ≤ d)) ?_ ?_
      · refine zD ?_
        refine zB <| g_u (zF rfl rfl xI rfl) <| g_u (zG rfl rfl rfl tA5 tS5 rfl rfl) <| g_u (tD rfl rfl rfl) <| g_u (zC rfl rfl) <| yB (t := 16) rfl ?_
        rintro (hb3 | hb3)
        · rw [hb3]
          have q := of_decide_eq_true hb3
          refine zY rfl rfl (zC rfl rfl) <| zY rfl rfl (tD rfl rfl rfl) <| g_u (zZ rfl rfl rfl) <| zH <| zA ?_
          refine zN rfl (fun hb4 => ?_) (fun hb4 => ?_)
          · have q := of_decide_eq_true hb4
            refine zD <| zB <| g_u (zE rfl rfl) <| zH <| zA <| zL <| zK ?_
            exact ⟨⟨(rfl : toAV (Al.look _ _) = some _).trans (congrArg some (by (exact congrArg iv (by first | (rw [z8, if_pos (by omega)]; done) | (rw [z8, if_neg (by omega), if_pos he]; done) | (rw [z8, if_neg (by omega), if_neg (by rw [hc.2]; decide), if_pos (by omega)]; done) | (rw [z8, if_neg (by omega), if_neg (by rw [hc.2.1]; decide), if_neg (by omega), if_pos (by omega)]; done) | (rw [z8, if_neg (by omega), if_neg (by rw [hc.2.1]; decide), if_neg (by omega), if_neg (by omega), if_pos (by omega)]; done) | (rw [h2, E, zj _ _ (by rw [zj _ _ (by omega)]; omega), zj _ _ (by omega)]; done) | (rw [h2, E, zj (y9 (d + 1) _) _ (by omega), zj _ _ (by omega)]; done) | (rw [h2, hin, List.drop_length]; exact (zJ _ _ rfl).symm))))), rfl⟩, trivial⟩
          · have q := of_decide_eq_false hb4
            refine zQ <| zA ?_
            exact ⟨(), by (try dsimp only); exact ⟨hc.1, hc.2, by omega⟩, ⟨rfl, rfl, rfl, trivial⟩⟩
        · rw [hb3]
          have q := of_decide_eq_false hb3
          refine zI rfl rfl rfl <| zI rfl rfl rfl <| g_u (zh rfl rfl rfl) <| zH <| zA <| yD rfl <| zQ <| zA ?_
          exact ⟨(), by (try dsimp only); exact ⟨hc.1, hc.2, by omega⟩, ⟨rfl, rfl, rfl, trivial⟩⟩
      · rintro _ hc
        refine zD ?_
        refine vk (fun _ : Unit => [(2, .ptr 1002 0), (1002, .box 70 (.imm v.av)), (1, .imm (iv d))]) (fun _ => ¬ 7 < v.kind ∧ uJ v = true ∧ ¬ (6 ≤ v.kind ∧ 16 ≤ d) ∧ ¬ (v.kind = 1 ∧ wv v.text ≠ -1)) ?_ ?_
        · refine zD ?_
          refine zB <| g_u (zF rfl rfl xI rfl) <| g_u (zG rfl rfl rfl tA5 tS5 rfl rfl) <| g_u (yz rfl rfl rfl) <| g_u (zC rfl rfl) <| yB (t := 23) rfl ?_
          rintro (hb5 | hb5)
          · rw [hb5]
            have q := beq_iff_eq.1 hb5
            refine zY rfl rfl (zF rfl rfl sc rfl) <| zY rfl rfl (zG rfl rfl rfl tA9 tS9 rfl rfl) ?_
            refine zY rfl rfl (zP (rcheck_c _ (by omega)) rfl rfl) ?_
            refine zY rfl rfl (xl rfl rfl rfl) <| g_u (zZ rfl rfl rfl) <| zH <| zA ?_
            refine zN rfl (fun hb6 => ?_) (fun hb6 => ?_)
            · have q := bne_iff_ne.1 hb6
              refine zD <| zB <| g_u (zE rfl rfl) <| zH <| zA <| zL <| zK ?_
              exact ⟨⟨(rfl : toAV (Al.look _ _) = some _).trans (congrArg some (by (exact congrArg iv (by first | (rw [z8, if_pos (by omega)]; done) | (rw [z8, if_neg (by omega), if_pos he]; done) | (rw [z8, if_neg (by omega), if_neg (by rw [hc.2]; decide), if_pos (by omega)]; done) | (rw [z8, if_neg (by omega), if_neg (by rw [hc.2.1]; decide), if_neg (by omega), if_pos (by omega)]; done) | (rw [z8, if_neg (by omega), if_neg (by rw [hc.2.1]; decide), if_neg (by omega), if_neg (by omega), if_pos (by omega)]; done) | (rw [h2, E, zj _ _ (by rw [zj _ _ (by omega)]; omega), zj _ _ (by omega)]; done) | (rw [h2, E, zj (y9 (d + 1) _) _ (by omega), zj _ _ (by omega)]; done) | (rw [h2, hin, List.drop_length]; exact (zJ _ _ rfl).symm))))), rfl⟩, trivial⟩
            · have q := qd.1 hb6
              refine zQ <| zA ?_
              exact ⟨(), by (try dsimp only); exact ⟨hc.1, hc.2.1, hc.2.2, by omega⟩, ⟨rfl, rfl, rfl, trivial⟩⟩
          · rw [hb5]
            have q := beq_eq_false_iff_ne.1 hb5
            refine zI rfl rfl rfl <| zI rfl rfl rfl <| zI rfl rfl rfl <| zI rfl rfl rfl <| g_u (zh rfl rfl rfl) <| zH <| zA <| yD rfl <| zQ <| zA ?_
            exact ⟨(), by (try dsimp only); exact ⟨hc.1, hc.2.1, hc.2.2, by omega⟩, ⟨rfl, rfl, rfl, trivial⟩⟩
        · rintro _ hc
          refine zD ?_
          refine vk (fun _ : Unit => [(2, .ptr 1002 0), (1002, .box 70 (.imm v.av)), (1, .imm (iv d))]) (fun _ => y9 d v = orC (vo (d + 1) v.list) (entC (d + 1) none v.map)) ?_ ?_
          · refine zD ?_
            refine zB <| g_u (zF rfl rfl xI rfl) <| g_u (zG rfl rfl rfl tA5 tS5 rfl rfl) <| g_u (yz rfl rfl rfl) <| g_u (zC rfl rfl) <| yB (t := 32) rfl ?_
            rintro (hb7 | hb7)
            · rw [hb7]
              have q := beq_iff_eq.1 hb7
              refine zY rfl rfl (zF rfl rfl rP rfl) <| zY rfl rfl (zG rfl rfl rfl tA3 tS3 rfl rfl) <| zY rfl rfl (ye rfl rfl rfl) <| zY rfl rfl (zC rfl rfl) <| yB (t := 36) rfl ?_
              rintro (hb8 | hb8)
              · rw [hb8]
                have q := of_decide_eq_true hb8
                refine zI rfl rfl rfl <| zI rfl rfl rfl <| zI rfl rfl rfl <| zY rfl rfl (zZ rfl rfl rfl) <| g_u (zZ rfl rfl rfl) <| zH <| zA <| zs rfl <| zD <| zB <| g_u (zE rfl rfl) <| zH <| zA <| zL <| zK ?_
                exact ⟨⟨(rfl : toAV (Al.look _ _) = some _).trans (congrArg some (by (exact congrArg iv (by first | (rw [z8, if_pos (by omega)]; done) | (rw [z8, if_neg (by omega), if_pos he]; done) | (rw [z8, if_neg (by omega), if_neg (by rw [hc.2]; decide), if_pos (by omega)]; done) | (rw [z8, if_neg (by omega), if_neg (by rw [hc.2.1]; decide), if_neg (by omega), if_pos (by omega)]; done) | (rw [z8, if_neg (by omega), if_neg (by rw [hc.2.1]; decide), if_neg (by omega), if_neg (by omega), if_pos (by omega)]; done) | (rw [h2, E, zj _ _ (by rw [zj _ _ (by omega)]; omega), zj _ _ (by omega)]; done) | (rw [h2, E, zj (y9 (d + 1) _) _ (by omega), zj _ _ (by omega)]; done) | (rw [h2, hin, List.drop_length]; exact (zJ _ _ rfl).symm))))), rfl⟩, trivial⟩
              · rw [hb8]
                have q := of_decide_eq_false hb8
                refine zY rfl rfl (zF rfl rfl rP rfl) <| zY rfl rfl (zG rfl rfl rfl tA3 tS3 rfl rfl) <| zY rfl rfl (wD rfl rfl rfl) <| zY rfl rfl (zh rfl rfl rfl) <| g_u (zZ rfl rfl rfl) <| zH <| zA ?_
                refine zN rfl (fun hb9 => ?_) (fun hb9 => ?_)
                · have q := of_decide_eq_true hb9
                  refine zD <| zB <| g_u (zE rfl rfl) <| zH <| zA <| zL <| zK ?_
                  exact ⟨⟨(rfl : toAV (Al.look _ _) = some _).trans (congrArg some (by (exact congrArg iv (by first | (rw [z8, if_pos (by omega)]; done) | (rw [z8, if_neg (by omega), if_pos he]; done) | (rw [z8, if_neg (by omega), if_neg (by rw [hc.2]; decide), if_pos (by omega)]; done) | (rw [z8, if_neg (by omega), if_neg (by rw [hc.2.1]; decide), if_neg (by omega), if_pos (by omega)]; done) | (rw [z8, if_neg (by omega), if_neg (by rw [hc.2.1]; decide), if_neg (by omega), if_neg (by omega), if_pos (by omega)]; done) | (rw [h2, E, zj _ _ (by rw [zj _ _ (by omega)]; omega), zj _ _ (by omega)]; done) | (rw [h2, E, zj (y9 (d + 1) _) _ (by omega), zj _ _ (by omega)]; done) | (rw [h2, hin, List.drop_length]; exact (zJ _ _ rfl).symm))))), rfl⟩, trivial⟩
                · have q := of_decide_eq_false hb9
                  refine zQ <| zA ?_
                  exact ⟨(), by (try dsimp only); (rw [z8, if_neg hc.1, if_neg (by rw [hc.2.1]; decide), if_neg hc.2.2.1, if_neg hc.2.2.2, if_neg (by omega)]), ⟨rfl, rfl, rfl, trivial⟩⟩
            · rw [hb7]
              have q := beq_eq_false_iff_ne.1 hb7
              refine zI rfl rfl rfl <| zI rfl rfl rfl <| zI rfl rfl rfl <| zI rfl rfl rfl <| rq rfl rfl rfl <| rq rfl rfl rfl <| rq rfl rfl rfl <| zI rfl rfl rfl <| g_u (zh rfl rfl rfl) <| zH <| zA <| yD rfl <| zQ <| zA ?_
              exact ⟨(), by (try dsimp only); (rw [z8, if_neg hc.1, if_neg (by rw [hc.2.1]; decide), if_neg hc.2.2.1, if_neg hc.2.2.2, if_neg (by omega)]), ⟨rfl, rfl, rfl, trivial⟩⟩
          · rintro _ hc
            refine zD <| zD <| zB <| g_u (zE rfl rfl) <| zH <| zA <| zU ?_
            refine zw (fun i : Nat => [(2, .ptr 1002 0), (1002, .box 70 (.imm v.av)), (1, .imm (iv d)), (5, .imm (iv (i : Int)))]) (fun i => i ≤ v.list.length ∧ y9 d v = orC (vo (d + 1) (v.list.drop i)) (entC (d + 1) none v.map)) (fun i => v.list.length - i) (0) ?_ ⟨rfl, rfl, rfl, rfl, trivial⟩ ?_
            · exact ⟨Nat.zero_le _, hc⟩
            · rintro i ⟨h1, h2⟩; (try dsimp only at h1 h2)
              refine zD <| zD <| zB <| g_u (zC rfl rfl) <| g_u (zF rfl rfl rR rfl) <| g_u (zG rfl rfl rfl tA68 tS68 rfl rfl) <| g_u (z7 rfl rfl Tryz.underlying68) <| g_u (ye rfl rfl rfl) <| zH <| zA ?_
              refine zN rfl (fun hb10 => ?_) (fun hb10 => ?_)
              · have hi : i < v.list.length := by have := of_decide_eq_true hb10; (try simp only [List.length_map] at this); omega
                have hw1 := s9 (uy hi)
                have E := checkVs_drop (d + 1) hi
                refine zQ <| zA <| zD <| zU <| zD <| zB <| g_u (zF rfl rfl rR rfl) <| g_u (zG rfl rfl rfl tA68 tS68 rfl rfl) <| g_u (zC rfl rfl) ?_
                refine g_u (zR rfl rfl rfl Tryz.underlying68 tS70 (by omega) (ixV hi)) ?_
                refine g_u (zd rfl rfl tA70 tS70 rfl rfl) <| g_u (zC rfl rfl) <| g_u (z0 rfl rfl rfl) ?_
                refine g_u (zP ((show zn Tryz.prog Γ0 104 [(nthV v.list i).av, iv (IntKind.i64.wrap (d + 1))] [iv (y9 (d + 1) (nthV v.list i))] from by rw [e1]; exact ih _ (uy hi) _ ⟨by omega, by omega⟩)) rfl rfl) ?_
                refine g_u (zE rfl rfl) <| zH <| zA <| zD <| zB <| g_u (zC rfl rfl) <| g_u (xl rfl rfl rfl) <| zH <| zA ?_
                refine zN rfl (fun hb11 => ?_) (fun hb11 => ?_)
                · have q := bne_iff_ne.1 hb11
                  refine zD <| zB <| g_u (zC rfl rfl) <| g_u (zE rfl rfl) <| zH <| zA <| zL <| zt <| zK <| zK <| zt <| zK ?_
                  exact ⟨⟨(rfl : toAV (Al.look _ _) = some _).trans (congrArg some (by (exact congrArg iv (by first | (rw [z8, if_pos (by omega)]; done) | (rw [z8, if_neg (by omega), if_pos he]; done) | (rw [z8, if_neg (by omega), if_neg (by rw [hc.2]; decide), if_pos (by omega)]; done) | (rw [z8, if_neg (by omega), if_neg (by rw [hc.2.1]; decide), if_neg (by omega), if_pos (by omega)]; done) | (rw [z8, if_neg (by omega), if_neg (by rw [hc.2.1]; decide), if_neg (by omega), if_neg (by omega), if_pos (by omega)]; done) | (rw [h2, E, zj _ _ (by rw [zj _ _ (by omega)]; omega), zj _ _ (by omega)]; done) | (rw [h2, E, zj (y9 (d + 1) _) _ (by omega), zj _ _ (by omega)]; done) | (rw [h2, hin, List.drop_length]; exact (zJ _ _ rfl).symm))))), rfl⟩, trivial⟩
                · have q := qd.1 hb11
                  refine zQ <| zW <| zA <| zB <| g_u (zC rfl rfl) <| g_u (z0 rfl rfl rfl) <| g_u (zE rfl rfl) <| zH <| zA ?_
                  refine ⟨i + 1, ⟨hi, by (try dsimp only); rw [h2, E, zJ (y9 (d + 1) _) _ (by omega)]⟩, ⟨rfl, rfl, rfl, zX rfl (by rw [zO (by omega) (by omega)]; rfl), trivial⟩, by (try dsimp only); omega⟩
              · have hin : i = v.list.length := by have := of_decide_eq_false hb10; (try simp only [List.length_map] at this); omega
                refine zz <| zT <| zT <| zq <| zA <| zD <| zB <| g_u (zF rfl rfl rO rfl) <| g_u (zG rfl rfl rfl tA44 tS44 rfl rfl) <| g_u (zC rfl rfl) <| g_u (z0 rfl rfl rfl) ?_
                refine g_u (zP ((show zn Tryz.prog Γ0 73 [.sl 7 (v.map.map avA), iv (IntKind.i64.wrap (d + 1))] [iv (entC (d + 1) none v.map)] from by rw [e1]; exact ihm _ ⟨by omega, by omega⟩)) rfl rfl) ?_
                refine g_u (zE rfl rfl) <| zH <| zA <| zL ?_
                exact ⟨⟨(rfl : toAV (Al.look _ _) = some _).trans (congrArg some (by (exact congrArg iv (by first | (rw [z8, if_pos (by omega)]; done) | (rw [z8, if_neg (by omega), if_pos he]; done) | (rw [z8, if_neg (by omega), if_neg (by rw [hc.2]; decide), if_pos (by omega)]; done) | (rw [z8, if_neg (by omega), if_neg (by rw [hc.2.1]; decide), if_neg (by omega), if_pos (by omega)]; done) | (rw [z8, if_neg (by omega), if_neg (by rw [hc.2.1]; decide), if_neg (by omega), if_neg (by omega), if_pos (by omega)]; done) | (rw [h2, E, zj _ _ (by rw [zj _ _ (by omega)]; omega), zj _ _ (by omega)]; done) | (rw [h2, E, zj (y9 (d + 1) _) _ (by omega), zj _ _ (by omega)]; done) | (rw [h2, hin, List.drop_length]; exact (zJ _ _ rfl).symm))))), rfl⟩, trivial⟩
theorem rcheckV_c (v : GV) : ∀ d : Int, 0 ≤ d ∧ d + v.wt ≤ 1000000000 → zn Tryz.prog Γ0 104 [v.av, iv d] [iv (y9 d v)] := by
  refine GV.ind (P := fun v => ∀ d : Int, 0 ≤ d ∧ d + v.wt ≤ 1000000000 → zn Tryz.prog Γ0 104 [v.av, iv d] [iv (y9 d v)]) ?_ v
  intro v h1 h2 d hd
  exact rcheckV_st v d hd h1 fun d hd => rentC_st v.map d hd h2
theorem rentC_c (l : List GA) (d : Int) (hd : 0 ≤ d ∧ d + wtAs l ≤ 1000000000) : zn Tryz.prog Γ0 73 [.sl 7 (l.map avA), iv d] [iv (entC d none l)] := rentC_st l d hd fun a _ => rcheckV_c a.val
end Go.Proofs
namespace Go.Al
open Go.RowKit
section
variable {C : Cx} {A : Nat → SV} {d : Nat} {ty : TypeId} {pos : String} {af : Array Edge} {gd : Option (Nat × Bool)} {x y : Operand} {T T' : TypeId}
theorem s_ixOsl {g n len cap : Nat} {el : TypeId} {i : Nat} {z : Int} {k : IntKind} (hN : Nat.blt d C.N = true) (hx : opS A x = .osl g 0 len cap) (hy : opV A y = some (.v (.int k z))) (hT : C.P.underlying T = some (.slice el)) (hn : yJ C.P el = some n)
    (hz : z = i) (h : i < len) : zv C ⟨some d, .indexAddr T x y, ty, pos, af, gd⟩ (opR x ++ opR y) [] A [(d, .ptr g (i * n))] := by
  refine zv.value rfl hN fun A' G a w hR S => ?_
  obtain ⟨c, hc1, hc2⟩ := S.opS ((yd (fun k hk => hR k (List.mem_append_left _ hk))).trans hx) rfl
  simp only [RepS] at hc1
  have hev : a.eval x = .slice (some ⟨G.blk g, 0, none⟩) len cap := by rw [hc2, hc1]; rfl
  rw [← yU (fun k hk => hR k (List.mem_append_right _ hk))] at hy
  have hi := yV (S.opV hy)
  subst hz
  refine ⟨.pointer (some ⟨G.blk g, i * n, none⟩), ?_, [.pointer (some ⟨G.blk g, i * n, none⟩)], by simp only [RepS], rfl⟩
  have hb : (0 : Int) ≤ (i : Int) ∧ (i : Int) < (len : Int) := by omega
  simp only [execOp, Instr.indexAt, hi, hev, asIntOf, Instr.sureAddr, Sem.run_bind, Sem.run_pure, Result.andThen_ok, za hT, hb, and_self, if_true, yI hn, xX, Int.toNat_natCast, Nat.zero_add]
theorem s_slOsl {g n len cap : Nat} {el : TypeId} {lo : Nat} {z : Int} {k : IntKind} (hN : Nat.blt d C.N = true) (hx : opS A x = .osl g 0 len cap) (hy : opV A y = some (.v (.int k z))) (hT : C.P.underlying T = some (.slice el)) (hn : yJ C.P el = some n)
    (hz : z = lo) (h : lo ≤ len) : zv C ⟨some d, .slice T x (some y) none none, ty, pos, af, gd⟩ (opR x ++ opR y) [] A [(d, .osl g (if cap = lo then 0 else lo * n) (len - lo) (cap - lo))] := by
  refine zv.value rfl hN fun A' G a w hR S => ?_
  obtain ⟨c, hc1, hc2⟩ := S.opS ((yd (fun k hk => hR k (List.mem_append_left _ hk))).trans hx) rfl
  simp only [RepS] at hc1
  have hev : a.eval x = .slice (some ⟨G.blk g, 0, none⟩) len cap := by rw [hc2, hc1]; rfl
  rw [← yU (fun k hk => hR k (List.mem_append_right _ hk))] at hy
  have hi := yV (S.opV hy)
  refine ⟨.slice (some ⟨G.blk g, if cap = lo then 0 else lo * n, none⟩) (len - lo) (cap - lo), ?_, [.slice (some ⟨G.blk g, if cap = lo then 0 else lo * n, none⟩) (len - lo) (cap - lo)], by simp only [RepS], rfl⟩
  have e3 : (Instr.sliceBounds true len cap (some (a.eval y)) none none).run C.P w = .ok (lo, len, cap) w := by
    simp only [Instr.sliceBounds, Sem.run_bind, Sem.run_pure, Result.andThen_ok, Option.isSome_none, Bool.false_eq_true, if_false, if_true, hi, vX hz h]
  simp only [execOp, Option.map_none, Option.map_some, Sem.run_bind, hev, Instr.sliceAt, za hT, Result.andThen_ok, Instr.slice, e3, yI hn, Sem.run_pure]
  by_cases hc : cap = lo
  · rw [if_pos hc, if_pos hc]
  · rw [if_neg hc, if_neg hc]; first | rfl | rw [xX, Nat.zero_add]
theorem s_storeElt {g n i : Nat} {xs : List AV} {v : AV} {T0 : TypeId} (h : opS A x = .ptr g (i * n)) (hg : A g = .box T0 (.imm (.agg xs))) (hy : opV A y = some v) (hn : yJ C.P T = some n)
    (hw : ∀ x ∈ xs, x.width = n) (hv : v.width = n) (hi : i < xs.length) :
    zv C ⟨none, .store T x y, ty, pos, af, gd⟩ (g :: (opR x ++ opR y)) [] A [(g, .box T0 (.imm (.agg (xs.take i ++ v :: xs.drop (i + 1)))))] := by
  intro A' a w hR hF ⟨G, S⟩
  have hgA : A' g = .box T0 (.imm (.agg xs)) := (hR g List.mem_cons_self).trans hg
  obtain ⟨c, hc1, hc2⟩ := S.opS ((yd (fun k hk => hR k (List.mem_cons_of_mem _ (List.mem_append_left _ hk)))).trans h) rfl
  simp only [RepS] at hc1
  have hev : a.eval x = .pointer (some ⟨G.blk g, i * n, none⟩) := by rw [hc2, hc1]; rfl
  rw [← yU (fun k hk => hR k (List.mem_cons_of_mem _ (List.mem_append_right _ hk)))] at hy
  have hyR := S.opV hy
  obtain ⟨vc, hv1, hv2⟩ := hyR
  have hvc : (a.eval y).cells.toList = vc := by rw [hv2]; exact tP hv1
  have hvl := hv1.len
  have hb := S.holds g
  rw [hgA] at hb
  simp only [Holds] at hb
  obtain ⟨_, ⟨cs, fr, hb2, hb3, hb4⟩, _⟩ := hb
  simp only [RepS, RepC] at hb3
  have hE := (tA hw).1 hb3
  have hcl := hE.len
  simp only [Array.length_toList] at hcl
  have hfit : i * n + vc.length ≤ cs.size := by
    have := xz (n := n) (show i + 1 ≤ xs.length from hi)
    rw [Nat.add_mul] at this; omega
  have hst := wY (P := C.P) (b := G.blk g) (o := i * n) vc w cs hb2 hb4 hfit hv1.plain
  have hnew : RepS w G (.imm (.agg (xs.take i ++ v :: xs.drop (i + 1)))) (y3 cs (i * n) vc).toList := by
    simp only [RepS, RepC]
    refine (tA (n := n) ?_).2 ?_
    · intro z hz
      rcases List.mem_append.1 hz with hz | hz
      · exact hw z (List.mem_of_mem_take hz)
      · rcases List.mem_cons.1 hz with rfl | hz
        · exact hv
        · exact hw z (List.mem_of_mem_drop hz)
    · rw [xQ _ _ _ hfit, List.append_assoc]
      refine (hE.split i (by omega)).1.append ?_
      have h2 := (hE.split (i + 1) (by omega)).2
      have ev : vc.length = n := by rw [hvl, hv]
      rw [Nat.add_mul, Nat.one_mul] at h2
      simp only [RepE]
      exact ⟨vc, _, rfl, ev, hv1, by rw [ev]; exact h2⟩
  unfold Oper.wp
  have hrun : (storeVar T ⟨G.blk g, i * n, none⟩ (a.eval y)).run C.P w = .ok () (yR w (G.blk g) (.cells (y3 cs (i * n) vc) T0 fr)) := by
    simp only [storeVar, Sem.run_bind, yI hn, Result.andThen_ok, hvc]
    have e : (a.eval y).cells.size = n := by rw [← Array.length_toList, hvc, hvl, hv]
    rw [if_neg (by omega)]
    exact hst
  simp only [execOp, Instr.storeAt, Instr.sureAddr, hev, Sem.run_bind, Sem.run_pure, Result.andThen_ok, hrun]
  rw [Oper.upon_skip]
  exact S.storeBox hgA hb2 (wQ _ _ _) hnew
theorem s_copy_at {g off len cap n o : Nat} {xs m : List AV} {el : TypeId} {T0 : TypeId} (hd' : ∀ d', d = d' → True) (hgN : Nat.ble C.N g = true) (hx : opS A x = .osl g off len cap) (hg : A g = .box T0 (.imm (.agg xs))) (hy : opV A y = some (.sl n m)) (hT : C.P.underlying T = some (.slice el)) (hn : yJ C.P el = some n)
    (hN : Nat.blt d C.N = true) (ho : off = o * n) (hw : ∀ x ∈ xs, x.width = n) (hlen : o + len ≤ xs.length) :
    zv C ⟨some d, .call { callee := .builtin .copy, args := #[x, y], argTypes := #[T, T'] }, ty, pos, af, gd⟩ (g :: (opR x ++ opR y)) [] A
      [(g, .box T0 (.imm (.agg (xs.take o ++ (m.take (min m.length len) ++ xs.drop (o + min m.length len)))))), (d, .imm (.v (.int .i64 (min m.length len : Nat))))] := by
  intro A' a w hR hF ⟨G, S⟩
  have hgA : A' g = .box T0 (.imm (.agg xs)) := (hR g List.mem_cons_self).trans hg
  have hN' : d < C.N := by simpa [Nat.blt_eq] using hN
  have hgd : g ≠ d := by have := Nat.le_of_ble_eq_true hgN; omega
  obtain ⟨c, hc1, hc2⟩ := S.opS ((yd (fun k hk => hR k (List.mem_cons_of_mem _ (List.mem_append_left _ hk)))).trans hx) rfl
  simp only [RepS] at hc1
  have hev : a.eval x = .slice (some ⟨G.blk g, off, none⟩) len cap := by rw [hc2, hc1]; rfl
  rw [← yU (fun k hk => hR k (List.mem_cons_of_mem _ (List.mem_append_right _ hk)))] at hy
  have hyR := S.opV hy
  have hb := S.holds g
  rw [hgA] at hb
  simp only [Holds] at hb
  obtain ⟨how, ⟨cs, fr, hb2, hb3, hb4⟩, hni⟩ := hb
  simp only [RepS, RepC] at hb3
  have hE := (tA hw).1 hb3
  obtain ⟨k, hk⟩ : ∃ k, k = min m.length len := ⟨_, rfl⟩
  rw [← hk]
  have hkm : k ≤ m.length := by omega
  have hkx : o + k ≤ xs.length := by omega
  obtain ⟨es, e1, e2, e3⟩ : ∃ es, RepE w G.I n (m.take k) es ∧ (Builtin.lenOf (a.eval y)).run C.P w = .ok m.length w ∧ (Builtin.firstCells n k (a.eval y)).run C.P w = .ok es.toArray w := by
    rcases rep_sl hyR with ⟨p, cap', h1, rfl, _, _⟩ | ⟨b, o, cap', h1, h2, h3, h4⟩
    · have hk0 : k = 0 := by rw [hk]; simp
      refine ⟨[], ?_, by rw [h1]; rfl, by rw [h1, hk0]; cases p <;> first | rfl | (simp only [Builtin.firstCells, Nat.zero_mul, Nat.mul_zero, loadCells, loadCellsFrom]; rfl)⟩
      simp [RepE]
    · obtain ⟨ds, q1, q2⟩ := h4.cells
      obtain ⟨q3, _⟩ := q1.split k hkm
      refine ⟨ds.take (k * n), q3, by rw [h1]; rfl, ?_⟩
      rw [h1]
      simp only [Builtin.firstCells]
      have hdl := q1.len
      have : (ds.take (k * n)).length = k * n := by
        have := xz (n := n) hkm
        rw [List.length_take]; omega
      have hld := xv (P := C.P) (w := w) (b := b) (o := o) (ds.take (k * n)) (fun j hj => by
        rw [this] at hj
        have := (q2 j (by have := xz (n := n) hkm; omega)).1
        simp only [List.getElem_take]
        exact this)
      rw [this] at hld
      exact hld
  have hel := e1.len
  rw [List.length_take, Nat.min_eq_left hkm] at hel
  have hcl := hE.len
  simp only [Array.length_toList] at hcl
  have hfit : off + es.length ≤ cs.size := by rw [hel, hcl, ho, ← Nat.add_mul]; exact xz hkx
  have hst := wY (P := C.P) (b := G.blk g) (o := off) es w cs hb2 hb4 (by omega) e1.plain
  have q5 := (hE.split o (by omega)).1
  have q4 := (hE.split (o + k) hkx).2
  have hnew : RepS w G (.imm (.agg (xs.take o ++ (m.take k ++ xs.drop (o + k))))) (y3 cs off es).toList := by
    simp only [RepS, RepC]
    refine (tA (n := n) ?_).2 ?_
    · intro z hz
      rcases List.mem_append.1 hz with hz | hz
      · exact hw z (List.mem_of_mem_take hz)
      rcases List.mem_append.1 hz with hz | hz
      · have : ∀ (l : List AV) (c : List Value), RepE w G.I n l c → ∀ z ∈ l, z.width = n := by
          intro l
          induction l with
          | nil => intro c _ z hz; cases hz
          | cons p l ih =>
            intro c h z hz
            simp only [RepE] at h
            obtain ⟨c1, c2, _, h1, h2, h3⟩ := h
            rcases List.mem_cons.1 hz with rfl | hz
            · rw [← RepC.len _ _ h2]; exact h1
            · exact ih c2 h3 z hz
        exact this _ _ e1 z hz
      · exact hw z (List.mem_of_mem_drop hz)
    · rw [xQ _ _ _ hfit, List.append_assoc, hel, ho, ← Nat.add_mul]
      exact q5.append (e1.append q4)
  have S1 := S.storeBox hgA hb2 (wQ _ _ _) hnew
  obtain ⟨G1, S1⟩ := S1
  have S2 := S1.put hN' (x := .imm (.v (.int .i64 (k : Nat)))) (v := .int .i64 k) (yg.2 (xm _ _ rfl))
  have eu : upd (upd A' [(g, .box T0 (.imm (.agg (xs.take o ++ (m.take k ++ xs.drop (o + k))))))]) [(d, .imm (.v (.int .i64 (k : Nat))))] = upd A' [(g, .box T0 (.imm (.agg (xs.take o ++ (m.take k ++ xs.drop (o + k)))))), (d, .imm (.v (.int .i64 (k : Nat))))] := by
    funext j
    simp only [upd]
    by_cases hkd : d = j
    · subst hkd; rw [zM hgd]; simp
    · rw [zM hkd]; simp
  rw [eu] at S2
  unfold Oper.wp
  have hrun : (execOp a.eval ⟨some d, .call { callee := .builtin .copy, args := #[x, y], argTypes := #[T, T'] }, ty, pos, af, gd⟩).run C.P w = .ok (.value (.int .i64 k)) (yR w (G.blk g) (.cells (y3 cs off es) T0 fr)) := by
    simp only [execOp, resolve, Sem.run_bind, Sem.run_pure, Result.andThen_ok, invoke, builtin]
    have e0 : (#[x, y].map a.eval) = #[a.eval x, a.eval y] := by simp
    have f1 : (#[T, T'] : Array TypeId)[0]? = some T := rfl
    have f3 : (#[a.eval x, a.eval y] : Array Value)[0]? = some (a.eval x) := rfl
    have f4 : (#[a.eval x, a.eval y] : Array Value)[1]? = some (a.eval y) := rfl
    rw [e0]
    simp only [Builtin.copy_, f1, f3, f4]
    simp only [hev, Sem.run_bind, za hT, Result.andThen_ok, e2, yI hn]
    have : Nat.min m.length len = k := hk.symm
    simp only [this, e3, Result.andThen_ok, hst, Sem.run_pure, goInt]
  rw [hrun, Oper.upon_value]
  exact ⟨G1, S2⟩
end
theorem look_bagg {st : St} {k : Nat} {T : TypeId} {l m : List AV} (h : look st k = .box T (.imm (.agg l))) (e : l = m) : look st k = .box T (.imm (.agg m)) := by rw [h, e]
theorem row1 {m : List AV} {z : AV} {p r N : Nat} (hm : m.length = p) (hN : N = p + 1 + r) : m.take (min m.length N) ++ (List.replicate N z).drop (min m.length N) = m ++ List.replicate (1 + r) z := by
  rw [Nat.min_eq_left (by omega), List.take_length, List.drop_replicate, show N - m.length = 1 + r by omega]
theorem row2 {m : List AV} {z e : AV} {p r : Nat} (hm : m.length = p) : (m ++ List.replicate (1 + r) z).take p ++ e :: (m ++ List.replicate (1 + r) z).drop (p + 1) = m ++ e :: List.replicate r z := by
  rw [List.take_append_of_le_length (by omega), List.take_of_length_le (by omega), List.drop_append, List.drop_of_length_le (by omega), List.nil_append, List.drop_replicate, show 1 + r - (p + 1 - m.length) = r by omega]
theorem row3 {m R : List AV} {z e : AV} {p r N : Nat} (hm : m.length = p) (hR : R.length = r) (hN : N = p + 1 + r) :
    (m ++ e :: List.replicate r z).take (if N = p + 1 then 0 else p + 1) ++ (R.take (min R.length (N - (p + 1))) ++ (m ++ e :: List.replicate r z).drop ((if N = p + 1 then 0 else p + 1) + min R.length (N - (p + 1)))) = m ++ e :: R := by
  by_cases h : N = p + 1
  · have hr : r = 0 := by omega
    subst hr
    obtain rfl := List.eq_nil_of_length_eq_zero hR
    rw [if_pos h]; simp
  · rw [if_neg h, show N - (p + 1) = r by omega, hR, Nat.min_self, ← hR, List.take_length]
    have e1 : (m ++ e :: List.replicate R.length z).take (p + 1) = m ++ [e] := by
      rw [List.take_append, List.take_of_length_le (by omega), show p + 1 - m.length = 1 by omega]; rfl
    have e2 : (m ++ e :: List.replicate R.length z).drop (p + 1 + R.length) = [] := List.drop_of_length_le (by simp; omega)
    rw [e1, e2, List.append_nil, List.append_assoc]; rfl
theorem widths_mem {n : Nat} {l : List AV} (h : ∀ x ∈ l, x.width = n) {z : AV} (hz : z.width = n) (r : Nat) : ∀ x ∈ l ++ List.replicate r z, x.width = n := fun x hx => (List.mem_append.1 hx).elim (h x) fun hx => by rw [List.eq_of_mem_replicate hx]; exact hz
end Go.Al
namespace Go.Proofs
open Go Go.Al
def tL {α : Type} (p : α → Bool) : List α → Nat → Int
  | [], _ => -1
  | x :: xs, n => if p x then n else tL p xs (n + 1)
theorem firstI_any {α : Type} (p : α → Bool) : ∀ (l : List α) (n : Nat), decide (tL p l n ≥ 0) = l.any p
  | [], n => by simp [tL]
  | x :: xs, n => by
    rw [tL, List.any_cons]
    cases h : p x
    · rw [if_neg (by simp), firstI_any p xs (n + 1)]; rfl
    · simp
theorem vl {α : Type} {p : α → Bool} {l : List α} {i : Nat} {d : α} (h : i < l.length) : tL p (l.drop i) i = if p (nth l i d) then (i : Int) else tL p (l.drop (i + 1)) (i + 1) := by
  rw [xW (d := d) h, tL]
theorem str_nth {l : List ByteArray} {i : Nat} (h : i < l.length) : (l.map fun x => sv x)[((i : Nat) : Int).toNat]? = some (sv (nth l i ⟨#[]⟩)) := wq (d := ⟨#[]⟩) h
theorem u8_nth {l : List Int} {i : Nat} (h : i < l.length) : (l.map fun x => cv x)[((i : Nat) : Int).toNat]? = some (cv (nth l i 0)) := wq (d := 0) h
theorem dropA_snoc (keys : List ByteArray) : ∀ (l : List GA) (x : GA), xG keys (l ++ [x]) = xG keys l ++ (if keys.any (fun k => decide (k = x.key)) then [] else [x])
  | [], x => by simp only [List.nil_append, xG]
  | y :: l, x => by
    simp only [List.cons_append, xG, dropA_snoc keys l x]
    split <;> simp
theorem dropA_take {keys : List ByteArray} {l : List GA} {i : Nat} (h : i < l.length) : xG keys (l.take (i + 1)) = xG keys (l.take i) ++ (if keys.any (fun k => decide (k = (nthA l i).key)) then [] else [nthA l i]) := by
  rw [yO (y6 (d := a0) h), dropA_snoc]; rfl
theorem tN (keys : List ByteArray) : ∀ l : List GA, (xG keys l).length ≤ l.length
  | [] => Nat.le_refl _
  | x :: l => by rw [xG]; have := tN keys l; split <;> simp <;> omega
theorem plain_take {kinds : List Int} {l : List GA} {i : Nat} (h : i < l.length) : (l.take (i + 1)).map (yZ kinds) = (l.take i).map (yZ kinds) ++ [yZ kinds (nthA l i)] := by
  rw [yO (y6 (d := a0) h), List.map_append]; rfl
theorem su {a b : GV} (h : a ≠ b) : rW a b = false := by cases hs : rW a b; rfl; exact absurd ((vV _ _).1 hs) h
theorem sameAs_ne {a b : List GA} (h : a ≠ b) : uj a b = false := by cases hs : uj a b; rfl; exact absurd ((yy _ _).1 hs) h
theorem xc {α : Type} {l m : List α} (d : α) (hl : l.length = m.length) (h : ∀ i, i < l.length → nth l i d = nth m i d) : l = m := by
  refine List.ext_getElem hl fun i h1 h2 => ?_
  have := h i h1
  unfold nth at this
  rwa [List.getD_eq_getElem?_getD, List.getD_eq_getElem?_getD, List.getElem?_eq_getElem h1, List.getElem?_eq_getElem h2] at this
theorem GA.ext' {a b : GA} (h1 : a.key = b.key) (h2 : a.val = b.val) : a = b := by cases a; cases b; simp only [GA.key_mk, GA.val_mk] at h1 h2; rw [h1, h2]
theorem GV.ext' {a b : GV} (h1 : a.kind = b.kind) (h2 : a.text = b.text) (h3 : a.num = b.num) (h4 : a.bits = b.bits) (h5 : a.list = b.list) (h6 : a.map = b.map) : a = b := by
  cases a; cases b
  simp only [GV.kind_mk, GV.text_mk, GV.num_mk, GV.bits_mk, GV.list_mk, GV.map_mk] at h1 h2 h3 h4 h5 h6
  rw [h1, h2, h3, h4, h5, h6]
theorem td {a b : GV} (h1 : a.kind = b.kind) (h2 : a.text = b.text) (h3 : a.num = b.num) (h4 : a.bits = b.bits) (h5 : a.list = b.list) : uj a.map b.map = rW a b := by
  rw [Bool.eq_iff_iff, yy, vV]
  exact ⟨fun h => GV.ext' h1 h2 h3 h4 h5 h, fun h => by rw [h]⟩
def uo (l : List GA) (k : ByteArray) : List GA := if hasA l k then l.drop (posA l k + 1) else l.drop (posA l k)
theorem restA_yes {l : List GA} {k : ByteArray} (h : hasA l k = true) : uo l k = l.drop (posA l k + 1) := by unfold uo; rw [if_pos h]
theorem restA_no {l : List GA} {k : ByteArray} (h : hasA l k = false) : uo l k = l.drop (posA l k) := by unfold uo; rw [if_neg (by rw [h]; decide)]
theorem restA_len (l : List GA) (k : ByteArray) : (uo l k).length ≤ l.length := by unfold uo; split <;> simp
theorem into_row {l : List GA} (k : ByteArray) (v : GV) : (l.take (posA l k)).map avA ++ (GA.mk k v).av :: (uo l k).map avA = (xf l (.mk k v)).map avA := by
  rw [intoA_pos]
  simp only [List.map_append, List.map_cons, List.map_nil, avA_eq, List.append_assoc, List.cons_append, List.nil_append]
  rfl
theorem avA_w (l : List GA) : ∀ x ∈ l.map avA, x.width = 7 := fun x hx => by
  obtain ⟨y, _, rfl⟩ := List.mem_map.1 hx
  rw [avA_eq]; rfl
theorem rowW {z : AV} (hz : z.width = 7) (l : List GA) (e : GA) (r : Nat) : ∀ x ∈ l.map avA ++ e.av :: List.replicate r z, x.width = 7 := fun x hx => by
  rcases List.mem_append.1 hx with hx | hx
  · exact avA_w l x hx
  · rcases List.mem_cons.1 hx with rfl | hx
    · rfl
    · rw [List.eq_of_mem_replicate hx]; exact hz
theorem rowW2 (l : List GA) (e : GA) (R : List GA) : ∀ x ∈ l.map avA ++ e.av :: R.map avA, x.width = 7 := fun x hx => by
  rcases List.mem_append.1 hx with hx | hx
  · exact avA_w l x hx
  · rcases List.mem_cons.1 hx with rfl | hx
    · rfl
    · exact avA_w R x hx
end Go.Proofs
namespace Go.Al
open Go.RowKit
section
variable {C : Cx} {A : Nat → SV} {d : Nat} {ty : TypeId} {pos : String} {af : Array Edge} {gd : Option (Nat × Bool)} {x y : Operand} {T T' : TypeId}
end
end Go.Al
namespace Go.Proofs
open Go Go.Al
set_option maxRecDepth 10000
theorem vplain_c (v : GV) (ho : v.ok) (hw : v.wt ≤ 10000000) : zn Tryz.prog Γ0 83 [v.av] [(vA v).av] := by
  refine z_ Tryz.func83 rfl Tryz.ntmps83 (by kernel_rfl) rfl fun w0 I0 G0 => ?_
  refine zD <| zB <| g_uG (zk 1001 rfl rfl rfl rfl) rfl <| g_uG (zy 1002 rfl rfl rfl tZ70) rfl <| zH <| zA <| zD <| zB <| g_u (zG rfl rfl rfl tA70 tS70 rfl rfl) <| g_u (zP (text_c v ho hw) rfl rfl) <| g_u (yj rfl tU70 us70 pl70 rfl rfl rfl rfl) <| g_u (zV rfl rfl rfl tS70 rfl rfl) <| zH <| zA <| zL ?_
  exact ⟨⟨_, _, _, _, _, _, _, rfl, rfl, tA70, tS70, rfl, rfl, (rfl : toAV _ = some _).trans (congrArg some (by rfl))⟩, trivial⟩
theorem indexS_c (ks : List ByteArray) (k : ByteArray) (hk : ks.length ≤ 1000000000) : zn Tryz.prog Γ0 118 [(.sl 1 (ks.map fun x => sv x)), sv k] [iv (tL (fun x => decide (x = k)) ks 0)] := by
  refine z_ Tryz.func118 rfl Tryz.ntmps118 (by kernel_rfl) rfl fun w0 I0 G0 => ?_
  refine zD <| zB <| g_u (zE rfl rfl) <| zH <| zA <| zD <| zD <| zB <| g_u (zC rfl rfl) <| g_u (z7 rfl rfl Tryz.underlying27) <| g_u (zC rfl rfl) <| zH <| zA <| zU ?_
  refine zw (fun i : Nat => [(0, .imm (.sl 1 (ks.map fun x => sv x))), (1, .imm (sv k)), (7, .imm (iv (ks.length : Int))), (8, .imm (iv (i : Int)))]) (fun i => i ≤ ks.length ∧ tL (fun x => decide (x = k)) ks 0 = tL (fun x => decide (x = k)) (ks.drop i) i) (fun i => ks.length - i) (0) ?_ ⟨rfl, rfl, zX rfl (by rw [List.length_map]), rfl, trivial⟩ ?_
  · exact ⟨Nat.zero_le _, rfl⟩
  · rintro i ⟨h1, h2⟩; (try dsimp only at h1 h2)
    refine zD <| zB <| g_u (ye rfl rfl rfl) <| zH <| zA <| zD ?_
    refine zN rfl (fun hb1 => ?_) (fun hb1 => ?_)
    · have hi : i < ks.length := by have := of_decide_eq_true hb1; (try simp only [List.length_map] at this); omega
      refine zQ <| zA <| zD <| zU <| zD <| zB <| g_u (zC rfl rfl) <| g_u (zE rfl rfl) <| zH <| zA <| zD <| zB <| g_u (zC rfl rfl) <| g_u (zC rfl rfl) <| g_u (zC rfl rfl) ?_
      refine g_u (zR rfl rfl rfl Tryz.underlying27 tS9 (by omega) (str_nth hi)) ?_
      refine g_u (zd rfl rfl tA9 tS9 rfl rfl) <| g_u (jZ rfl rfl rfl) <| zH <| zA ?_
      refine zN rfl (fun hb2 => ?_) (fun hb2 => ?_)
      · have q : decide (nth ks i ⟨#[]⟩ = k) = true := by have e := hb2; rw [yH] at e; exact decide_eq_true (of_decide_eq_true e).symm
        refine zD <| zB <| g_u (zC rfl rfl) <| g_u (zE rfl rfl) <| zH <| zA <| zL <| zt <| zK <| zK <| zt <| zK ?_
        exact ⟨⟨(rfl : toAV (Al.look _ _) = some _).trans (congrArg some (by (exact congrArg iv (by first | (rw [h2, hin, List.drop_length]; rfl) | rw [h2, vl (d := ⟨#[]⟩) hi, if_pos q])))), rfl⟩, trivial⟩
      · have q : decide (nth ks i ⟨#[]⟩ = k) = false := by have e := hb2; rw [yH] at e; exact decide_eq_false fun h => of_decide_eq_false e h.symm
        refine zQ <| zW <| zA <| zB <| g_u (z0 rfl rfl rfl) <| g_u (zC rfl rfl) <| zH <| zA ?_
        refine ⟨i + 1, ⟨hi, by (try dsimp only); rw [h2, vl (d := ⟨#[]⟩) hi, if_neg (by rw [q]; decide)]⟩, ⟨rfl, rfl, rfl, zX rfl (by rw [zO (by omega) (by omega)]; rfl), trivial⟩, by (try dsimp only); omega⟩
    · have hin : i = ks.length := by have := of_decide_eq_false hb1; (try simp only [List.length_map] at this); omega
      refine zz <| zT <| zT <| zq <| zA <| zD <| zB <| g_u (zE rfl rfl) <| zH <| zA <| zL ?_
      exact ⟨⟨(rfl : toAV (Al.look _ _) = some _).trans (congrArg some (by (exact congrArg iv (by first | (rw [h2, hin, List.drop_length]; rfl) | rw [h2, vl (d := ⟨#[]⟩) hi, if_pos q])))), rfl⟩, trivial⟩
theorem containsS_c (ks : List ByteArray) (k : ByteArray) (hk : ks.length ≤ 1000000000) : zn Tryz.prog Γ0 84 [(.sl 1 (ks.map fun x => sv x)), sv k] [bv (ks.any (fun x => decide (x = k)))] := by
  refine z_ Tryz.func84 rfl Tryz.ntmps84 (by kernel_rfl) rfl fun w0 I0 G0 => ?_
  refine zD <| zB <| g_u (zE rfl rfl) <| zH <| zA <| zD <| zB <| g_u (zC rfl rfl) <| g_u (zC rfl rfl) ?_
  refine g_u (zP (indexS_c _ _ (by omega)) rfl rfl) ?_
  refine g_u (tD rfl rfl rfl) <| g_u (zE rfl rfl) <| zH <| zA <| zL ?_
  exact ⟨⟨(rfl : toAV (Al.look _ _) = some _).trans (congrArg some (by (exact congrArg bv (firstI_any _ _ 0)))), rfl⟩, trivial⟩
theorem indexU_c (ks : List Int) (k : Int) (hk : ks.length ≤ 1000000000) : zn Tryz.prog Γ0 117 [(.sl 1 (ks.map fun x => cv x)), cv k] [iv (tL (fun x => x == k) ks 0)] := by
  refine z_ Tryz.func117 rfl Tryz.ntmps117 (by kernel_rfl) rfl fun w0 I0 G0 => ?_
  refine zD <| zB <| g_u (zE rfl rfl) <| zH <| zA <| zD <| zD <| zB <| g_u (zC rfl rfl) <| g_u (z7 rfl rfl Tryz.underlying42) <| g_u (zC rfl rfl) <| zH <| zA <| zU ?_
  refine zw (fun i : Nat => [(0, .imm (.sl 1 (ks.map fun x => cv x))), (1, .imm (cv k)), (7, .imm (iv (ks.length : Int))), (8, .imm (iv (i : Int)))]) (fun i => i ≤ ks.length ∧ tL (fun x => x == k) ks 0 = tL (fun x => x == k) (ks.drop i) i) (fun i => ks.length - i) (0) ?_ ⟨rfl, rfl, zX rfl (by rw [List.length_map]), rfl, trivial⟩ ?_
  · exact ⟨Nat.zero_le _, rfl⟩
  · rintro i ⟨h1, h2⟩; (try dsimp only at h1 h2)
    refine zD <| zB <| g_u (ye rfl rfl rfl) <| zH <| zA <| zD ?_
    refine zN rfl (fun hb1 => ?_) (fun hb1 => ?_)
    · have hi : i < ks.length := by have := of_decide_eq_true hb1; (try simp only [List.length_map] at this); omega
      refine zQ <| zA <| zD <| zU <| zD <| zB <| g_u (zC rfl rfl) <| g_u (zE rfl rfl) <| zH <| zA <| zD <| zB <| g_u (zC rfl rfl) <| g_u (zC rfl rfl) <| g_u (zC rfl rfl) ?_
      refine g_u (zR rfl rfl rfl Tryz.underlying42 tS5 (by omega) (u8_nth hi)) ?_
      refine g_u (zd rfl rfl tA5 tS5 rfl rfl) <| g_u (yz rfl rfl rfl) <| zH <| zA ?_
      refine zN rfl (fun hb2 => ?_) (fun hb2 => ?_)
      · have q : (nth ks i 0 == k) = true := beq_iff_eq.2 (beq_iff_eq.1 hb2).symm
        refine zD <| zB <| g_u (zC rfl rfl) <| g_u (zE rfl rfl) <| zH <| zA <| zL <| zt <| zK <| zK <| zt <| zK ?_
        exact ⟨⟨(rfl : toAV (Al.look _ _) = some _).trans (congrArg some (by (exact congrArg iv (by first | (rw [h2, hin, List.drop_length]; rfl) | rw [h2, vl (d := 0) hi, if_pos q])))), rfl⟩, trivial⟩
      · have q : (nth ks i 0 == k) = false := beq_eq_false_iff_ne.2 (Ne.symm (beq_eq_false_iff_ne.1 hb2))
        refine zQ <| zW <| zA <| zB <| g_u (z0 rfl rfl rfl) <| g_u (zC rfl rfl) <| zH <| zA ?_
        refine ⟨i + 1, ⟨hi, by (try dsimp only); rw [h2, vl (d := 0) hi, if_neg (by rw [q]; decide)]⟩, ⟨rfl, rfl, rfl, zX rfl (by rw [zO (by omega) (by omega)]; rfl), trivial⟩, by (try dsimp only); omega⟩
    · have hin : i = ks.length := by have := of_decide_eq_false hb1; (try simp only [List.length_map] at this); omega
      refine zz <| zT <| zT <| zq <| zA <| zD <| zB <| g_u (zE rfl rfl) <| zH <| zA <| zL ?_
      exact ⟨⟨(rfl : toAV (Al.look _ _) = some _).trans (congrArg some (by (exact congrArg iv (by first | (rw [h2, hin, List.drop_length]; rfl) | rw [h2, vl (d := 0) hi, if_pos q])))), rfl⟩, trivial⟩
theorem containsU_c (ks : List Int) (k : Int) (hk : ks.length ≤ 1000000000) : zn Tryz.prog Γ0 82 [(.sl 1 (ks.map fun x => cv x)), cv k] [bv (ks.any (fun x => x == k))] := by
  refine z_ Tryz.func82 rfl Tryz.ntmps82 (by kernel_rfl) rfl fun w0 I0 G0 => ?_
  refine zD <| zB <| g_u (zE rfl rfl) <| zH <| zA <| zD <| zB <| g_u (zC rfl rfl) <| g_u (zC rfl rfl) ?_
  refine g_u (zP (indexU_c _ _ (by omega)) rfl rfl) ?_
  refine g_u (tD rfl rfl rfl) <| g_u (zE rfl rfl) <| zH <| zA <| zL ?_
  exact ⟨⟨(rfl : toAV (Al.look _ _) = some _).trans (congrArg some (by (exact congrArg bv (firstI_any _ _ 0)))), rfl⟩, trivial⟩
theorem drop_c (l : List GA) (ks : List ByteArray) (hl : l.length ≤ 10000000) (hk : ks.length ≤ 1000000000) : zn Tryz.prog Γ0 52 [(.sl 7 (l.map avA)), (.sl 1 (ks.map fun x => sv x))] [.sl 7 ((xG ks l).map avA)] := by
  refine z_ Tryz.func52 rfl Tryz.ntmps52 (by kernel_rfl) rfl fun w0 I0 G0 => ?_
  refine zD <| zB <| g_u (zE rfl rfl) <| zH <| zA <| zD <| zB <| g_u (zE rfl rfl) <| zH <| zA <| zD <| zD <| um 3005 5 7 rfl rfl rfl rfl <| zB <| g_u (zC rfl rfl) <| g_u (z7 rfl rfl Tryz.underlying44) <| g_u (zC rfl rfl) <| zH <| zA <| zU ?_
  refine zw (fun i : Nat => [(1, .imm (.sl 1 (ks.map fun x => sv x))), (8, .imm (.sl 7 (l.map avA))), (9, .imm (iv (l.length : Int))), (5, .slg 3005 7 ((xG ks (l.take i)).map avA)), (3005, .tok 7 ((xG ks (l.take i)).map avA)), (10, .imm (iv (i : Int)))]) (fun i => i ≤ l.length) (fun i => l.length - i) (0) ?_ ⟨rfl, rfl, zX rfl (by rw [List.length_map]), rfl, rfl, rfl, trivial⟩ ?_
  · exact Nat.zero_le _
  · rintro i h1; have h1 : i ≤ l.length := h1
    refine zD <| zB <| g_u (ye rfl rfl rfl) <| zH <| zA <| zD ?_
    refine zN rfl (fun hb1 => ?_) (fun hb1 => ?_)
    · have hi : i < l.length := by have := of_decide_eq_true hb1; (try simp only [List.length_map] at this); omega
      refine zQ <| zA <| zD <| zU <| zD <| zB ?_
      refine g_u (zR rfl rfl rfl Tryz.underlying44 tS72 (by omega) (ixA hi)) ?_
      refine g_u (zd rfl rfl tA72 tS72 rfl rfl) <| g_uG (zy 1007 rfl rfl rfl tZ72) rfl <| g_u (zV rfl rfl rfl tS72 rfl rfl) <| zH <| zA <| zD <| zB <| g_u (zC rfl rfl) <| g_u (zF rfl rfl uq rfl) <| g_u (zG rfl rfl rfl tA9 tS9 rfl rfl) ?_
      refine g_u (zP (containsS_c _ _ (by omega)) rfl rfl) ?_
      refine g_u (uA rfl rfl) <| zH <| zA ?_
      refine zN rfl (fun hb2 => ?_) (fun hb2 => ?_)
      · have et : (xG ks (l.take (i + 1))).map avA = (xG ks (l.take i)).map avA ++ [(nthA l i).av] := by rw [dropA_take hi, if_neg (by have e := hb2; simp only [Bool.not_eq_true'] at e; rw [e]; decide)]; simp [avA_eq]
        refine zB <| g_u (yW rfl rfl) <| g_u (yC rfl rfl rfl tA72 tS72 rfl rfl) <| g_u (zl (X0 := z72) rfl Tryz.underlying44 tS72 tZ72 rfl rfl rfl rfl rfl rfl rfl rfl) ?_
        refine g_u (yh rfl rfl rfl rfl rfl Tryz.underlying44 Tryz.underlying44 tS72 zv72 rfl (by decide) by72 (by (try dsimp only); have hdl := tN ks (l.take i); simp only [List.length_append, List.length_cons, List.length_nil, List.length_map, List.length_take] at *; omega) (by (try dsimp only); have hdl := tN ks (l.take i); simp only [List.length_append, List.length_cons, List.length_nil, List.length_map, List.length_take] at *; omega)) ?_
        refine g_u (yY rfl rfl) <| zH <| zW <| zA <| zB <| g_u (z0 rfl rfl rfl) <| g_u (zC rfl rfl) <| zH <| zA ?_
        refine ⟨i + 1, hi, ⟨rfl, rfl, rfl, yl rfl et.symm, yf rfl et.symm, zX rfl (by rw [zO (by omega) (by omega)]; rfl), trivial⟩, by (try dsimp only); omega⟩
      · have et : (xG ks (l.take (i + 1))).map avA = (xG ks (l.take i)).map avA := by rw [dropA_take hi, if_pos (by have e := hb2; simp only [Bool.not_eq_false'] at e; exact e)]; simp [avA_eq]
        refine zQ <| zW <| zA <| zB <| g_u (z0 rfl rfl rfl) <| g_u (zC rfl rfl) <| zH <| zA ?_
        refine ⟨i + 1, hi, ⟨rfl, rfl, rfl, yl rfl et.symm, yf rfl et.symm, zX rfl (by rw [zO (by omega) (by omega)]; rfl), trivial⟩, by (try dsimp only); omega⟩
    · have hin : i = l.length := by have := of_decide_eq_false hb1; (try simp only [List.length_map] at this); omega
      refine zz <| zT <| zT <| zq <| zA <| zD <| zB <| g_u (yW rfl rfl) <| g_u (yY rfl rfl) <| zH <| zA <| zL ?_
      exact ⟨⟨(rfl : toAV (Al.look _ _) = some _).trans (congrArg some (by (rw [hin, List.take_length]))), rfl⟩, trivial⟩
theorem plainAs_c (l : List GA) (ks : List Int) (ho : ∀ a ∈ l, a.ok) (hw : wtAs l ≤ 10000000) (hk : ks.length ≤ 1000000000) : zn Tryz.prog Γ0 51 [(.sl 7 (l.map avA)), (.sl 1 (ks.map fun x => cv x))] [.sl 7 ((l.map (yZ ks)).map avA)] := by
  have hl := yv l
  refine z_ Tryz.func51 rfl Tryz.ntmps51 (by kernel_rfl) rfl fun w0 I0 G0 => ?_
  refine zD <| zB <| g_u (zE rfl rfl) <| zH <| zA <| zD <| zB <| g_u (zE rfl rfl) <| zH <| zA <| zD <| zD <| um 3005 5 7 rfl rfl rfl rfl <| zB <| g_u (zC rfl rfl) <| g_u (z7 rfl rfl Tryz.underlying44) <| g_u (zC rfl rfl) <| zH <| zA <| zU ?_
  refine zw (fun i : Nat => [(1, .imm (.sl 1 (ks.map fun x => cv x))), (8, .imm (.sl 7 (l.map avA))), (9, .imm (iv (l.length : Int))), (5, .slg 3005 7 (((l.take i).map (yZ ks)).map avA)), (3005, .tok 7 (((l.take i).map (yZ ks)).map avA)), (10, .imm (iv (i : Int)))]) (fun i => i ≤ l.length) (fun i => l.length - i) (0) ?_ ⟨rfl, rfl, zX rfl (by rw [List.length_map]), rfl, rfl, rfl, trivial⟩ ?_
  · exact Nat.zero_le _
  · rintro i h1; have h1 : i ≤ l.length := h1
    refine zD <| zB <| g_u (ye rfl rfl rfl) <| zH <| zA <| zD ?_
    refine zN rfl (fun hb1 => ?_) (fun hb1 => ?_)
    · have hi : i < l.length := by have := of_decide_eq_true hb1; (try simp only [List.length_map] at this); omega
      have gov : (nthA l i).val.ok := ((GA.ok_iff _).1 (ho _ (xY hi))).2
      have gow : (nthA l i).val.wt ≤ 10000000 := by have h1 := xy (xY hi); have h2 := (nthA l i).wt_eq; omega
      refine zQ <| zA <| zD <| zU <| zD <| zB ?_
      refine g_u (zR rfl rfl rfl Tryz.underlying44 tS72 (by omega) (ixA hi)) ?_
      refine g_u (zd rfl rfl tA72 tS72 rfl rfl) <| g_uG (zy 1007 rfl rfl rfl tZ72) rfl <| g_u (zV rfl rfl rfl tS72 rfl rfl) <| zH <| zA <| zD <| zD <| zB <| g_u (zC rfl rfl) <| g_u (zF rfl rfl ul rfl) <| g_u (zF rfl rfl xI rfl) <| g_u (zG rfl rfl rfl tA5 tS5 rfl rfl) ?_
      refine g_u (zP (containsU_c _ _ (by omega)) rfl rfl) ?_
      refine zH <| zA ?_
      refine zN rfl (fun hb2 => ?_) (fun hb2 => ?_)
      · have et : ((l.take (i + 1)).map (yZ ks)).map avA = ((l.take i).map (yZ ks)).map avA ++ [.agg [sv (nthA l i).key, (vA (nthA l i).val).av]] := by rw [plain_take hi, List.map_append]; simp only [List.map_cons, List.map_nil, avA_eq]; unfold yZ; rw [if_pos hb2]; rfl
        refine zB <| g_u (zF rfl rfl ul rfl) <| g_u (zG rfl rfl rfl tA70 tS70 rfl rfl) <| g_u (zP (vplain_c _ gov gow) rfl rfl) <| g_u (zF rfl rfl ul rfl) <| g_u (zV rfl rfl rfl tS70 rfl rfl) <| zH <| zA <| zB <| g_u (yW rfl rfl) <| g_u (yC rfl rfl rfl tA72 tS72 rfl rfl) <| g_u (zl (X0 := z72) rfl Tryz.underlying44 tS72 tZ72 rfl rfl rfl rfl rfl rfl rfl rfl) ?_
        refine g_u (yh rfl rfl rfl rfl rfl Tryz.underlying44 Tryz.underlying44 tS72 zv72 rfl (by decide) by72 (by (try dsimp only); simp only [List.length_append, List.length_cons, List.length_nil, List.length_map, List.length_take, List.length_drop]; omega) (by (try dsimp only); simp only [List.length_append, List.length_cons, List.length_nil, List.length_map, List.length_take, List.length_drop]; omega)) ?_
        refine g_u (yY rfl rfl) <| zH <| zW <| zA <| zB <| g_u (z0 rfl rfl rfl) <| g_u (zC rfl rfl) <| zH <| zA ?_
        refine ⟨i + 1, hi, ⟨rfl, rfl, rfl, yl rfl et.symm, yf rfl et.symm, zX rfl (by rw [zO (by omega) (by omega)]; rfl), trivial⟩, by (try dsimp only); omega⟩
      · have et : ((l.take (i + 1)).map (yZ ks)).map avA = ((l.take i).map (yZ ks)).map avA ++ [(nthA l i).av] := by rw [plain_take hi, List.map_append]; simp only [List.map_cons, List.map_nil, avA_eq]; unfold yZ; rw [if_neg (by rw [hb2]; decide)]
        refine zQ <| zA <| zB <| g_u (yW rfl rfl) <| g_u (yC rfl rfl rfl tA72 tS72 rfl rfl) <| g_u (zl (X0 := z72) rfl Tryz.underlying44 tS72 tZ72 rfl rfl rfl rfl rfl rfl rfl rfl) ?_
        refine g_u (yh rfl rfl rfl rfl rfl Tryz.underlying44 Tryz.underlying44 tS72 zv72 rfl (by decide) by72 (by (try dsimp only); simp only [List.length_append, List.length_cons, List.length_nil, List.length_map, List.length_take, List.length_drop]; omega) (by (try dsimp only); simp only [List.length_append, List.length_cons, List.length_nil, List.length_map, List.length_take, List.length_drop]; omega)) ?_
        refine g_u (yY rfl rfl) <| zH <| zW <| zA <| zB <| g_u (z0 rfl rfl rfl) <| g_u (zC rfl rfl) <| zH <| zA ?_
        refine ⟨i + 1, hi, ⟨rfl, rfl, rfl, yl rfl et.symm, yf rfl et.symm, zX rfl (by rw [zO (by omega) (by omega)]; rfl), trivial⟩, by (try dsimp only); omega⟩
    · have hin : i = l.length := by have := of_decide_eq_false hb1; (try simp only [List.length_map] at this); omega
      refine zz <| zT <| zT <| zq <| zA <| zD <| zB <| g_u (yW rfl rfl) <| g_u (yY rfl rfl) <| zH <| zA <| zL ?_
      exact ⟨⟨(rfl : toAV (Al.look _ _) = some _).trans (congrArg some (by (rw [hin, List.take_length]))), rfl⟩, trivial⟩
end Go.Proofs
namespace Go.Proofs
open Go Go.Al
set_option maxRecDepth 10000
theorem sx (l : List GA) (ho : ∀ a ∈ l, a.ok) (hw : wtAs l ≤ 1000000) : zn Tryz.prog Γ0 46 [(.sl 7 (l.map avA))] [iv (ym l)] := by
  have hl := yv l
  refine z_ Tryz.func46 rfl Tryz.ntmps46 (by kernel_rfl) rfl fun w0 I0 G0 => ?_
  refine zD <| zB <| g_u (zE rfl rfl) <| zH <| zA <| zD <| zD <| zB <| g_u (zC rfl rfl) <| g_u (z7 rfl rfl Tryz.underlying44) <| g_u (wD rfl rfl rfl) <| zH <| zA ?_
  refine zN rfl (fun hb1 => ?_) (fun hb1 => ?_)
  · have q : (l.length : Int) > 32 := by have e := of_decide_eq_true hb1; simp only [List.length_map] at e; omega
    refine zD <| zB <| g_u (zE rfl rfl) <| zH <| zA <| zL <| zK ?_
    exact ⟨⟨(rfl : toAV (Al.look _ _) = some _).trans (congrArg some (by (exact congrArg iv (by first | (rw [h2, hin, List.drop_length]; rfl) | (rw [h2, ud hi, if_pos (by omega)]; done) | (unfold ym; rw [if_pos (by omega)]; done) | (unfold ym; rw [if_neg (by omega), zj _ _ (by omega)]; done))))), rfl⟩, trivial⟩
  · have q : ¬ (l.length : Int) > 32 := by have e := of_decide_eq_false hb1; simp only [List.length_map] at e; omega
    refine zQ <| zA <| zD <| zD <| zB <| g_u (zC rfl rfl) ?_
    refine g_u (zP (rentC_c l 0 ⟨by omega, by omega⟩) rfl rfl) ?_
    refine g_u (zE rfl rfl) <| zH <| zA <| zD <| zB <| g_u (zC rfl rfl) <| g_u (xl rfl rfl rfl) <| zH <| zA ?_
    refine zN rfl (fun hb2 => ?_) (fun hb2 => ?_)
    · have q := bne_iff_ne.1 hb2
      refine zD <| zB <| g_u (zC rfl rfl) <| g_u (zE rfl rfl) <| zH <| zA <| zL <| zK ?_
      exact ⟨⟨(rfl : toAV (Al.look _ _) = some _).trans (congrArg some (by (exact congrArg iv (by first | (rw [h2, hin, List.drop_length]; rfl) | (rw [h2, ud hi, if_pos (by omega)]; done) | (unfold ym; rw [if_pos (by omega)]; done) | (unfold ym; rw [if_neg (by omega), zj _ _ (by omega)]; done))))), rfl⟩, trivial⟩
    · have q := qd.1 hb2
      refine zQ <| zA <| zD <| zD <| zB <| g_u (zE rfl rfl) <| zH <| zA <| zU ?_
      refine zw (fun i : Nat => [(0, .imm (.sl 7 (l.map avA))), (4, .imm (iv (i : Int)))]) (fun i => i ≤ l.length ∧ ym l = textsC (l.drop i)) (fun i => l.length - i) (0) ?_ ⟨rfl, rfl, trivial⟩ ?_
      · exact ⟨Nat.zero_le _, by unfold ym; rw [if_neg (by omega), zJ _ _ (by omega)]; rfl⟩
      · rintro i ⟨h1, h2⟩; (try dsimp only at h1 h2)
        refine zD <| zD <| zB <| g_u (zC rfl rfl) <| g_u (zC rfl rfl) <| g_u (z7 rfl rfl Tryz.underlying44) <| g_u (ye rfl rfl rfl) <| zH <| zA ?_
        refine zN rfl (fun hb3 => ?_) (fun hb3 => ?_)
        · have hi : i < l.length := by have := of_decide_eq_true hb3; (try simp only [List.length_map] at this); omega
          have gov : (nthA l i).val.ok := ((GA.ok_iff _).1 (ho _ (xY hi))).2
          have gow : (nthA l i).val.wt ≤ 10000000 := by have h1 := xy (xY hi); have h2 := (nthA l i).wt_eq; omega
          refine zQ <| zA <| zD <| zU <| zD <| zB <| g_u (zC rfl rfl) <| g_u (zC rfl rfl) ?_
          refine g_u (zR rfl rfl rfl Tryz.underlying44 tS72 (by omega) (ixA hi)) ?_
          refine g_u (zf rfl rfl ul rfl rfl) <| g_u (zd rfl rfl tA70 tS70 rfl rfl) <| g_u (zP (rtext_c _ gov gow) rfl rfl) <| g_u (yp rfl rfl Tryz.underlying9) <| g_u (wD rfl rfl rfl) <| zH <| zA ?_
          refine zN rfl (fun hb4 => ?_) (fun hb4 => ?_)
          · have q := of_decide_eq_true hb4
            refine zD <| zB <| g_u (zE rfl rfl) <| zH <| zA <| zL <| zt <| zK <| zK <| zt <| zK ?_
            exact ⟨⟨(rfl : toAV (Al.look _ _) = some _).trans (congrArg some (by (exact congrArg iv (by first | (rw [h2, hin, List.drop_length]; rfl) | (rw [h2, ud hi, if_pos (by omega)]; done) | (unfold ym; rw [if_pos (by omega)]; done) | (unfold ym; rw [if_neg (by omega), zj _ _ (by omega)]; done))))), rfl⟩, trivial⟩
          · have q := of_decide_eq_false hb4
            refine zQ <| zW <| zA <| zB <| g_u (zC rfl rfl) <| g_u (z0 rfl rfl rfl) <| g_u (zE rfl rfl) <| zH <| zA ?_
            refine ⟨i + 1, ⟨hi, by (try dsimp only); rw [h2, ud hi, if_neg (by omega)]⟩, ⟨rfl, zX rfl (by rw [zO (by omega) (by omega)]; rfl), trivial⟩, by (try dsimp only); omega⟩
        · have hin : i = l.length := by have := of_decide_eq_false hb3; (try simp only [List.length_map] at this); omega
          refine zz <| zT <| zT <| zq <| zA <| zD <| zB <| g_u (zE rfl rfl) <| zH <| zA <| zL ?_
          exact ⟨⟨(rfl : toAV (Al.look _ _) = some _).trans (congrArg some (by (exact congrArg iv (by first | (rw [h2, hin, List.drop_length]; rfl) | (rw [h2, ud hi, if_pos (by omega)]; done) | (unfold ym; rw [if_pos (by omega)]; done) | (unfold ym; rw [if_neg (by omega), zj _ _ (by omega)]; done))))), rfl⟩, trivial⟩
set_option maxHeartbeats 2000000 in
theorem putA_c (l : List GA) (k : ByteArray) (v : GV) (hr : risA none l) (hl : l.length ≤ 10000000) : zn Tryz.prog Γ0 113 [(.sl 7 (l.map avA)), sv k, v.av] [.sl 7 ((xf l (.mk k v)).map avA)] := by
  have hp := posA_le l k
  have hML : ((l.take (posA l k)).map avA).length = posA l k := by rw [List.length_map, List.length_take]; omega
  have hRL := restA_len l k
  refine z_ Tryz.func113 rfl Tryz.ntmps113 (by kernel_rfl) rfl fun w0 I0 G0 => ?_
  refine zD <| zB <| g_uG (zk 1005 rfl rfl rfl rfl) rfl <| g_u (zE rfl rfl) <| zH <| zA <| zD <| zB <| g_u (zC rfl rfl) <| g_u (zC rfl rfl) ?_
  refine g_u (vb (find_c l k hr (by omega)) rfl rfl) ?_
  refine g_u (xt rfl rfl) <| g_u (zp rfl rfl rfl rfl) <| g_u (zp rfl rfl rfl rfl) <| g_u (zE rfl rfl) <| g_u (zE rfl rfl) <| zH <| zA <| zD <| zB <| g_u (zC rfl rfl) <| g_u (zC rfl rfl) ?_
  refine g_u (s_slL_l (posA l k) rfl rfl rfl Tryz.underlying44 tS72 rfl (by rw [List.length_map]; omega)) ?_
  refine g_u (zE rfl rfl) <| zH <| zA <| zD <| zD <| zB <| g_u (zC rfl rfl) <| zH <| zA ?_
  refine vk (fun _ : Unit => [(0, .imm (.sl 7 (l.map avA))), (1, .imm (sv k)), (5, .ptr 1005 0), (1005, .box 70 (.imm v.av)), (7, .imm (iv (posA l k : Nat))), (9, .imm (.sl 7 ((uo l k).map avA)))]) (fun _ => True) ?_ ?_
  · refine zN rfl (fun hb1 => ?_) (fun hb1 => ?_)
    · have hh : hasA l k = true := hb1
      have hpl : posA l k < l.length := by unfold hasA at hh; simp at hh; exact hh.1
      refine zB <| g_u (zC rfl rfl) <| g_u (zC rfl rfl) <| g_u (z0 rfl rfl rfl) ?_
      refine g_u (s_slL_l (posA l k + 1) rfl rfl rfl Tryz.underlying44 tS72 (by rw [zO (by omega) (by omega)]; omega) (by rw [List.length_map]; omega)) ?_
      refine g_u (zE rfl rfl) <| zH <| zA ?_
      exact ⟨(), trivial, ⟨rfl, rfl, rfl, rfl, rfl, look_imm rfl (by first | (rw [restA_yes hh]; simp only [List.take_length, List.map_drop]; done) | (rw [restA_no hh]; simp only [List.take_length, List.map_drop]; done)), trivial⟩⟩
    · have hh : hasA l k = false := hb1
      refine zQ <| zA ?_
      exact ⟨(), trivial, ⟨rfl, rfl, rfl, rfl, rfl, look_imm rfl (by first | (rw [restA_yes hh]; simp only [List.take_length, List.map_drop]; done) | (rw [restA_no hh]; simp only [List.take_length, List.map_drop]; done)), trivial⟩⟩
  · rintro _ hc
    refine zD <| zB <| g_u (zC rfl rfl) <| g_u (z0 rfl rfl rfl) <| g_u (zC rfl rfl) <| g_u (z7 rfl rfl Tryz.underlying44) <| g_u (z0 rfl rfl rfl) ?_
    refine g_uG (uk 1030 (X0 := z72) (len := (posA l k + 1 + (uo l k).length)) (cap := (posA l k + 1 + (uo l k).length)) rfl rfl rfl rfl rfl (by rw [List.length_map, zO (n := (posA l k : Int) + 1) (by omega) (by omega), zO (by omega) (by omega)]; omega) (by rw [List.length_map, zO (n := (posA l k : Int) + 1) (by omega) (by omega), zO (by omega) (by omega)]; omega) Tryz.underlying44 tS72 tZ72 rfl rfl by72 (Nat.le_refl _) (by omega) (by omega)) rfl ?_
    refine g_u (s_as_osl rfl rfl) <| zH <| zA <| zD ?_
    refine vk (fun _ : Unit => [(0, .imm (.sl 7 (l.map avA))), (1, .imm (sv k)), (5, .ptr 1005 0), (1005, .box 70 (.imm v.av)), (7, .imm (iv (posA l k : Nat))), (9, .imm (.sl 7 ((uo l k).map avA))), (10, .osl 1030 0 (posA l k + 1 + (uo l k).length) (posA l k + 1 + (uo l k).length)), (1030, .box 72 (.imm (.agg (((l.take (posA l k)).map avA) ++ (List.replicate (1 + (uo l k).length) z72)))))]) (fun _ => True) ?_ ?_
    · refine zB ?_
      refine g_u (rE rfl rfl) <| g_u (zC rfl rfl) <| g_u (zC rfl rfl) ?_
      refine g_u (s_slL_h (posA l k) rfl rfl rfl Tryz.underlying44 tS72 rfl (by rw [List.length_map]; omega)) ?_
      refine g_u (sb (el := 72) (el' := 0) (T1 := 0) rfl rfl rfl rfl rfl Tryz.underlying44 tS72 (by intro x hx; rw [List.eq_of_mem_replicate hx]; rfl) (by rw [List.length_replicate]; omega)) ?_
      refine zH <| zA ?_
      exact ⟨(), trivial, ⟨rfl, rfl, rfl, rfl, rfl, rfl, rfl, look_bagg rfl ((row1 (p := posA l k) (r := (uo l k).length) (by simp only [List.length_drop, List.length_take, List.length_map]; omega) rfl).trans (by rw [List.drop_zero, ← List.map_take])), trivial⟩⟩
    · rintro _ hc
      refine zD ?_
      refine vk (fun _ : Unit => [(0, .imm (.sl 7 (l.map avA))), (1, .imm (sv k)), (5, .ptr 1005 0), (1005, .box 70 (.imm v.av)), (7, .imm (iv (posA l k : Nat))), (9, .imm (.sl 7 ((uo l k).map avA))), (10, .osl 1030 0 (posA l k + 1 + (uo l k).length) (posA l k + 1 + (uo l k).length)), (1030, .box 72 (.imm (.agg (((l.take (posA l k)).map avA) ++ (GA.mk k v).av :: (List.replicate (uo l k).length z72)))))]) (fun _ => True) ?_ ?_
      · refine zB ?_
        refine g_u (rE rfl rfl) <| g_u (zC rfl rfl) <| g_u (zC rfl rfl) <| g_u (zG rfl rfl rfl tA70 tS70 rfl rfl) <| g_u (yj rfl tU72 us72 pl72 rfl rfl rfl rfl) ?_
        refine g_u (s_ixOsl (i := (posA l k)) rfl rfl rfl Tryz.underlying44 tS72 rfl (by omega)) ?_
        refine g_u (s_storeElt rfl rfl rfl tS72 (widths_mem (avA_w _) rfl _) rfl (by simp only [List.length_append, List.length_replicate, hML]; omega)) ?_
        refine zH <| zA ?_
        exact ⟨(), trivial, ⟨rfl, rfl, rfl, rfl, rfl, rfl, rfl, look_bagg rfl (row2 hML), trivial⟩⟩
      · rintro _ hc
        refine zD <| zB <| g_u (rE rfl rfl) <| g_u (zC rfl rfl) <| g_u (z0 rfl rfl rfl) ?_
        refine g_u (s_slOsl (lo := (posA l k + 1)) rfl rfl rfl Tryz.underlying44 tS72 (by rw [zO (by omega) (by omega)]; omega) (by omega)) ?_
        refine g_u (zC rfl rfl) ?_
        refine g_u (s_copy_at (el := 72) (o := (if (posA l k + 1 + (uo l k).length) = posA l k + 1 then 0 else posA l k + 1)) (fun _ _ => trivial) rfl rfl rfl rfl Tryz.underlying44 tS72 rfl (by split <;> simp) (rowW rfl _ _ _) (by simp only [List.length_append, List.length_cons, List.length_replicate, hML]; split <;> omega)) ?_
        refine zH <| zA ?_
        refine tb 1030 3030 7 (((l.take (posA l k)).map avA) ++ (GA.mk k v).av :: (uo l k).map avA) [(10, .slg 3030 7 (((l.take (posA l k)).map avA) ++ (GA.mk k v).av :: (uo l k).map avA))] rfl rfl rfl rfl rfl rfl rfl ⟨.inr (.inl ⟨rfl, rfl⟩), trivial⟩ ?_ ?_ (Nat.le_refl _) (by unfold maxLen; omega) ?_ ?_
        · rw [row3 hML (List.length_map _) rfl]; exact rowW2 _ _ _
        · rw [row3 hML (List.length_map _) rfl]; simp only [List.length_append, List.length_cons, hML, List.length_map]; omega
        · rw [row3 hML (List.length_map _) rfl]; exact List.take_of_length_le (by simp only [List.length_append, List.length_cons, hML, List.length_map]; omega)
        refine zD <| zB <| g_u (yW rfl rfl) <| g_u (yY rfl rfl) <| zH <| zA <| zL ?_
        exact ⟨⟨(rfl : toAV (Al.look _ _) = some _).trans (congrArg some (by (exact congrArg (AV.sl 7) (into_row k v)))), rfl⟩, trivial⟩
end Go.Proofs
namespace Go.Proofs
open Go Go.Al
set_option maxRecDepth 10000
theorem getA_into (l : List GA) (k : ByteArray) (v : GV) : ∀ p : Option ByteArray, risA p l → getA (xf l (.mk k v)) k = some v := by
  induction l with
  | nil => intro p _; simp [xf, getA, GA.key_mk, GA.val_mk]
  | cons x l ih =>
    intro p h
    rw [xf]
    split
    · rename_i hl
      have hne : x.key ≠ k := by rintro rfl; rw [GA.key_mk, xT] at hl; cases hl
      rw [getA, if_neg hne]; exact ih _ h.2
    · split <;> simp [getA, GA.key_mk, GA.val_mk]
theorem dropA_wt (ks : List ByteArray) : ∀ l : List GA, wtAs (xG ks l) ≤ wtAs l
  | [] => Nat.le_refl _
  | x :: l => by rw [xG]; have := dropA_wt ks l; split <;> simp only [wtAs] <;> omega
theorem plainA_ok {ks : List Int} {a : GA} (ho : a.ok) (hw : a.wt ≤ 1000000) : (yZ ks a).ok := by
  unfold yZ
  have ha := (GA.ok_iff a).1 ho
  have := a.wt_eq
  split
  · exact (GA.ok_iff _).2 ⟨ha.1, plainV_ok ha.2 (by omega)⟩
  · exact ho
theorem plainV_plain (v : GV) : vA (vA v) = vA v := by
  have : xA (vA v) = xA v := textB_plain v
  show GV.mk 1 (xA (vA v)) 0 0 [] [] = vA v
  rw [this]; rfl
theorem plainA_idem (ks : List Int) (a : GA) : yZ ks (yZ ks a) = yZ ks a := by
  cases h : ks.any (fun k => k == a.val.kind)
  · have e : yZ ks a = a := by unfold yZ; rw [if_neg (by rw [h]; decide)]
    rw [e, e]
  · have e : yZ ks a = .mk a.key (vA a.val) := by unfold yZ; rw [if_pos h]
    rw [e]; unfold yZ
    split
    · rw [GA.val_mk, GA.key_mk, plainV_plain]
    · rfl
end Go.Proofs
namespace Go.Proofs
open Go Go.Al
structure Rg where
  lo : Int
  hi : Int
def Rg.av (r : Rg) : AV := .agg [.v (.int .u64 r.lo), .v (.int .u64 r.hi)]
def xr (r : Rg) : Int := if r.hi > 9223372036854775807 ∨ r.lo > r.hi then 11 else 0
def begunM (r : Rg) : Int := IntKind.u64.wrap (r.lo.tdiv 1000)
def lastsM (r : Rg) : Int := IntKind.u64.wrap ((IntKind.u64.wrap (r.hi - r.lo)).tdiv 1000)
def rd (m : Int) (r : Rg) : Int := if xr r = 0 then IntKind.i64.wrap m else 0
def sD (us : Int) : Int := if us < 0 ∨ us > 9223372036854775 then 0 else IntKind.u64.wrap (IntKind.u64.wrap us * 1000)
def rZ (us : Int) : Int := if us < 0 ∨ us > 9223372036854775 then 11 else 0
def se (ns : Int) : Int := IntKind.i64.wrap (IntKind.u64.wrap (ns.tdiv 1000))
def up (b l : Int) : Prop := rZ b ≠ 0 ∨ rZ l ≠ 0 ∨ sD l > IntKind.u64.wrap (9223372036854775807 - sD b)
instance (b l : Int) : Decidable (up b l) := by unfold up; infer_instance
def ofR (b l : Int) : Rg := if up b l then ⟨0, 0⟩ else ⟨sD b, IntKind.u64.wrap (sD b + sD l)⟩
def ofC (b l : Int) : Int := if up b l then 11 else 0
def BegunM (r : Rg) : Int := rd (begunM r) r
def LastsM (r : Rg) : Int := rd (lastsM r) r
def yt (r : Rg) : Rg := ofR (BegunM r) (LastsM r)
-- the reference
def uX (us : Int) : Int := if us < 0 ∨ us > 9223372036854775 then 0 else IntKind.u64.wrap (1000 * IntKind.u64.wrap us)
def tW (s e : Int) : Bool := decide (s ≤ e) && decide (e ≤ 9223372036854775807)
def uI (s e : Int) : Int := if tW s e then se (IntKind.u64.wrap (e - s)) else 0
def uL (s e : Int) : Int := if tW s e then se s else 0
def rBad (b l : Int) : Prop := rZ b ≠ 0 ∨ rZ l ≠ 0 ∨ uX b > IntKind.u64.wrap (9223372036854775807 - uX l)
instance (b l : Int) : Decidable (rBad b l) := by unfold rBad; infer_instance
def rOfA (b l : Int) : Int := if rBad b l then 0 else uX b
def rOfB (b l : Int) : Int := if rBad b l then 0 else IntKind.u64.wrap (uX b + uX l)
def rOfC (b l : Int) : Int := if rBad b l then 11 else 0
end Go.Proofs
namespace Go.Proofs
open Go Go.Al
theorem nano_ok {us : Int} (h0 : 0 ≤ us) (h1 : us ≤ 9223372036854775) : sD us = us * 1000 ∧ uX us = us * 1000 ∧ rZ us = 0 := by
  have e1 : IntKind.u64.wrap us = us := xb h0 (by omega)
  have e2 : IntKind.u64.wrap (us * 1000) = us * 1000 := xb (by omega) (by omega)
  have e3 : IntKind.u64.wrap (1000 * us) = us * 1000 := by rw [Int.mul_comm]; exact e2
  refine ⟨?_, ?_, ?_⟩
  · rw [sD, if_neg (by omega), e1, e2]
  · rw [uX, if_neg (by omega), e1, e3]
  · rw [rZ, if_neg (by omega)]
theorem nano_bad {us : Int} (h : us < 0 ∨ us > 9223372036854775) : sD us = 0 ∧ uX us = 0 ∧ rZ us = 11 := by
  refine ⟨?_, ?_, ?_⟩
  · rw [sD, if_pos h]
  · rw [uX, if_pos h]
  · rw [rZ, if_pos h]
theorem nano_rg (us : Int) : 0 ≤ sD us ∧ sD us ≤ 9223372036854775000 := by
  by_cases h : us < 0 ∨ us > 9223372036854775
  · rw [(nano_bad h).1]; omega
  · rw [(nano_ok (us := us) (by omega) (by omega)).1]; omega
theorem t8 (s e : Int) : tW s e = true ↔ (s ≤ e ∧ e ≤ 9223372036854775807) := by simp [tW]
theorem tells1 (s e : Int) : (xr ⟨s, e⟩ == 0) = tW s e := by
  rw [Bool.eq_iff_iff, t8]
  unfold xr
  by_cases h : e > 9223372036854775807 ∨ s > e
  · rw [if_pos h]; simp; omega
  · rw [if_neg h]; simp; omega
theorem u4 {s e : Int} (h : tW s e = true) : xr ⟨s, e⟩ = 0 := by have := tells1 s e; rw [h] at this; simpa using this
theorem rf {s e : Int} (h : tW s e = false) : xr ⟨s, e⟩ = 11 := by
  have := tells1 s e; rw [h] at this
  unfold xr at this ⊢
  split
  · rfl
  · rename_i h'; rw [if_neg h'] at this; simp at this
theorem tells3 (s e : Int) : BegunM ⟨s, e⟩ = uL s e := by
  unfold BegunM rd uL se begunM
  cases h : tW s e
  · rw [rf h]; simp
  · rw [u4 h]; simp
theorem tells4 (s e : Int) : LastsM ⟨s, e⟩ = uI s e := by
  unfold LastsM rd uI se lastsM
  cases h : tW s e
  · rw [rf h]; simp
  · rw [u4 h]; simp
theorem micro_eq {n : Int} (h0 : 0 ≤ n) (h1 : n < 18446744073709551616) : se n = n / 1000 := by
  unfold se
  have e : n.tdiv 1000 = n / 1000 := Int.tdiv_eq_ediv_of_nonneg h0
  rw [e, xb (by omega) (by omega), zO (by omega) (by omega)]
theorem begun_fine {s e : Int} (h0 : 0 ≤ s) (h : tW s e = true) : uL s e = s / 1000 ∧ uI s e = (e - s) / 1000 := by
  have := (t8 s e).1 h
  unfold uL uI
  rw [h, if_pos rfl, if_pos rfl, micro_eq h0 (by omega), xb (by omega) (by omega), micro_eq (by omega) (by omega)]
  exact ⟨rfl, rfl⟩
theorem of_ok {b l : Int} (hb : 0 ≤ b) (hl : 0 ≤ l) (h : b * 1000 + l * 1000 ≤ 9223372036854775807) : ofR b l = ⟨b * 1000, b * 1000 + l * 1000⟩ ∧ ofC b l = 0 := by
  have nb := nano_ok hb (by omega)
  have nl := nano_ok hl (by omega)
  have : ¬ up b l := by
    unfold up
    rw [nb.1, nl.1, nb.2.2, nl.2.2, xb (by omega) (by omega)]
    omega
  rw [ofR, if_neg this, ofC, if_neg this, nb.1, nl.1, xb (by omega) (by omega)]
  exact ⟨rfl, rfl⟩
theorem ta {s e : Int} (h0 : 0 ≤ s) (h : tW s e = true) : yt ⟨s, e⟩ = ⟨s / 1000 * 1000, s / 1000 * 1000 + (e - s) / 1000 * 1000⟩ := by
  have hf := (t8 s e).1 h
  have := begun_fine h0 h
  unfold yt
  rw [tells3, tells4, this.1, this.2]
  exact (of_ok (by omega) (by omega) (by omega)).1
theorem whole_bad {s e : Int} (h : tW s e = false) : yt ⟨s, e⟩ = ⟨0, 0⟩ := by
  unfold yt
  rw [tells3, tells4, uL, uI, h]
  exact (of_ok (b := 0) (l := 0) (by omega) (by omega) (by omega)).1
theorem whole_facts (s e : Int) (s0 : 0 ≤ s) (e0 : 0 ≤ e) (s1 : s < 18446744073709551616) (e1 : e < 18446744073709551616) :
    (tW s e = false ∧ yt ⟨s, e⟩ = ⟨0, 0⟩) ∨ (tW s e = true ∧ ∃ A B, yt ⟨s, e⟩ = ⟨A, B⟩ ∧ xr ⟨A, B⟩ = 0 ∧ yt ⟨A, B⟩ = ⟨A, B⟩ ∧ BegunM ⟨A, B⟩ = BegunM ⟨s, e⟩ ∧ LastsM ⟨A, B⟩ = LastsM ⟨s, e⟩ ∧
      A ≤ s ∧ B ≤ e ∧ IntKind.u64.wrap (s - A) < 1000 ∧ IntKind.u64.wrap (IntKind.u64.wrap (e - s) - IntKind.u64.wrap (B - A)) < 1000) := by
  cases h : tW s e
  · exact .inl ⟨rfl, whole_bad h⟩
  · right
    have hf := (t8 s e).1 h
    have hw := ta s0 h
    refine ⟨rfl, _, _, hw, ?_⟩
    have hA : tW (s / 1000 * 1000) (s / 1000 * 1000 + (e - s) / 1000 * 1000) = true := (t8 _ _).2 (by omega)
    have hA0 : 0 ≤ s / 1000 * 1000 := by omega
    have hb := begun_fine s0 h
    have hb' := begun_fine hA0 hA
    refine ⟨u4 hA, ?_, ?_, ?_, by omega, by omega, ?_, ?_⟩
    · rw [ta hA0 hA]
      have e1 : s / 1000 * 1000 / 1000 * 1000 = s / 1000 * 1000 := by omega
      have e2 : (s / 1000 * 1000 + (e - s) / 1000 * 1000 - s / 1000 * 1000) / 1000 * 1000 = (e - s) / 1000 * 1000 := by omega
      rw [e1, e2]
    · rw [tells3, tells3, hb.1, hb'.1]; omega
    · rw [tells4, tells4, hb.2, hb'.2]; omega
    · rw [xb (by omega) (by omega)]; omega
    · rw [xb (n := e - s) (by omega) (by omega), xb (n := s / 1000 * 1000 + (e - s) / 1000 * 1000 - s / 1000 * 1000) (by omega) (by omega), xb (by omega) (by omega)]; omega
end Go.Proofs
namespace Go.Proofs
open Go Go.Al
instance : DecidableEq GV := fun a b => decidable_of_iff (rW a b = true) (vV a b)
instance : DecidableEq GA := fun a b => decidable_of_iff (sameA a b = true) (ui a b)
theorem GE.ext' {a b : GE} (h1 : a.time = b.time) (h2 : a.name = b.name) (h3 : a.attrs = b.attrs) : a = b := by cases a; cases b; simp_all
theorem GL.ext' {a b : GL} (h1 : a.trace = b.trace) (h2 : a.span = b.span) (h3 : a.state = b.state) (h4 : a.attrs = b.attrs) : a = b := by cases a; cases b; simp_all
theorem GSpan.ext' {a b : GSpan} (h1 : a.trace = b.trace) (h2 : a.id = b.id) (h3 : a.parent = b.parent) (h4 : a.state = b.state) (h5 : a.name = b.name) (h6 : a.kind = b.kind) (h7 : a.start = b.start) (h8 : a.fin = b.fin) (h9 : a.attrs = b.attrs) (h10 : a.events = b.events) (h11 : a.links = b.links) (h12 : a.code = b.code) (h13 : a.note = b.note) : a = b := by
  cases a; cases b; simp_all
theorem GScope.ext' {a b : GScope} (h1 : a.name = b.name) (h2 : a.version = b.version) (h3 : a.spans = b.spans) : a = b := by cases a; cases b; simp_all
theorem GRes.ext' {a b : GRes} (h1 : a.attrs = b.attrs) (h2 : a.scopes = b.scopes) : a = b := by cases a; cases b; simp_all
instance : DecidableEq GE := fun a b => decidable_of_iff (a.time = b.time ∧ a.name = b.name ∧ a.attrs = b.attrs) ⟨fun h => GE.ext' h.1 h.2.1 h.2.2, fun h => by rw [h]; exact ⟨rfl, rfl, rfl⟩⟩
instance : DecidableEq GL := fun a b => decidable_of_iff (a.trace = b.trace ∧ a.span = b.span ∧ a.state = b.state ∧ a.attrs = b.attrs) ⟨fun h => GL.ext' h.1 h.2.1 h.2.2.1 h.2.2.2, fun h => by rw [h]; exact ⟨rfl, rfl, rfl, rfl⟩⟩
instance : DecidableEq GSpan := fun a b => decidable_of_iff ((a.trace = b.trace ∧ a.id = b.id ∧ a.parent = b.parent ∧ a.state = b.state) ∧ (a.name = b.name ∧ a.kind = b.kind ∧ a.start = b.start ∧ a.fin = b.fin) ∧ (a.attrs = b.attrs ∧ a.events = b.events ∧ a.links = b.links) ∧ a.code = b.code ∧ a.note = b.note)
  ⟨fun h => GSpan.ext' h.1.1 h.1.2.1 h.1.2.2.1 h.1.2.2.2 h.2.1.1 h.2.1.2.1 h.2.1.2.2.1 h.2.1.2.2.2 h.2.2.1.1 h.2.2.1.2.1 h.2.2.1.2.2 h.2.2.2.1 h.2.2.2.2, fun h => by rw [h]; exact ⟨⟨rfl, rfl, rfl, rfl⟩, ⟨rfl, rfl, rfl, rfl⟩, ⟨rfl, rfl, rfl⟩, rfl, rfl⟩⟩
instance : DecidableEq GScope := fun a b => decidable_of_iff (a.name = b.name ∧ a.version = b.version ∧ a.spans = b.spans) ⟨fun h => GScope.ext' h.1 h.2.1 h.2.2, fun h => by rw [h]; exact ⟨rfl, rfl, rfl⟩⟩
instance : DecidableEq GRes := fun a b => decidable_of_iff (a.attrs = b.attrs ∧ a.scopes = b.scopes) ⟨fun h => GRes.ext' h.1 h.2, fun h => by rw [h]; exact ⟨rfl, rfl⟩⟩
def sK (ns : Int) : Int := sD (se ns)
def nJ : List Int := [0, 6, 7]
def xx (but : List ByteArray) (l : List GA) : List GA := xG but (l.map (yZ nJ))
def tg : ByteArray := ⟨#[101, 118, 101, 110, 116]⟩
def k_kind : ByteArray := ⟨#[115, 112, 97, 110, 46, 107, 105, 110, 100]⟩
def k_error : ByteArray := ⟨#[101, 114, 114, 111, 114]⟩
def k_code : ByteArray := ⟨#[111, 116, 101, 108, 46, 115, 116, 97, 116, 117, 115, 95, 99, 111, 100, 101]⟩
def k_note : ByteArray := ⟨#[111, 116, 101, 108, 46, 115, 116, 97, 116, 117, 115, 95, 100, 101, 115, 99, 114, 105, 112, 116, 105, 111, 110]⟩
def k4 : List ByteArray := [k_kind, k_error, k_code, k_note]
def njE (e : GE) : GE := ⟨sK e.time, e.name, xx [tg] e.attrs⟩
def njL (x : GL) : GL := ⟨x.trace, x.span, ⟨#[]⟩, []⟩
def njS (s : GSpan) : GSpan := { s with state := ⟨#[]⟩, start := (yt ⟨s.start, s.fin⟩).lo, fin := (yt ⟨s.start, s.fin⟩).hi, attrs := xx k4 s.attrs, events := s.events.map njE, links := s.links.map njL }
def tv (t : ByteArray) : GV := .mk 1 t 0 0 [] []
def yx (l : List GA) (t : ByteArray) : List GA := if t = ⟨#[]⟩ then xG [skey] l else xf l (.mk skey (tv t))
def zr : List GScope → List GSpan
  | [] => []
  | c :: cs => c.spans ++ zr cs
def wm (l : List GSpan) : List GScope := if l.length > 0 then [⟨⟨#[]⟩, ⟨#[]⟩, l⟩] else []
def njR (r : GRes) : GRes := ⟨yx (xx [] r.attrs) (zu r), wm ((zr r.scopes).map njS)⟩
def njB (b : List GRes) : List GRes := b.map njR
theorem vu : ∀ a b : List GScope, zr (a ++ b) = zr a ++ zr b
  | [], b => rfl
  | x :: a, b => by rw [List.cons_append, zr, zr, vu a b, List.append_assoc]
theorem ux {l : List GScope} {i : Nat} (h : i < l.length) : zr (l.take (i + 1)) = zr (l.take i) ++ (nthC l i).spans := by
  rw [yO (y6 (d := gc0) h), vu]; simp [zr, nthC]
theorem vH : ∀ {l : List GScope} {s : GSpan}, s ∈ zr l → ∃ c ∈ l, s ∈ c.spans
  | x :: l, s, h => by
    rw [zr] at h
    rcases List.mem_append.1 h with h | h
    · exact ⟨x, List.mem_cons_self, h⟩
    · obtain ⟨c, h1, h2⟩ := vH h; exact ⟨c, List.mem_cons_of_mem _ h1, h2⟩
theorem ti : ∀ l : List GScope, (zr l).length ≤ zg GScope.wt l
  | [] => Nat.zero_le _
  | c :: l => by
    rw [zr, List.length_append, zg]
    have h1 := ti l
    have h2 := yX GSpan.wt (fun e => by unfold GSpan.wt; omega) c.spans
    have h3 : c.wt = 1 + c.name.size + c.version.size + zg GSpan.wt c.spans := rfl
    omega
theorem wg (ks : List Int) (a : GA) : (yZ ks a).key = a.key := by unfold yZ; split <;> rfl
theorem uT (ks : List Int) (but : List ByteArray) : ∀ l : List GA, xG but (l.map (yZ ks)) = (xG but l).map (yZ ks)
  | [] => rfl
  | x :: l => by
    simp only [List.map_cons, xG, wg, uT ks but l]
    split <;> simp
theorem wB {ks : List ByteArray} : ∀ {l : List GA} {x : GA}, x ∈ xG ks l → x ∈ l ∧ ks.any (fun k => decide (k = x.key)) = false
  | y :: l, x, h => by
    rw [xG] at h
    split at h
    · exact ⟨List.mem_cons_of_mem _ (wB h).1, (wB h).2⟩
    · rename_i hk
      rcases List.mem_cons.1 h with rfl | h
      · exact ⟨List.mem_cons_self, by cases hb : ks.any (fun k => decide (k = x.key)) <;> first | rfl | exact absurd hb hk⟩
      · exact ⟨List.mem_cons_of_mem _ (wB h).1, (wB h).2⟩
theorem dropA_nil : ∀ l : List GA, xG [] l = l
  | [] => rfl
  | x :: l => by rw [xG, if_neg (by simp), dropA_nil l]
theorem tJ (ks : List ByteArray) : ∀ l : List GA, xG ks (xG ks l) = xG ks l
  | [] => rfl
  | x :: l => by
    by_cases h : ks.any (fun k => decide (k = x.key)) = true
    · rw [xG, if_pos h, tJ ks l]
    · rw [xG, if_neg h, xG, if_neg h, tJ ks l]
theorem jN {l : List GA} {p q : ByteArray} (h : risA (some p) l) (hq : ltB q p = true) : risA (some q) l := by
  cases l with
  | nil => trivial
  | cons x l => exact ⟨tU hq h.1, h.2⟩
theorem sT (ks : List ByteArray) : ∀ {l : List GA} {p : Option ByteArray}, risA p l → risA p (xG ks l)
  | [], _, _ => trivial
  | x :: l, p, h => by
    rw [xG]
    split
    · have h2 := sT ks h.2
      cases p with
      | none => exact risA_none h2
      | some p => exact jN h2 h.1
    · exact ⟨h.1, sT ks h.2⟩
theorem ris_plain (ks : List Int) : ∀ {l : List GA} {p : Option ByteArray}, risA p l → risA p (l.map (yZ ks))
  | [], _, _ => trivial
  | x :: l, p, h => ⟨by rw [wg]; exact h.1, by rw [wg]; exact ris_plain ks h.2⟩
theorem ris_kept (but : List ByteArray) {l : List GA} (h : risA none l) : risA none (xx but l) := sT _ (ris_plain _ h)
theorem dropA_none {k : ByteArray} : ∀ {l : List GA}, (∀ x ∈ l, x.key ≠ k) → xG [k] l = l
  | [], _ => rfl
  | x :: l, h => by
    rw [xG, if_neg, dropA_none fun y hy => h y (List.mem_cons_of_mem _ hy)]
    have := h x List.mem_cons_self
    simp [Ne.symm this]
theorem ris_ne {l : List GA} {p : ByteArray} (h : risA (some p) l) : ∀ x ∈ l, x.key ≠ p := fun x hx e => by
  have := risA_mem h x hx
  rw [e, xT] at this; cases this
theorem intoA_first {l : List GA} {k : ByteArray} {v : GV} (h : risA (some k) l) : xf l (.mk k v) = GA.mk k v :: l := by
  cases l with
  | nil => rfl
  | cons x l =>
    have h1 := h.1
    rw [xf, if_neg (by rw [GA.key_mk, ltB_asymm h1]; decide), if_neg (by rw [GA.key_mk]; rintro e; exact ris_ne h x List.mem_cons_self e)]
theorem into_drop {k : ByteArray} {v : GV} : ∀ {l : List GA} {p : Option ByteArray}, risA p l → xf (xG [k] l) (.mk k v) = xf l (.mk k v)
  | [], _, _ => rfl
  | x :: l, p, h => by
    by_cases he : x.key = k
    · rw [xG, if_pos (by simp [he]), dropA_none (he ▸ ris_ne h.2), intoA_first (he ▸ h.2), xf, if_neg (by rw [GA.key_mk, he, xT]; decide), if_pos (by rw [GA.key_mk]; exact he)]
    · rw [xG, if_neg (by simp [Ne.symm he]), xf, xf]
      split
      · rw [into_drop h.2]
      · rename_i hl
        rw [if_neg (by rw [GA.key_mk]; exact he), if_neg (by rw [GA.key_mk]; exact he)]
        have hk : ltB k x.key = true := by
          cases hb : ltB k x.key
          · exact absurd (ltB_tri (by simpa [GA.key_mk] using hl) hb) he
          · rfl
        rw [dropA_none (ris_ne (jN h.2 hk))]
theorem ris_named {l : List GA} (h : risA none l) (t : ByteArray) : risA none (yx l t) := by
  unfold yx; split
  · exact sT _ h
  · exact ris_intoA _ _ none h trivial
theorem keptA_wt (but : List ByteArray) (l : List GA) : wtAs (xx but l) ≤ 151 * wtAs l := Nat.le_trans (dropA_wt' but _) (plainAs_wt' nJ l)
where
  dropA_wt' (ks : List ByteArray) : ∀ l : List GA, wtAs (xG ks l) ≤ wtAs l
    | [] => Nat.le_refl _
    | x :: l => by rw [xG]; have := dropA_wt' ks l; split <;> simp only [wtAs] <;> omega
  plainA_wt' (ks : List Int) (a : GA) : (yZ ks a).wt ≤ 151 * a.wt := by
    unfold yZ
    have h1 := a.wt_eq
    have h2 := a.val.wt_pos
    split
    · have h3 : (GA.mk a.key (vA a.val)).wt = a.key.size + (vA a.val).wt := GA.wt_eq _
      have h4 : (vA a.val).wt = 1 + (xA a.val).size := by rw [GV.wt_eq]; simp [vA, GV.list, GV.map, GV.text, wtVs, wtAs]
      have h5 : (xA a.val).size ≤ 150 * a.val.wt := by rw [xA, ze]; exact u5 _
      omega
    · omega
  plainAs_wt' (ks : List Int) : ∀ l : List GA, wtAs (l.map (yZ ks)) ≤ 151 * wtAs l
    | [] => by simp [wtAs]
    | x :: l => by simp only [List.map_cons, wtAs]; have := plainA_wt' ks x; have := plainAs_wt' ks l; omega
def plC (i : Nat) : Nat → List GScope → List (Nat × Nat × Nat)
  | _, [] => []
  | k, c :: cs => ((List.range c.spans.length).map fun m => (i, k, m)) ++ plC i (k + 1) cs
def plR : Nat → List GRes → List (Nat × Nat × Nat)
  | _, [] => []
  | i, r :: rs => plC i 0 r.scopes ++ plR (i + 1) rs
def plav (p : Nat × Nat × Nat) : AV := .agg [iv (p.1 : Int), iv (p.2.1 : Int), iv (p.2.2 : Int)]
theorem plC_snoc (i : Nat) (c : GScope) : ∀ (k : Nat) (l : List GScope), plC i k (l ++ [c]) = plC i k l ++ (List.range c.spans.length).map fun m => (i, k + l.length, m)
  | k, [] => by simp [plC]
  | k, x :: l => by
    simp only [List.cons_append, plC, plC_snoc i c (k + 1) l, List.append_assoc, List.length_cons]
    rw [show k + 1 + l.length = k + (l.length + 1) by omega]
theorem plR_snoc (r : GRes) : ∀ (i : Nat) (l : List GRes), plR i (l ++ [r]) = plR i l ++ plC (i + l.length) 0 r.scopes
  | i, [] => by simp [plR]
  | i, x :: l => by
    simp only [List.cons_append, plR, plR_snoc r (i + 1) l, List.append_assoc, List.length_cons]
    rw [show i + 1 + l.length = i + (l.length + 1) by omega]
theorem plC_take {i : Nat} {l : List GScope} {k : Nat} (h : k < l.length) : plC i 0 (l.take (k + 1)) = plC i 0 (l.take k) ++ (List.range (nthC l k).spans.length).map fun m => (i, k, m) := by
  rw [yO (y6 (d := gc0) h), plC_snoc, List.length_take, Nat.min_eq_left (by omega), Nat.zero_add]; rfl
theorem plR_take {l : List GRes} {i : Nat} (h : i < l.length) : plR 0 (l.take (i + 1)) = plR 0 (l.take i) ++ plC i 0 (nthR l i).scopes := by
  rw [yO (y6 (d := gr0) h), plR_snoc, List.length_take, Nat.min_eq_left (by omega), Nat.zero_add]; rfl
theorem range_snoc (f : Nat → Nat × Nat × Nat) (m : Nat) : (List.range (m + 1)).map f = (List.range m).map f ++ [f m] := by rw [List.range_succ, List.map_append]; rfl
theorem plC_len (i : Nat) : ∀ (k : Nat) (l : List GScope), (plC i k l).length = (zr l).length
  | _, [] => rfl
  | k, c :: l => by rw [plC, zr, List.length_append, List.length_append, plC_len i (k + 1) l]; simp
theorem plC_spans (i : Nat) : ∀ (l m : List GScope), (plC i m.length l).map (fun p => nthS (nthC (m ++ l) p.2.1).spans p.2.2) = zr l
  | [], m => rfl
  | c :: l, m => by
    rw [plC, List.map_append, zr]
    congr 1
    · rw [List.map_map]
      refine List.ext_getElem (by simp) fun j h1 h2 => ?_
      simp only [List.getElem_map, List.getElem_range, Function.comp]
      have : nthC (m ++ c :: l) m.length = c := by simp [nthC, nth]
      rw [this]
      simp only [nthS, nth]
      rw [List.getD_eq_getElem?_getD, List.getElem?_eq_getElem h2]; rfl
    · have := plC_spans i l (m ++ [c])
      simp only [List.length_append, List.length_cons, List.length_nil, List.append_assoc, List.cons_append, List.nil_append] at this
      exact this
theorem plC_mem {i : Nat} : ∀ {l m : List GScope} {p : Nat × Nat × Nat}, p ∈ plC i m.length l → p.2.1 < (m ++ l).length ∧ p.2.2 < (nthC (m ++ l) p.2.1).spans.length
  | c :: l, m, p, h => by
    rw [plC] at h
    rcases List.mem_append.1 h with h | h
    · obtain ⟨j, hj, rfl⟩ := List.mem_map.1 h
      have : nthC (m ++ c :: l) m.length = c := by simp [nthC, nth]
      exact ⟨by simp, by show j < (nthC (m ++ c :: l) m.length).spans.length; rw [this]; exact List.mem_range.1 hj⟩
    · have := plC_mem (l := l) (m := m ++ [c]) (p := p) (by simpa using h)
      simpa using this
end Go.Proofs
