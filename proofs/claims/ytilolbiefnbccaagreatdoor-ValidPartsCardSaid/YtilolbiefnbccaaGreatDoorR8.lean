/- Texts that the proofs of this claim share, part 8: the abstract logic, plain Lean on values and batches, and walks. No condition but those typed in each lemma. -/
import Derived.Test.YtilolbiefnbccaaGreatDoorR7
set_option linter.unusedSimpArgs false
set_option linter.unusedVariables false
set_option maxHeartbeats 400000
namespace Go.Proofs
open Go Go.Al
set_option maxRecDepth 10000
set_option maxHeartbeats 16000000 in
theorem validParts_c (b : List GRes) (p : Int × Int × Int) (ho : okB b) : zj Tryz.prog Γ0 6 [yp b, .agg [iv p.1, iv p.2.1, iv p.2.2]] [bv true] := by
  obtain ⟨x, y, z⟩ := p
  dsimp only
  refine zb Tryz.func6 rfl Tryz.ntmps6 (by kernel_rfl) rfl fun w0 I0 G0 => ?_
  refine zD <| zB <| g_uG (zi 1002 rfl rfl rfl rfl) rfl <| g_uG (zi 1003 rfl rfl rfl rfl) rfl <| g_u (zE rfl rfl) <| zF <| zA <| zD <| zD <| zB <| g_u (zH rfl rfl rfl tA24 tS24 rfl rfl) ?_
  refine g_u (zT (leftR_c _ _ (by first | decide | omega)) rfl rfl) ?_
  refine g_u (yU rfl rfl rfl) <| g_u (zC rfl rfl) <| zz (t := 14) rfl ?_
  rintro (hb1 | hb1)
  · rw [hb1]
    have z1 : leftR b 8000 < 0 := of_decide_eq_true hb1
    refine zI rfl rfl rfl <| zI rfl rfl rfl <| zI rfl rfl rfl <| g_u (zX rfl rfl rfl) <| g_u (zC rfl rfl) <| zI rfl rfl rfl <| zI rfl rfl rfl <| zI rfl rfl rfl <| g_u (zX rfl rfl rfl) <| g_u (zC rfl rfl) <| zI rfl rfl rfl <| zI rfl rfl rfl <| zI rfl rfl rfl <| zI rfl rfl rfl <| zI rfl rfl rfl <| zI rfl rfl rfl <| g_u (zX rfl rfl rfl) <| zF <| zA <| zk rfl <| zD <| zB <| g_u (zT (vA) rfl rfl) <| g_u (zE rfl rfl) <| zF <| zA <| zJ <| zK ?_
    exact ⟨⟨(rfl : toAV (Al.look _ _) = some _).trans (congrArg some (by rfl)), rfl⟩, trivial⟩
  · rw [hb1]
    have z1 : ¬ leftR b 8000 < 0 := of_decide_eq_false hb1
    have hwb := leftR_le z1
    have qw : wtB b = zr GRes.wt b := rfl
    have hcb := wt_canonB b
    have ql := yJ GRes.wt (fun e => by unfold GRes.wt; omega) b
    refine zP rfl rfl (zH rfl rfl rfl tA24 tS24 rfl rfl) ?_
    refine zP rfl rfl (zT (vis_c b ho (by omega)) rfl rfl) ?_
    refine zP rfl rfl (s_not rfl rfl) <| g_u (zg rfl rfl rfl) <| g_u (zC rfl rfl) <| zz (t := 19) rfl ?_
    rintro (hb2 | hb2)
    · rw [hb2]
      refine zI rfl rfl rfl <| zI rfl rfl rfl <| zI rfl rfl rfl <| g_u (zX rfl rfl rfl) <| g_u (zC rfl rfl) <| zI rfl rfl rfl <| zI rfl rfl rfl <| zI rfl rfl rfl <| zI rfl rfl rfl <| zI rfl rfl rfl <| zI rfl rfl rfl <| g_u (zX rfl rfl rfl) <| zF <| zA <| zk rfl <| zD <| zB <| g_u (zT (vA) rfl rfl) <| g_u (zE rfl rfl) <| zF <| zA <| zJ <| zK ?_
      exact ⟨⟨(rfl : toAV (Al.look _ _) = some _).trans (congrArg some (by rfl)), rfl⟩, trivial⟩
    · rw [hb2]
      have q1 : (chkF b).1 = 0 := by have e := hb2; simpa using e
      refine zP rfl rfl (zG rfl rfl fa67_0 rfl) <| zP rfl rfl (zH rfl rfl rfl tA3 tS3 rfl rfl) <| zP rfl rfl (yU rfl rfl rfl) <| g_u (zg rfl rfl rfl) <| g_u (zC rfl rfl) <| zz (t := 24) rfl ?_
      rintro (hb3 | hb3)
      · rw [hb3]
        refine zI rfl rfl rfl <| zI rfl rfl rfl <| zI rfl rfl rfl <| zI rfl rfl rfl <| zI rfl rfl rfl <| zI rfl rfl rfl <| g_u (zX rfl rfl rfl) <| zF <| zA <| zk rfl <| zD <| zB <| g_u (zT (vA) rfl rfl) <| g_u (zE rfl rfl) <| zF <| zA <| zJ <| zK ?_
        exact ⟨⟨(rfl : toAV (Al.look _ _) = some _).trans (congrArg some (by rfl)), rfl⟩, trivial⟩
      · rw [hb3]
        have hx0 : 0 ≤ x := by have e := of_decide_eq_false hb3; omega
        refine zP rfl rfl (zG rfl rfl fa67_0 rfl) <| zP rfl rfl (zH rfl rfl rfl tA3 tS3 rfl rfl) <| zP rfl rfl (zG rfl rfl fa24_0 rfl) <| zP rfl rfl (zH rfl rfl rfl tA22 tS22 rfl rfl) <| zP rfl rfl (zx rfl rfl Tryz.underlying22) <| zP rfl rfl (s_geI rfl rfl rfl) <| g_u (zg rfl rfl rfl) <| zF <| zA ?_
        refine zN rfl (fun hb4 => ?_) (fun hb4 => ?_)
        · refine zD ?_
          refine zB <| g_u (zT (vA) rfl rfl) <| g_u (zE rfl rfl) <| zF <| zA <| zJ <| zK ?_
          exact ⟨⟨(rfl : toAV (Al.look _ _) = some _).trans (congrArg some (by rfl)), rfl⟩, trivial⟩
        · have hx1 : x < b.length := by have e := of_decide_eq_false hb4; (try simp only [List.length_map] at e); omega
          obtain ⟨X, rfl⟩ : ∃ n : Nat, x = n := ⟨x.toNat, by omega⟩
          have hx : X < b.length := by omega
          have hro := ho _ (vC hx)
          have hrs := (chkF_iff.1 q1).2.1 _ (vC hx)
          have hrw := yM GRes.wt (vC hx)
          have hrl : (nthR b X).scopes.length ≤ 16 := hrs.2.1
          have rw_ : (nthR b X).wt = 1 + wtAs (nthR b X).attrs + zr GScope.wt (nthR b X).scopes := rfl
          refine zO <| zA <| zD <| yw mixed <| g_u (zG rfl rfl fa67_0 rfl) <| g_u (zH rfl rfl rfl tA3 tS3 rfl rfl) <| g_u (zG rfl rfl fa24_0 rfl) <| g_u (zH rfl rfl rfl tA22 tS22 rfl rfl) <| g_u (zG rfl rfl fa67_0 rfl) <| g_u (zH rfl rfl rfl tA3 tS3 rfl rfl) ?_
          refine g_u (za rfl rfl rfl Tryz.underlying22 tS58 (by omega) (ixR hx)) ?_
          refine g_u (zW rfl rfl tA58 tS58 rfl rfl) <| g_uG (zo 1006 rfl rfl rfl tZ58) rfl <| g_u (zE rfl rfl) <| g_u (zL rfl rfl rfl tS58 rfl rfl) ?_
          refine zF ⟨by kernel_rfl, ?_⟩
          refine zA <| zD <| yw mixed <| g_uG (s_build0 1041 3041 rfl rfl rfl rfl rfl rfl Tryz.underlying22 tS58) rfl <| g_u (zG rfl rfl fa24_0 rfl) <| g_u (zH rfl rfl rfl tA22 tS22 rfl rfl) <| g_u (zC rfl rfl) ?_
          refine g_u (s_slL_h X rfl rfl rfl Tryz.underlying22 tS58 rfl (by rw [List.length_map]; omega)) ?_
          refine g_u (yW rfl rfl rfl rfl rfl Tryz.underlying22 Tryz.underlying22 tS58 zv58 rfl (by decide) by58 (by (try dsimp only); simp only [List.length_append, List.length_cons, List.length_nil, List.length_map, List.length_take, List.length_drop]; omega) (by (try dsimp only); simp only [List.length_append, List.length_cons, List.length_nil, List.length_map, List.length_take, List.length_drop]; omega)) ?_
          refine g_u (zG rfl rfl fa24_0 rfl) <| g_u (zH rfl rfl rfl tA22 tS22 rfl rfl) <| g_u (zC rfl rfl) <| g_u (yB rfl rfl rfl) ?_
          refine g_u (s_slL_l (X + 1) rfl rfl rfl Tryz.underlying22 tS58 (by rw [zZ (by omega) (by omega)]; omega) (by rw [List.length_map]; omega)) ?_
          refine g_u (yW rfl rfl rfl rfl rfl Tryz.underlying22 Tryz.underlying22 tS58 zv58 rfl (by decide) by58 (by (try dsimp only); simp only [List.length_append, List.length_cons, List.length_nil, List.length_map, List.length_take, List.length_drop]; omega) (by (try dsimp only); simp only [List.length_append, List.length_cons, List.length_nil, List.length_map, List.length_take, List.length_drop]; omega)) ?_
          refine g_u (y9 rfl tU24 us24 pl24 rfl rfl rfl rfl) <| g_uG (zo 1007 rfl rfl rfl tZ24) rfl <| g_u (zL rfl rfl rfl tS24 rfl rfl) ?_
          refine zF ⟨by kernel_rfl, ?_⟩
          refine zA <| zD <| zD ?_
          refine aw_upB 1007 (yp (rm b X)) rfl rfl (by unfold yp; rw [← rm_map GRes.av b X _ rfl]; exact Up.refl _) ?_
          refine yw mixed <| g_u (zH rfl rfl rfl tA24 tS24 rfl rfl) ?_
          refine g_u (zT (vis_c (rm b X) (rm_ok ho) (by have := rm_wtB (b := b) (i := X); omega)) rfl rfl) ?_
          refine g_u (s_not rfl rfl) <| g_u (zC rfl rfl) <| zz (t := 57) rfl ?_
          rintro (hb5 | hb5)
          · exact killF hb5 (by rw [rm_chk q1]; rfl)
          · rw [hb5]
            refine zP rfl rfl (zH rfl rfl rfl tA24 tS24 rfl rfl) ?_
            refine zP rfl rfl (zT (pcanonB_c _ (by omega)) rfl rfl) ?_
            refine zP rfl rfl (zH rfl rfl rfl tA24 tS24 rfl rfl) ?_
            refine zP rfl rfl (zT (psameB_c _ _ (by omega)) rfl rfl) ?_
            refine zP rfl rfl (s_not rfl rfl) <| g_u (zg rfl rfl rfl) ?_
            refine zF ⟨by kernel_rfl, ?_⟩
            refine zA ?_
            refine zN rfl (fun hb6 => ?_) (fun hb6 => ?_)
            · exact killF hb6 (by rw [decide_eq_true (chk_canon q1)]; rfl)
            · refine zO ?_
              refine zA <| zD <| zD <| zB <| g_u (zG rfl rfl fa67_1 rfl) <| g_u (zH rfl rfl rfl tA3 tS3 rfl rfl) <| g_u (yU rfl rfl rfl) <| g_u (zC rfl rfl) <| zz (t := 67) rfl ?_
              rintro (hb7 | hb7)
              · rw [hb7]
                refine zI rfl rfl rfl <| zI rfl rfl rfl <| zI rfl rfl rfl <| zI rfl rfl rfl <| zI rfl rfl rfl <| zI rfl rfl rfl <| g_u (zX rfl rfl rfl) <| zF <| zA <| zk rfl <| zD <| zB <| g_u (zT (vA) rfl rfl) <| g_u (zE rfl rfl) <| zF <| zA <| zJ <| zK ?_
                exact ⟨⟨(rfl : toAV (Al.look _ _) = some _).trans (congrArg some (by rfl)), rfl⟩, trivial⟩
              · rw [hb7]
                have hy0 : 0 ≤ y := by have e := of_decide_eq_false hb7; omega
                refine zP rfl rfl (zG rfl rfl fa67_1 rfl) <| zP rfl rfl (zH rfl rfl rfl tA3 tS3 rfl rfl) <| zP rfl rfl (zG rfl rfl wJ rfl) <| zP rfl rfl (zH rfl rfl rfl tA56 tS56 rfl rfl) <| zP rfl rfl (zx rfl rfl Tryz.underlying56) <| zP rfl rfl (s_geI rfl rfl rfl) <| g_u (zg rfl rfl rfl) <| zF <| zA ?_
                refine zN rfl (fun hb8 => ?_) (fun hb8 => ?_)
                · refine zD ?_
                  refine zB <| g_u (zT (vA) rfl rfl) <| g_u (zE rfl rfl) <| zF <| zA <| zJ <| zK ?_
                  exact ⟨⟨(rfl : toAV (Al.look _ _) = some _).trans (congrArg some (by rfl)), rfl⟩, trivial⟩
                · have hy1 : y < (nthR b X).scopes.length := by have e := of_decide_eq_false hb8; (try simp only [List.length_map] at e); omega
                  obtain ⟨Y, rfl⟩ : ∃ n : Nat, y = n := ⟨y.toNat, by omega⟩
                  have hy : Y < (nthR b X).scopes.length := by omega
                  have q2 : (chkF [rmC (nthR b X) Y]).1 = 0 := one_chk q1 (vC hx) (rmC_rs hrs) rmC_sp rmC_W
                  have w2 := rmC_wt (r := (nthR b X)) (j := Y)
                  have hcw := yM GScope.wt (nthC_mem hy)
                  have cl := yJ GSpan.wt (fun e => by unfold GSpan.wt; omega) (nthC (nthR b X).scopes Y).spans
                  have cw : (nthC (nthR b X).scopes Y).wt = 1 + (nthC (nthR b X).scopes Y).name.size + (nthC (nthR b X).scopes Y).version.size + zr GSpan.wt (nthC (nthR b X).scopes Y).spans := rfl
                  have rl : (rmC (nthR b X) Y).scopes.length ≤ (nthR b X).scopes.length := rm_len (nthR b X).scopes Y
                  refine zO <| zA <| zD <| yw mixed <| g_u (zG rfl rfl fa58_0 rfl) <| g_u (zH rfl rfl rfl tA46 tS46 rfl rfl) <| g_uG (s_build0 1078 3078 rfl rfl rfl rfl rfl rfl Tryz.underlying56 tS55) rfl <| g_u (zG rfl rfl wJ rfl) <| g_u (zH rfl rfl rfl tA56 tS56 rfl rfl) <| g_u (zG rfl rfl fa67_1 rfl) <| g_u (zH rfl rfl rfl tA3 tS3 rfl rfl) ?_
                  refine g_u (s_slL_h Y rfl rfl rfl Tryz.underlying56 tS55 rfl (by rw [List.length_map]; omega)) ?_
                  refine g_u (yW rfl rfl rfl rfl rfl Tryz.underlying56 Tryz.underlying56 tS55 zv55 rfl (by decide) by55 (by (try dsimp only); simp only [List.length_append, List.length_cons, List.length_nil, List.length_map, List.length_take, List.length_drop]; omega) (by (try dsimp only); simp only [List.length_append, List.length_cons, List.length_nil, List.length_map, List.length_take, List.length_drop]; omega)) ?_
                  refine g_u (zG rfl rfl wJ rfl) <| g_u (zH rfl rfl rfl tA56 tS56 rfl rfl) <| g_u (zG rfl rfl fa67_1 rfl) <| g_u (zH rfl rfl rfl tA3 tS3 rfl rfl) <| g_u (yB rfl rfl rfl) ?_
                  refine g_u (s_slL_l (Y + 1) rfl rfl rfl Tryz.underlying56 tS55 (by rw [zZ (by omega) (by omega)]; omega) (by rw [List.length_map]; omega)) ?_
                  refine g_u (yW rfl rfl rfl rfl rfl Tryz.underlying56 Tryz.underlying56 tS55 zv55 rfl (by decide) by55 (by (try dsimp only); simp only [List.length_append, List.length_cons, List.length_nil, List.length_map, List.length_take, List.length_drop]; omega) (by (try dsimp only); simp only [List.length_append, List.length_cons, List.length_nil, List.length_map, List.length_take, List.length_drop]; omega)) ?_
                  refine g_u (y9 rfl tU58 us58 pl58 rfl rfl rfl rfl) <| g_uG (zo 1008 rfl rfl rfl tZ58) rfl <| g_u (zL rfl rfl rfl tS58 rfl rfl) ?_
                  refine zF ⟨by kernel_rfl, ?_⟩
                  refine zA <| zD <| zD ?_
                  refine aw_upB 1008 (rmC (nthR b X) Y).av rfl rfl (by show Up _ (AV.agg [.sl 7 _, .sl 3 ((rm (nthR b X).scopes Y).map GScope.av)]); rw [← rm_map GScope.av _ Y _ rfl]; exact Up.refl _) ?_
                  refine zB <| g_u (zH rfl rfl rfl tA58 tS58 rfl rfl) <| g_u (zu (X0 := z58) rfl Tryz.underlying22 tS58 tZ58 rfl rfl rfl rfl rfl rfl rfl rfl) <| g_u (y9 rfl tU24 us24 pl24 rfl rfl rfl rfl) ?_
                  refine g_u (zT (vis_c [rmC (nthR b X) Y] (one_ok (rmC_ok hro)) (by show (rmC (nthR b X) Y).wt + 0 ≤ 60000; omega)) rfl rfl) ?_
                  refine g_u (s_not rfl rfl) <| zF <| zA ?_
                  refine zN rfl (fun hb9 => ?_) (fun hb9 => ?_)
                  · exact killF hb9 (by rw [q2]; rfl)
                  · refine zO ?_
                    refine zA <| zD <| zB <| g_u (zG rfl rfl wJ rfl) <| g_u (zH rfl rfl rfl tA56 tS56 rfl rfl) <| g_u (zG rfl rfl fa67_1 rfl) <| g_u (zH rfl rfl rfl tA3 tS3 rfl rfl) ?_
                    refine g_u (za rfl rfl rfl Tryz.underlying56 tS55 (by omega) (ixC hy)) ?_
                    refine g_u (zW rfl rfl tA55 tS55 rfl rfl) <| g_uG (zo 1009 rfl rfl rfl tZ55) rfl <| g_u (zL rfl rfl rfl tS55 rfl rfl) <| zF <| zA <| zD <| zD <| zB <| g_u (zG rfl rfl fa67_2 rfl) <| g_u (zH rfl rfl rfl tA3 tS3 rfl rfl) <| g_u (yU rfl rfl rfl) <| g_u (zC rfl rfl) <| zz (t := 107) rfl ?_
                    rintro (hb10 | hb10)
                    · rw [hb10]
                      refine zI rfl rfl rfl <| zI rfl rfl rfl <| zI rfl rfl rfl <| zI rfl rfl rfl <| zI rfl rfl rfl <| zI rfl rfl rfl <| g_u (zX rfl rfl rfl) <| zF <| zA <| zk rfl <| zD <| zB <| g_u (zT (vA) rfl rfl) <| g_u (zE rfl rfl) <| zF <| zA <| zJ <| zK ?_
                      exact ⟨⟨(rfl : toAV (Al.look _ _) = some _).trans (congrArg some (by rfl)), rfl⟩, trivial⟩
                    · rw [hb10]
                      have hz0 : 0 ≤ z := by have e := of_decide_eq_false hb10; omega
                      refine zP rfl rfl (zG rfl rfl fa67_2 rfl) <| zP rfl rfl (zH rfl rfl rfl tA3 tS3 rfl rfl) <| zP rfl rfl (zG rfl rfl fa55_2 rfl) <| zP rfl rfl (zH rfl rfl rfl tA53 tS53 rfl rfl) <| zP rfl rfl (zx rfl rfl Tryz.underlying53) <| zP rfl rfl (s_geI rfl rfl rfl) <| g_u (zg rfl rfl rfl) <| zF <| zA ?_
                      refine zN rfl (fun hb11 => ?_) (fun hb11 => ?_)
                      · refine zD ?_
                        refine zB <| g_u (zT (vA) rfl rfl) <| g_u (zE rfl rfl) <| zF <| zA <| zJ <| zK ?_
                        exact ⟨⟨(rfl : toAV (Al.look _ _) = some _).trans (congrArg some (by rfl)), rfl⟩, trivial⟩
                      · have hz1 : z < (nthC (nthR b X).scopes Y).spans.length := by have e := of_decide_eq_false hb11; (try simp only [List.length_map] at e); omega
                        obtain ⟨Z, rfl⟩ : ∃ n : Nat, z = n := ⟨z.toNat, by omega⟩
                        have hz : Z < (nthC (nthR b X).scopes Y).spans.length := by omega
                        have q3 : (chkF [rmS (nthR b X) Y Z]).1 = 0 := one_chk q1 (vC hx) (rmS_rs hrs hy) (rmS_sp hy) (rmS_W hy)
                        have w3 := rmS_wt (r := (nthR b X)) (j := Y) (k := Z) hy
                        refine zO <| zA <| zD <| yw mixed <| g_uG (s_build0 1116 3116 rfl rfl rfl rfl rfl rfl Tryz.underlying53 tS52) rfl <| g_u (zG rfl rfl fa55_2 rfl) <| g_u (zH rfl rfl rfl tA53 tS53 rfl rfl) <| g_u (zG rfl rfl fa67_2 rfl) <| g_u (zH rfl rfl rfl tA3 tS3 rfl rfl) ?_
                        refine g_u (s_slL_h Z rfl rfl rfl Tryz.underlying53 tS52 rfl (by rw [List.length_map]; omega)) ?_
                        refine g_u (yW rfl rfl rfl rfl rfl Tryz.underlying53 Tryz.underlying53 tS52 zv52 rfl (by decide) by52 (by (try dsimp only); simp only [List.length_append, List.length_cons, List.length_nil, List.length_map, List.length_take, List.length_drop]; omega) (by (try dsimp only); simp only [List.length_append, List.length_cons, List.length_nil, List.length_map, List.length_take, List.length_drop]; omega)) ?_
                        refine g_u (zG rfl rfl fa55_2 rfl) <| g_u (zH rfl rfl rfl tA53 tS53 rfl rfl) <| g_u (zG rfl rfl fa67_2 rfl) <| g_u (zH rfl rfl rfl tA3 tS3 rfl rfl) <| g_u (yB rfl rfl rfl) ?_
                        refine g_u (s_slL_l (Z + 1) rfl rfl rfl Tryz.underlying53 tS52 (by rw [zZ (by omega) (by omega)]; omega) (by rw [List.length_map]; omega)) ?_
                        refine g_u (yW rfl rfl rfl rfl rfl Tryz.underlying53 Tryz.underlying53 tS52 zv52 rfl (by decide) by52 (by (try dsimp only); simp only [List.length_append, List.length_cons, List.length_nil, List.length_map, List.length_take, List.length_drop]; omega) (by (try dsimp only); simp only [List.length_append, List.length_cons, List.length_nil, List.length_map, List.length_take, List.length_drop]; omega)) ?_
                        refine g_u (zG rfl rfl fa55_2 rfl) <| g_u (vL rfl rfl rfl rfl tS53 rfl rfl) ?_
                        refine zF ⟨by kernel_rfl, ?_⟩
                        refine zA <| zD ?_
                        refine aw_upB 1009 (rmX (nthC (nthR b X).scopes Y) Z).av rfl rfl (by show Up _ (AV.agg [_, _, .sl 42 ((rm (nthC (nthR b X).scopes Y).spans Z).map GSpan.av)]); rw [← rm_map GSpan.av _ Z _ rfl]; exact Up.refl _) ?_
                        refine yw mixed <| g_u (zG rfl rfl fa58_0 rfl) <| g_u (zH rfl rfl rfl tA46 tS46 rfl rfl) <| g_uG (s_build0 1133 3133 rfl rfl rfl rfl rfl rfl Tryz.underlying56 tS55) rfl <| g_u (zG rfl rfl wJ rfl) <| g_u (zH rfl rfl rfl tA56 tS56 rfl rfl) ?_
                        refine g_u (yW rfl rfl rfl rfl rfl Tryz.underlying56 Tryz.underlying56 tS55 zv55 rfl (by decide) by55 (by (try dsimp only); simp only [List.length_append, List.length_cons, List.length_nil, List.length_map, List.length_take, List.length_drop]; omega) (by (try dsimp only); simp only [List.length_append, List.length_cons, List.length_nil, List.length_map, List.length_take, List.length_drop]; omega)) ?_
                        refine g_u (zH rfl rfl rfl tA55 tS55 rfl rfl) <| g_u (zu (X0 := z55) rfl Tryz.underlying56 tS55 tZ55 rfl rfl rfl rfl rfl rfl rfl rfl) ?_
                        refine g_u (yW rfl rfl rfl rfl rfl Tryz.underlying56 Tryz.underlying56 tS55 zv55 rfl (by decide) by55 (by (try dsimp only); simp only [List.length_append, List.length_cons, List.length_nil, List.length_map, List.length_take, List.length_drop]; omega) (by (try dsimp only); simp only [List.length_append, List.length_cons, List.length_nil, List.length_map, List.length_take, List.length_drop]; omega)) ?_
                        refine g_u (y9 rfl tU58 us58 pl58 rfl rfl rfl rfl) <| g_uG (zo 1010 rfl rfl rfl tZ58) rfl <| g_u (zL rfl rfl rfl tS58 rfl rfl) ?_
                        refine zF ⟨by kernel_rfl, ?_⟩
                        refine zA <| zD ?_
                        refine aw_upB 1010 (rmS (nthR b X) Y Z).av rfl rfl (by show Up _ (AV.agg [_, .sl 3 ((rm (nthR b X).scopes Y ++ [_]).map GScope.av)]); rw [List.map_append]; exact Up.refl _) ?_
                        refine zB <| g_u (zH rfl rfl rfl tA58 tS58 rfl rfl) <| g_u (zu (X0 := z58) rfl Tryz.underlying22 tS58 tZ58 rfl rfl rfl rfl rfl rfl rfl rfl) <| g_u (y9 rfl tU24 us24 pl24 rfl rfl rfl rfl) ?_
                        refine g_u (zT (vis_c [rmS (nthR b X) Y Z] (one_ok (rmS_ok hro hy)) (by show (rmS (nthR b X) Y Z).wt + 0 ≤ 60000; omega)) rfl rfl) ?_
                        refine g_u (zC rfl rfl) <| zz (t := 145) rfl ?_
                        rintro (hb12 | hb12)
                        · rw [hb12]
                          refine zP rfl rfl (zT (vA) rfl rfl) <| g_u (zX rfl rfl rfl) <| g_u (zE rfl rfl) <| zF <| zA <| zJ ?_
                          exact ⟨⟨(rfl : toAV (Al.look _ _) = some _).trans (congrArg some (by rfl)), rfl⟩, trivial⟩
                        · exact killT hb12 (by rw [q3]; rfl)
end Go.Proofs
