/- Texts that the proofs of this claim share, part 7: the abstract logic, plain Lean on values and batches, and walks. No condition but those typed in each lemma. -/
import Derived.Test.YtchikjokpmdipaaDoorP6
set_option linter.unusedSimpArgs false
set_option linter.unusedVariables false
namespace Go.Proofs
open Go Go.Al
set_option maxRecDepth 10000
def plain27 : AV := .agg [.agg (bytesL gS27.trace), .agg (bytesL gS27.id), .arr 8 gS27.parent, sv ⟨#[]⟩, sv gS27.name, iv 3, uv 5, uv 7, .sl 7 (gS27.attrs.map avA), .sl 3 (gS27.events.map GE.av), .sl 26 [.agg [.agg (bytesL (3 :: List.replicate 15 0)), .agg (bytesL (4 :: List.replicate 7 0)), sv ⟨#[]⟩, .sl 7 []]], .agg [iv 1, sv ⟨#[]⟩]]
theorem up27 : Up plain27 gS27.av := Up.agg ⟨up_bytes rfl, up_bytes rfl, Up.refl _, Up.refl _, Up.refl _, Up.refl _, Up.refl _, Up.refl _, Up.refl _, Up.refl _, Up.sl ⟨Up.agg ⟨up_bytes rfl, up_bytes rfl, Up.refl _, Up.refl _, trivial⟩, trivial⟩, Up.refl _, trivial⟩

set_option maxHeartbeats 2000000 in
theorem plain27_c : PCall Tryd.prog Γ0 38 [] [gS27.av] := by
  refine pcall_ofU Tryd.func38 rfl Tryd.ntmps38 (by kernel_rfl) rfl fun w0 I0 G0 => ?_
  refine aw_seq ?_
  refine aw_region ?_
  refine g_uG (s_alloc' 1000 rfl rfl rfl tZ33) rfl ?_
  refine g_nil ?_
  refine normal_thn ?_
  refine aw_seq ?_
  refine aw_region ?_
  refine g_u (s_build_arr rfl tV23 Tryd.underlying23 tS5 rfl rfl rfl rfl) ?_
  refine g_u (s_build_arr rfl tV25 Tryd.underlying25 tS5 rfl rfl rfl rfl) ?_
  refine g_u (s_build rfl tU78 us78 pl78 rfl rfl rfl rfl) ?_
  refine g_u (s_buildSlice (X0 := z78) rfl Tryd.underlying27 tS78 tZ78 rfl rfl rfl rfl rfl rfl rfl rfl) ?_
  refine g_u (s_build rfl tU70 us70 pl70 rfl rfl rfl rfl) ?_
  refine g_u (s_buildSlice (X0 := z70) rfl Tryd.underlying28 tS70 tZ70 rfl rfl rfl rfl rfl rfl rfl rfl) ?_
  refine g_u (s_build_arr rfl tV23 Tryd.underlying23 tS5 rfl rfl rfl rfl) ?_
  refine g_u (s_build_arr rfl tV25 Tryd.underlying25 tS5 rfl rfl rfl rfl) ?_
  refine g_u (s_build rfl tU72 us72 pl72 rfl rfl rfl rfl) ?_
  refine g_u (s_buildSlice (X0 := z72) rfl Tryd.underlying29 tS72 tZ72 rfl rfl rfl rfl rfl rfl rfl rfl) ?_
  refine g_u (s_build rfl tU31 us31 pl31 rfl rfl rfl rfl) ?_
  refine g_u (s_build rfl tU33 us33 pl33 rfl rfl rfl rfl) ?_
  refine g_u (s_store_imm rfl rfl rfl tS33 (by first | exact beqW (GSpan.width _) | rfl) (by first | exact setS_w (z33_w.trans (GSpan.width _).symm) rfl | rfl)) ?_
  refine g_nil ?_
  refine normal_thn ?_
  refine aw_ret ?_
  exact ⟨[plain27], ⟨⟨_, _, _, _, _, _, _, rfl, rfl, tA33, tS33, rfl, rfl, rfl⟩, trivial⟩, ⟨up27, trivial⟩⟩

theorem z27_ok : zeroV.ok := (GV.ok_iff _).2 ⟨by decide, by decide, by decide, by decide, (fun x h => by cases h), (fun x h => by cases h)⟩
theorem a97_ok : ∀ (k : ByteArray), k.size ≤ maxLen → (GA.mk k zeroV).ok := fun k hk => (GA.ok_iff _).2 ⟨hk, z27_ok⟩
theorem gS27_ok : gS27.ok := ⟨⟨by decide, by decide, by decide⟩, ⟨by decide, by decide, by decide⟩, ⟨by unfold i64; decide, by unfold u64; decide, by unfold u64; decide, by unfold i64; decide⟩, (fun a h => by cases List.mem_singleton.1 h; exact a97_ok _ (by decide)), (fun a h => by cases List.mem_singleton.1 h; exact ⟨by unfold u64; decide, by decide, (fun a h => by cases h)⟩), (fun a h => by cases List.mem_singleton.1 h; exact ⟨by decide, by decide, by decide, (fun a h => by cases h)⟩)⟩
theorem gZ27_ok : gZ27.ok := ⟨⟨by decide, by decide, by decide⟩, gS27_ok.2.1, gS27_ok.2.2.1, gS27_ok.2.2.2⟩
theorem gK27_ok : gK27.ok := ⟨gS27_ok.1, gS27_ok.2.1, ⟨by unfold i64; decide, by unfold u64; decide, by unfold u64; decide, by unfold i64; decide⟩, gS27_ok.2.2.2⟩
theorem gW27_ok : gW27.ok := ⟨gS27_ok.1, gS27_ok.2.1, gS27_ok.2.2.1, (fun a h => by rcases List.mem_cons.1 h with rfl | h; exact a97_ok _ (by decide); cases List.mem_singleton.1 h; exact a97_ok _ (by decide)), gS27_ok.2.2.2.2⟩
theorem gC27_ok : gC27.ok := ⟨gS27_ok.1, gS27_ok.2.1, gS27_ok.2.2.1, (fun a h => by rcases List.mem_cons.1 h with rfl | h; exact a97_ok _ (by decide); cases List.mem_singleton.1 h; exact a97_ok _ (by decide)), gS27_ok.2.2.2.2⟩

set_option maxRecDepth 100000 in
set_option maxHeartbeats 8000000 in
theorem works27_c : PCall Tryd.prog Γ0 11 [] [bv true] := by
  refine pcall_of Tryd.func11 rfl Tryd.ntmps11 (by kernel_rfl) rfl fun w0 I0 G0 => ?_
  refine aw_seq ?_
  refine aw_region ?_
  refine g_u (s_as_imm rfl rfl) ?_
  refine g_nil ?_
  refine normal_thn ?_
  refine aw_seq ?_
  refine aw_region ?_
  refine g_u (s_call1 (plain27_c) rfl rfl) ?_
  refine g_u (s_call1 (plain27_c) rfl rfl) ?_
  refine g_u (s_call1 (plain27_c) rfl rfl) ?_
  refine g_u (s_call1 (plain27_c) rfl rfl) ?_
  refine g_uG (s_alloc' 1001 rfl rfl rfl tZ33) rfl ?_
  refine g_uG (s_alloc' 1002 rfl rfl rfl tZ33) rfl ?_
  refine g_uG (s_alloc' 1003 rfl rfl rfl tZ33) rfl ?_
  refine g_uG (s_alloc' 1004 rfl rfl rfl tZ33) rfl ?_
  refine g_u (s_store_imm rfl rfl rfl tS33 (by first | exact beqW (GSpan.width _) | rfl) (by first | exact setS_w (z33_w.trans (GSpan.width _).symm) rfl | rfl)) ?_
  refine g_u (s_store_imm rfl rfl rfl tS33 (by first | exact beqW (GSpan.width _) | rfl) (by first | exact setS_w (z33_w.trans (GSpan.width _).symm) rfl | rfl)) ?_
  refine g_u (s_store_imm rfl rfl rfl tS33 (by first | exact beqW (GSpan.width _) | rfl) (by first | exact setS_w (z33_w.trans (GSpan.width _).symm) rfl | rfl)) ?_
  refine g_u (s_store_imm rfl rfl rfl tS33 (by first | exact beqW (GSpan.width _) | rfl) (by first | exact setS_w (z33_w.trans (GSpan.width _).symm) rfl | rfl)) ?_
  refine g_nil ?_
  refine normal_thn ?_
  refine aw_seq ?_
  refine aw_region ?_
  refine g_u (s_build_arr rfl tU25 Tryd.underlying25 tS5 rfl rfl rfl rfl) ?_
  refine g_u (s_fieldAddr rfl rfl fa33_1 rfl) ?_
  refine g_u (s_store_imm rfl rfl rfl tS25 rfl rfl) ?_
  refine g_nil ?_
  refine normal_thn ?_
  refine aw_pack 1002 rfl rfl ?_
  refine aw_seq ?_
  refine aw_region ?_
  refine g_u (s_fieldAddr rfl rfl fa33_5 rfl) ?_
  refine g_u (s_store_imm rfl rfl rfl tS3 rfl rfl) ?_
  refine g_nil ?_
  refine normal_thn ?_
  refine aw_pack 1003 rfl rfl ?_
  refine aw_seq ?_
  refine aw_region ?_
  refine g_u (s_build rfl tU78 us78 pl78 rfl rfl rfl rfl) ?_
  refine g_u (s_build rfl tU78 us78 pl78 rfl rfl rfl rfl) ?_
  refine g_u (s_buildSlice (X0 := z78) rfl Tryd.underlying27 tS78 tZ78 rfl rfl rfl rfl rfl rfl rfl rfl) ?_
  refine g_u (s_fieldAddr rfl rfl fa33_8 rfl) ?_
  refine g_u (s_store rfl rfl rfl rfl tS27 rfl rfl) ?_
  refine g_nil ?_
  refine normal_thn ?_
  refine aw_pack 1004 rfl rfl ?_
  refine aw_seq ?_
  refine aw_region ?_
  refine g_u (s_load_imm rfl rfl rfl tA33 tS33 rfl (by first | exact getS_w (GSpan.width _) rfl | rfl)) ?_
  refine g_u (s_call1 ((show PCall Tryd.prog Γ0 14 [gW27.av] [gC27.av] from by rw [← w27_canon]; exact pcanonS_c gW27 (by decide))) rfl rfl) ?_
  refine g_uG (s_alloc' 1005 rfl rfl rfl tZ33) rfl ?_
  refine g_u (s_store_imm rfl rfl rfl tS33 (by first | exact beqW (GSpan.width _) | rfl) (by first | exact setS_w (z33_w.trans (GSpan.width _).symm) rfl | rfl)) ?_
  refine g_nil ?_
  refine normal_thn ?_
  refine aw_seq ?_
  refine aw_region ?_
  refine g_u (s_as_imm rfl rfl) ?_
  refine g_nil ?_
  refine normal_thn ?_
  refine aw_seq ?_
  refine aw_draw mixed ?_
  refine g_u (s_load_imm rfl rfl rfl tA33 tS33 rfl (by first | exact getS_w (GSpan.width _) rfl | rfl)) ?_
  refine g_u (s_call1 (spanCheck_c gS27 gS27_ok (by decide)) rfl rfl) ?_
  refine g_u (s_eqI rfl rfl rfl) ?_
  refine g_u (s_mv_imm rfl rfl) ?_
  refine g_case (t := 23) rfl ?_
  rintro (hb1 | hb1)
  · rw [hb1]
    refine g_run rfl rfl (s_load_imm rfl rfl rfl tA33 tS33 rfl (by first | exact getS_w (GSpan.width _) rfl | rfl)) ?_
    refine g_run rfl rfl (s_call1 (spanCheck_c gZ27 gZ27_ok (by decide)) rfl rfl) ?_
    refine g_run rfl rfl (s_eqI rfl rfl rfl) ?_
    refine g_u (s_pick_t rfl rfl rfl) ?_
    refine g_u (s_mv_imm rfl rfl) ?_
    refine g_case (t := 28) rfl ?_
    rintro (hb2 | hb2)
    · rw [hb2]
      refine g_run rfl rfl (s_load_imm rfl rfl rfl tA33 tS33 rfl (by first | exact getS_w (GSpan.width _) rfl | rfl)) ?_
      refine g_run rfl rfl (s_call1 (spanCheck_c gK27 gK27_ok (by decide)) rfl rfl) ?_
      refine g_run rfl rfl (s_eqI rfl rfl rfl) ?_
      refine g_u (s_pick_t rfl rfl rfl) ?_
      refine g_u (s_mv_imm rfl rfl) ?_
      refine g_case (t := 33) rfl ?_
      rintro (hb3 | hb3)
      · rw [hb3]
        refine g_run rfl rfl (s_load_imm rfl rfl rfl tA33 tS33 rfl (by first | exact getS_w (GSpan.width _) rfl | rfl)) ?_
        refine g_run rfl rfl (s_call1 (spanCheck_c gW27 gW27_ok (by decide)) rfl rfl) ?_
        refine g_run rfl rfl (s_eqI rfl rfl rfl) ?_
        refine g_u (s_pick_t rfl rfl rfl) ?_
        refine g_u (s_mv_imm rfl rfl) ?_
        refine g_case (t := 38) rfl ?_
        rintro (hb4 | hb4)
        · rw [hb4]
          refine g_run rfl rfl (s_load_imm rfl rfl rfl tA33 tS33 rfl (by first | exact getS_w (GSpan.width _) rfl | rfl)) ?_
          refine g_run rfl rfl (s_call1 (spanCheck_c gC27 gC27_ok (by decide)) rfl rfl) ?_
          refine g_run rfl rfl (s_eqI rfl rfl rfl) ?_
          refine g_u (s_pick_t rfl rfl rfl) ?_
          refine g_u (s_mv_imm rfl rfl) ?_
          refine g_case (t := 43) rfl ?_
          rintro (hb5 | hb5)
          · rw [hb5]
            refine g_run rfl rfl (s_load_imm rfl rfl rfl tA33 tS33 rfl (by first | exact getS_w (GSpan.width _) rfl | rfl)) ?_
            refine g_run rfl rfl (s_call1 (plain27_c) rfl rfl) ?_
            refine g_run rfl rfl (s_call1 (psameS_c gS27 gS27 (by decide)) rfl rfl) ?_
            refine g_u (s_pick_t rfl rfl rfl) ?_
            refine g_u (s_mv_imm rfl rfl) ?_
            refine g_case (t := 48) rfl ?_
            rintro (hb6 | hb6)
            · rw [hb6]
              refine g_run rfl rfl (s_load_imm rfl rfl rfl tA33 tS33 rfl (by first | exact getS_w (GSpan.width _) rfl | rfl)) ?_
              refine g_run rfl rfl (s_load_imm rfl rfl rfl tA33 tS33 rfl (by first | exact getS_w (GSpan.width _) rfl | rfl)) ?_
              refine g_run rfl rfl (s_call1 (psameS_c gS27 gW27 (by decide)) rfl rfl) ?_
              refine g_run rfl rfl (s_not rfl rfl) ?_
              refine g_u (s_pick_t rfl rfl rfl) ?_
              refine g_u (s_mv_imm rfl rfl) ?_
              refine g_case (t := 54) rfl ?_
              rintro (hb7 | hb7)
              · rw [hb7]
                refine g_run rfl rfl (s_call1 (spanName_c ⟨#[255]⟩ (by decide)) rfl rfl) ?_
                refine g_run rfl rfl (s_eqI rfl rfl rfl) ?_
                refine g_u (s_pick_t rfl rfl rfl) ?_
                refine g_u (s_mv_imm rfl rfl) ?_
                refine g_case (t := 58) rfl ?_
                rintro (hb8 | hb8)
                · rw [hb8]
                  refine g_run rfl rfl (s_mv_imm rfl rfl) ?_
                  refine g_u (s_pick_t rfl rfl rfl) ?_
                  refine g_u (s_as_imm rfl rfl) ?_
                  refine g_nil ⟨by kernel_rfl, ?_⟩
                  refine normal_thn ?_
                  refine aw_ret ?_
                  exact ⟨⟨(rfl : toAV (Al.look _ _) = some _).trans (congrArg some (by rfl)), rfl⟩, trivial⟩
                · exact killT hb8 (by first | rfl | decide +kernel)
              · exact killT hb7 ((by rw [decide_eq_false n27]; rfl))
            · exact killT hb6 ((by exact decide_eq_true rfl))
          · exact killT hb5 (by first | rfl | decide +kernel)
        · exact killT hb4 (by first | rfl | decide +kernel)
      · exact killT hb3 (by first | rfl | decide +kernel)
    · exact killT hb2 (by first | rfl | decide +kernel)
  · exact killT hb1 (by first | rfl | decide +kernel)

set_option maxHeartbeats 1000000 in
theorem spanSame_c (a b : GSpan) : PCall Tryd.prog Γ0 3 [a.av, b.av] [bv true] := by
  refine pcall_of Tryd.func3 rfl Tryd.ntmps3 (by kernel_rfl) rfl fun w0 I0 G0 => ?_
  refine aw_seq ?_
  refine aw_region ?_
  refine g_uG (s_box_imm 1002 rfl rfl rfl rfl) rfl ?_
  refine g_uG (s_box_imm 1003 rfl rfl rfl rfl) rfl ?_
  refine g_u (s_as_imm rfl rfl) ?_
  refine g_nil ?_
  refine normal_thn ?_
  refine aw_seq ?_
  refine aw_seq ?_
  refine aw_region ?_
  refine g_u (s_load_imm rfl rfl rfl tA33 tS33 rfl (by first | exact getS_w (GSpan.width _) rfl | rfl)) ?_
  refine g_u (s_call1 (leftS_c _ _ (by decide)) rfl rfl) ?_
  refine g_u (s_ltI rfl rfl rfl) ?_
  refine g_u (s_mv_imm rfl rfl) ?_
  refine g_case (t := 8) rfl ?_
  rintro (hb1 | hb1)
  · rw [hb1]
    have z1 : leftS a 4000 < 0 := of_decide_eq_true hb1
    refine g_skip rfl rfl rfl ?_
    refine g_skip rfl rfl rfl ?_
    refine g_skip rfl rfl rfl ?_
    refine g_u (s_pick_t rfl rfl rfl) ?_
    refine g_nil ?_
    refine normal_thn ?_
    refine aw_cond_true rfl ?_
    refine aw_seq ?_
    refine aw_region ?_
    refine g_u (s_call1 (works27_c) rfl rfl) ?_
    refine g_u (s_as_imm rfl rfl) ?_
    refine g_nil ?_
    refine normal_thn ?_
    refine aw_ret ?_
    refine ret_thn ?_
    exact ⟨⟨(rfl : toAV (Al.look _ _) = some _).trans (congrArg some (by rfl)), rfl⟩, trivial⟩
  · rw [hb1]
    have z1 : ¬ leftS a 4000 < 0 := of_decide_eq_false hb1
    have hwa := leftS_le z1
    refine g_run rfl rfl (s_load_imm rfl rfl rfl tA33 tS33 rfl (by first | exact getS_w (GSpan.width _) rfl | rfl)) ?_
    refine g_run rfl rfl (s_call1 (leftS_c _ _ (by decide)) rfl rfl) ?_
    refine g_run rfl rfl (s_ltI rfl rfl rfl) ?_
    refine g_u (s_pick_f rfl rfl rfl) ?_
    refine g_nil ?_
    refine normal_thn ?_
    refine aw_cond rfl (fun hb2 => ?_) (fun hb2 => ?_)
    · skip
      have z2 : leftS b 4000 < 0 := of_decide_eq_true hb2
      refine aw_seq ?_
      refine aw_region ?_
      refine g_u (s_call1 (works27_c) rfl rfl) ?_
      refine g_u (s_as_imm rfl rfl) ?_
      refine g_nil ?_
      refine normal_thn ?_
      refine aw_ret ?_
      refine ret_thn ?_
      exact ⟨⟨(rfl : toAV (Al.look _ _) = some _).trans (congrArg some (by rfl)), rfl⟩, trivial⟩
    · skip
      have z2 : ¬ leftS b 4000 < 0 := of_decide_eq_false hb2
      refine aw_skip ?_
      refine normal_thn ?_
      refine aw_seq ?_
      refine aw_draw mixed ?_
      refine g_u (s_load_imm rfl rfl rfl tA33 tS33 rfl (by first | exact getS_w (GSpan.width _) rfl | rfl)) ?_
      refine g_u (s_load_imm rfl rfl rfl tA33 tS33 rfl (by first | exact getS_w (GSpan.width _) rfl | rfl)) ?_
      refine g_u (s_call1 (psameS_c _ _ (by omega)) rfl rfl) ?_
      refine g_u (s_load_imm rfl rfl rfl tA33 tS33 rfl (by first | exact getS_w (GSpan.width _) rfl | rfl)) ?_
      refine g_u (s_load_imm rfl rfl rfl tA33 tS33 rfl (by first | exact getS_w (GSpan.width _) rfl | rfl)) ?_
      refine g_u (s_call1 (rsameS_c _ _ (by omega)) rfl rfl) ?_
      refine g_u (s_eqB rfl rfl rfl Tryd.underlying4) ?_
      refine g_u (s_mv_imm rfl rfl) ?_
      refine g_case (t := 21) rfl ?_
      rintro (hb3 | hb3)
      · rw [hb3]
        refine g_run rfl rfl (s_load_imm rfl rfl rfl tA33 tS33 rfl (by first | exact getS_w (GSpan.width _) rfl | rfl)) ?_
        refine g_run rfl rfl (s_load_imm rfl rfl rfl tA33 tS33 rfl (by first | exact getS_w (GSpan.width _) rfl | rfl)) ?_
        refine g_run rfl rfl (s_call1 (psameS_c _ _ (by omega)) rfl rfl) ?_
        refine g_u (s_pick_t rfl rfl rfl) ?_
        refine g_u (s_mv_imm rfl rfl) ?_
        refine g_case (t := 26) rfl ?_
        rintro (hb4 | hb4)
        · rw [hb4]
          refine g_run rfl rfl (s_call1 (works27_c) rfl rfl) ?_
          refine g_u (s_pick_t rfl rfl rfl) ?_
          refine g_u (s_as_imm rfl rfl) ?_
          refine g_nil ⟨by kernel_rfl, ?_⟩
          refine normal_thn ?_
          refine aw_ret ?_
          exact ⟨⟨(rfl : toAV (Al.look _ _) = some _).trans (congrArg some (by rfl)), rfl⟩, trivial⟩
        · exact killT hb4 ((by exact decide_eq_true rfl))
      · exact killT hb3 ((by exact beq_self_eq_true _))

set_option maxHeartbeats 1000000 in
theorem spanCanon_c (s : GSpan) (ho : s.ok) : PCall Tryd.prog Γ0 4 [s.av] [bv true] := by
  refine pcall_of Tryd.func4 rfl Tryd.ntmps4 (by kernel_rfl) rfl fun w0 I0 G0 => ?_
  refine aw_seq ?_
  refine aw_region ?_
  refine g_uG (s_box_imm 1001 rfl rfl rfl rfl) rfl ?_
  refine g_u (s_as_imm rfl rfl) ?_
  refine g_nil ?_
  refine normal_thn ?_
  refine aw_seq ?_
  refine aw_seq ?_
  refine aw_region ?_
  refine g_u (s_load_imm rfl rfl rfl tA33 tS33 rfl (by first | exact getS_w (GSpan.width _) rfl | rfl)) ?_
  refine g_u (s_call1 (leftS_c _ _ (by decide)) rfl rfl) ?_
  refine g_u (s_ltI rfl rfl rfl) ?_
  refine g_nil ?_
  refine normal_thn ?_
  refine aw_cond rfl (fun hb1 => ?_) (fun hb1 => ?_)
  · skip
    have z1 : leftS s 4000 < 0 := of_decide_eq_true hb1
    refine aw_seq ?_
    refine aw_region ?_
    refine g_u (s_call1 (works27_c) rfl rfl) ?_
    refine g_u (s_as_imm rfl rfl) ?_
    refine g_nil ?_
    refine normal_thn ?_
    refine aw_ret ?_
    refine ret_thn ?_
    exact ⟨⟨(rfl : toAV (Al.look _ _) = some _).trans (congrArg some (by rfl)), rfl⟩, trivial⟩
  · skip
    have z1 : ¬ leftS s 4000 < 0 := of_decide_eq_false hb1
    have hwa := leftS_le z1
    have hwc := wt_canonS s
    have hcc := wt_canonS (canonS s)
    refine aw_skip ?_
    refine normal_thn ?_
    refine aw_seq ?_
    refine aw_region ?_
    refine g_u (s_load_imm rfl rfl rfl tA33 tS33 rfl (by first | exact getS_w (GSpan.width _) rfl | rfl)) ?_
    refine g_u (s_call1 (pcanonS_c _ (by omega)) rfl rfl) ?_
    refine g_uG (s_alloc' 1003 rfl rfl rfl tZ33) rfl ?_
    refine g_u (s_store_imm rfl rfl rfl tS33 (by first | exact beqW (GSpan.width _) | rfl) (by first | exact setS_w (z33_w.trans (GSpan.width _).symm) rfl | rfl)) ?_
    refine g_nil ?_
    refine normal_thn ?_
    refine aw_seq ?_
    refine aw_seq ?_
    refine aw_region ?_
    refine g_u (s_load_imm rfl rfl rfl tA33 tS33 rfl (by first | exact getS_w (GSpan.width _) rfl | rfl)) ?_
    refine g_u (s_call1 (spanCheck_c _ ho (by omega)) rfl rfl) ?_
    refine g_u (s_eqI rfl rfl rfl) ?_
    refine g_u (s_mv_imm rfl rfl) ?_
    refine g_case (t := 13) rfl ?_
    rintro (hb2 | hb2)
    · rw [hb2]
      have hcan : canonS s = s := canonS_of (beq_iff_eq.1 hb2)
      refine g_run rfl rfl (s_load_imm rfl rfl rfl tA33 tS33 rfl (by first | exact getS_w (GSpan.width _) rfl | rfl)) ?_
      refine g_run rfl rfl (s_load_imm rfl rfl rfl tA33 tS33 rfl (by first | exact getS_w (GSpan.width _) rfl | rfl)) ?_
      refine g_run rfl rfl (s_call1 (psameS_c _ _ (by omega)) rfl rfl) ?_
      refine g_run rfl rfl (s_not rfl rfl) ?_
      refine g_u (s_pick_t rfl rfl rfl) ?_
      refine g_nil ?_
      refine normal_thn ?_
      refine aw_cond rfl (fun hb3 => ?_) (fun hb3 => ?_)
      · exact killF hb3 ((by rw [decide_eq_true hcan]; rfl))
      · skip
        refine aw_skip ?_
        refine normal_thn ?_
        refine aw_seq ?_
        refine aw_draw mixed ?_
        refine g_u (s_load_imm rfl rfl rfl tA33 tS33 rfl (by first | exact getS_w (GSpan.width _) rfl | rfl)) ?_
        refine g_u (s_load_imm rfl rfl rfl tA33 tS33 rfl (by first | exact getS_w (GSpan.width _) rfl | rfl)) ?_
        refine g_u (s_call1 (canonS_c s (by omega)) rfl rfl) ?_
        refine g_u (s_call1 (rsameS_c _ _ (by omega)) rfl rfl) ?_
        refine g_u (s_mv_imm rfl rfl) ?_
        refine g_case (t := 23) rfl ?_
        rintro (hb4 | hb4)
        · rw [hb4]
          refine g_run rfl rfl (s_load_imm rfl rfl rfl tA33 tS33 rfl (by first | exact getS_w (GSpan.width _) rfl | rfl)) ?_
          refine g_run rfl rfl (s_call1 (pcanonS_c _ (by omega)) rfl rfl) ?_
          refine g_run rfl rfl (s_load_imm rfl rfl rfl tA33 tS33 rfl (by first | exact getS_w (GSpan.width _) rfl | rfl)) ?_
          refine g_run rfl rfl (s_call1 (psameS_c _ _ (by omega)) rfl rfl) ?_
          refine g_u (s_pick_t rfl rfl rfl) ?_
          refine g_u (s_mv_imm rfl rfl) ?_
          refine g_case (t := 29) rfl ?_
          rintro (hb5 | hb5)
          · rw [hb5]
            refine g_run rfl rfl (s_call1 (works27_c) rfl rfl) ?_
            refine g_u (s_pick_t rfl rfl rfl) ?_
            refine g_u (s_as_imm rfl rfl) ?_
            refine g_nil ⟨by kernel_rfl, ?_⟩
            refine normal_thn ?_
            refine aw_ret ?_
            exact ⟨⟨(rfl : toAV (Al.look _ _) = some _).trans (congrArg some (by rfl)), rfl⟩, trivial⟩
          · exact killT hb5 ((by exact decide_eq_true (canonS_idem s)))
        · exact killT hb4 ((by exact decide_eq_true rfl))
    · rw [hb2]
      refine g_skip rfl rfl rfl ?_
      refine g_skip rfl rfl rfl ?_
      refine g_skip rfl rfl rfl ?_
      refine g_skip rfl rfl rfl ?_
      refine g_u (s_pick_f rfl rfl rfl) ?_
      refine g_nil ?_
      refine normal_thn ?_
      refine aw_cond_false rfl ?_
      refine aw_skip ?_
      refine normal_thn ?_
      refine aw_seq ?_
      refine aw_draw mixed ?_
      refine g_u (s_load_imm rfl rfl rfl tA33 tS33 rfl (by first | exact getS_w (GSpan.width _) rfl | rfl)) ?_
      refine g_u (s_load_imm rfl rfl rfl tA33 tS33 rfl (by first | exact getS_w (GSpan.width _) rfl | rfl)) ?_
      refine g_u (s_call1 (canonS_c s (by omega)) rfl rfl) ?_
      refine g_u (s_call1 (rsameS_c _ _ (by omega)) rfl rfl) ?_
      refine g_u (s_mv_imm rfl rfl) ?_
      refine g_case (t := 23) rfl ?_
      rintro (hb6 | hb6)
      · rw [hb6]
        refine g_run rfl rfl (s_load_imm rfl rfl rfl tA33 tS33 rfl (by first | exact getS_w (GSpan.width _) rfl | rfl)) ?_
        refine g_run rfl rfl (s_call1 (pcanonS_c _ (by omega)) rfl rfl) ?_
        refine g_run rfl rfl (s_load_imm rfl rfl rfl tA33 tS33 rfl (by first | exact getS_w (GSpan.width _) rfl | rfl)) ?_
        refine g_run rfl rfl (s_call1 (psameS_c _ _ (by omega)) rfl rfl) ?_
        refine g_u (s_pick_t rfl rfl rfl) ?_
        refine g_u (s_mv_imm rfl rfl) ?_
        refine g_case (t := 29) rfl ?_
        rintro (hb7 | hb7)
        · rw [hb7]
          refine g_run rfl rfl (s_call1 (works27_c) rfl rfl) ?_
          refine g_u (s_pick_t rfl rfl rfl) ?_
          refine g_u (s_as_imm rfl rfl) ?_
          refine g_nil ⟨by kernel_rfl, ?_⟩
          refine normal_thn ?_
          refine aw_ret ?_
          exact ⟨⟨(rfl : toAV (Al.look _ _) = some _).trans (congrArg some (by rfl)), rfl⟩, trivial⟩
        · exact killT hb7 ((by exact decide_eq_true (canonS_idem s)))
      · exact killT hb6 ((by exact decide_eq_true rfl))

end Go.Proofs

