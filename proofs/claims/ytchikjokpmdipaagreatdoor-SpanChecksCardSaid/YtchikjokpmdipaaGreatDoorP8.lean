/- Texts that the proofs of this claim share, part 8: the abstract logic, plain Lean on values and batches, and walks. No condition but those typed in each lemma. -/
import Derived.Test.YtchikjokpmdipaaGreatDoorP7
set_option linter.unusedSimpArgs false
set_option linter.unusedVariables false
namespace Go.Proofs
open Go Go.Al
set_option maxRecDepth 10000
def plain27 : AV := .agg [.agg (bytesL gS27.trace), .agg (bytesL gS27.id), .arr 8 gS27.parent, sv ⟨#[]⟩, sv gS27.name, iv 3, uv 5, uv 7, .sl 7 (gS27.attrs.map avA), .sl 3 (gS27.events.map GE.av), .sl 26 [.agg [.agg (bytesL (3 :: List.replicate 15 0)), .agg (bytesL (4 :: List.replicate 7 0)), sv ⟨#[]⟩, .sl 7 []]], .agg [iv 1, sv ⟨#[]⟩]]
theorem up27 : Up plain27 gS27.av := Up.agg ⟨up_bytes rfl, up_bytes rfl, Up.refl _, Up.refl _, Up.refl _, Up.refl _, Up.refl _, Up.refl _, Up.refl _, Up.refl _, Up.sl ⟨Up.agg ⟨up_bytes rfl, up_bytes rfl, Up.refl _, Up.refl _, trivial⟩, trivial⟩, Up.refl _, trivial⟩

set_option maxHeartbeats 2000000 in
theorem plain27_c : PCall Tryz.prog Γ0 11 [] [gS27.av] := by
  refine pcall_ofU Tryz.func11 rfl Tryz.ntmps11 (by kernel_rfl) rfl fun w0 I0 G0 => ?_
  refine aw_seq ?_
  refine aw_region ?_
  refine g_uG (s_alloc' 1000 rfl rfl rfl tZ33) rfl ?_
  refine g_nil ?_
  refine normal_thn ?_
  refine aw_seq ?_
  refine aw_region ?_
  refine g_u (s_build_arr rfl tV23 Tryz.underlying23 tS5 rfl rfl rfl rfl) ?_
  refine g_u (s_build_arr rfl tV25 Tryz.underlying25 tS5 rfl rfl rfl rfl) ?_
  refine g_u (s_build rfl tU50 us50 pl50 rfl rfl rfl rfl) ?_
  refine g_u (s_buildSlice (X0 := z50) rfl Tryz.underlying27 tS50 tZ50 rfl rfl rfl rfl rfl rfl rfl rfl) ?_
  refine g_u (s_build rfl tU42 us42 pl42 rfl rfl rfl rfl) ?_
  refine g_u (s_buildSlice (X0 := z42) rfl Tryz.underlying28 tS42 tZ42 rfl rfl rfl rfl rfl rfl rfl rfl) ?_
  refine g_u (s_build_arr rfl tV23 Tryz.underlying23 tS5 rfl rfl rfl rfl) ?_
  refine g_u (s_build_arr rfl tV25 Tryz.underlying25 tS5 rfl rfl rfl rfl) ?_
  refine g_u (s_build rfl tU44 us44 pl44 rfl rfl rfl rfl) ?_
  refine g_u (s_buildSlice (X0 := z44) rfl Tryz.underlying29 tS44 tZ44 rfl rfl rfl rfl rfl rfl rfl rfl) ?_
  refine g_u (s_build rfl tU31 us31 pl31 rfl rfl rfl rfl) ?_
  refine g_u (s_build rfl tU33 us33 pl33 rfl rfl rfl rfl) ?_
  refine g_u (s_store_imm rfl rfl rfl tS33 (by first | exact beqW (GSpan.width _) | rfl) (by first | exact setS_w (z33_w.trans (GSpan.width _).symm) rfl | rfl)) ?_
  refine g_nil ?_
  refine normal_thn ?_
  refine aw_ret ?_
  exact ⟨[plain27], ⟨⟨_, _, _, _, _, _, _, rfl, rfl, tA33, tS33, rfl, rfl, rfl⟩, trivial⟩, ⟨up27, trivial⟩⟩

theorem z27_ok : zeroV.ok := (GV.ok_iff _).2 ⟨by decide, by decide, by decide, by decide, (fun x h => by cases h), (fun x h => by cases h)⟩
theorem a97_ok : ∀ (k : ByteArray), k.size ≤ maxLen → (GA.mk k zeroV).ok := fun k hk => (GA.ok_iff _).2 ⟨hk, z27_ok⟩
theorem gS27_ok : gS27.ok := ⟨⟨by decide, by decide, by decide⟩, ⟨by decide, by decide, by decide⟩, ⟨by unfold i64; decide, by unfold u64; decide, by unfold u64; decide, by unfold i64; decide⟩, (fun a h => by cases List.mem_singleton.1 h; exact a97_ok _ (by decide)), (fun a h => by cases List.mem_singleton.1 h; exact ⟨by unfold u64; decide, by decide, (fun a h => by cases h)⟩), (fun a h => by cases List.mem_singleton.1 h; exact ⟨by decide, by decide, by decide, (fun a h => by cases h)⟩)⟩
theorem gZ27_ok : gZ27.ok := ⟨⟨by decide, by decide, by decide⟩, gS27_ok.2.1, gS27_ok.2.2.1, gS27_ok.2.2.2⟩
theorem gK27_ok : gK27.ok := ⟨gS27_ok.1, gS27_ok.2.1, ⟨by unfold i64; decide, by unfold u64; decide, by unfold u64; decide, by unfold i64; decide⟩, gS27_ok.2.2.2⟩
theorem gW27_ok : gW27.ok := ⟨gS27_ok.1, gS27_ok.2.1, gS27_ok.2.2.1, (fun a h => by rcases List.mem_cons.1 h with rfl | h; exact a97_ok _ (by decide); cases List.mem_singleton.1 h; exact a97_ok _ (by decide)), gS27_ok.2.2.2.2⟩
theorem gC27_ok : gC27.ok := ⟨gS27_ok.1, gS27_ok.2.1, gS27_ok.2.2.1, (fun a h => by rcases List.mem_cons.1 h with rfl | h; exact a97_ok _ (by decide); cases List.mem_singleton.1 h; exact a97_ok _ (by decide)), gS27_ok.2.2.2.2⟩

set_option maxRecDepth 100000 in
set_option maxHeartbeats 8000000 in
theorem works27_c : PCall Tryz.prog Γ0 5 [] [bv true] := by
  refine pcall_of Tryz.func5 rfl Tryz.ntmps5 (by kernel_rfl) rfl fun w0 I0 G0 => ?_
  refine aw_seq ?_
  refine aw_region ?_
  refine g_u (s_as_imm rfl rfl) ?_
  refine g_nil ?_
  refine normal_thn ?_
  refine aw_seq ?_
  refine aw_region ?_
  refine g_u (s_call1 (plain27_c) rfl rfl) ?_
  refine g_u (s_call1 (plain27_c) rfl rfl) ?_
  refine g_u (s_call1 (plain27_c) rfl rfl) ?_
  refine g_u (s_call1 (plain27_c) rfl rfl) ?_
  refine g_uG (s_alloc' 1001 rfl rfl rfl tZ33) rfl ?_
  refine g_uG (s_alloc' 1002 rfl rfl rfl tZ33) rfl ?_
  refine g_uG (s_alloc' 1003 rfl rfl rfl tZ33) rfl ?_
  refine g_uG (s_alloc' 1004 rfl rfl rfl tZ33) rfl ?_
  refine g_u (s_store_imm rfl rfl rfl tS33 (by first | exact beqW (GSpan.width _) | rfl) (by first | exact setS_w (z33_w.trans (GSpan.width _).symm) rfl | rfl)) ?_
  refine g_u (s_store_imm rfl rfl rfl tS33 (by first | exact beqW (GSpan.width _) | rfl) (by first | exact setS_w (z33_w.trans (GSpan.width _).symm) rfl | rfl)) ?_
  refine g_u (s_store_imm rfl rfl rfl tS33 (by first | exact beqW (GSpan.width _) | rfl) (by first | exact setS_w (z33_w.trans (GSpan.width _).symm) rfl | rfl)) ?_
  refine g_u (s_store_imm rfl rfl rfl tS33 (by first | exact beqW (GSpan.width _) | rfl) (by first | exact setS_w (z33_w.trans (GSpan.width _).symm) rfl | rfl)) ?_
  refine g_nil ?_
  refine normal_thn ?_
  refine aw_seq ?_
  refine aw_region ?_
  refine g_u (s_build_arr rfl tU25 Tryz.underlying25 tS5 rfl rfl rfl rfl) ?_
  refine g_u (s_fieldAddr rfl rfl fa33_1 rfl) ?_
  refine g_u (s_store_imm rfl rfl rfl tS25 rfl rfl) ?_
  refine g_nil ?_
  refine normal_thn ?_
  refine aw_pack 1002 rfl rfl ?_
  refine aw_seq ?_
  refine aw_region ?_
  refine g_u (s_fieldAddr rfl rfl fa33_5 rfl) ?_
  refine g_u (s_store_imm rfl rfl rfl tS3 rfl rfl) ?_
  refine g_nil ?_
  refine normal_thn ?_
  refine aw_pack 1003 rfl rfl ?_
  refine aw_seq ?_
  refine aw_region ?_
  refine g_u (s_build rfl tU50 us50 pl50 rfl rfl rfl rfl) ?_
  refine g_u (s_build rfl tU50 us50 pl50 rfl rfl rfl rfl) ?_
  refine g_u (s_buildSlice (X0 := z50) rfl Tryz.underlying27 tS50 tZ50 rfl rfl rfl rfl rfl rfl rfl rfl) ?_
  refine g_u (s_fieldAddr rfl rfl fa33_8 rfl) ?_
  refine g_u (s_store rfl rfl rfl rfl tS27 rfl rfl) ?_
  refine g_nil ?_
  refine normal_thn ?_
  refine aw_pack 1004 rfl rfl ?_
  refine aw_seq ?_
  refine aw_region ?_
  refine g_u (s_load_imm rfl rfl rfl tA33 tS33 rfl (by first | exact getS_w (GSpan.width _) rfl | rfl)) ?_
  refine g_u (s_call1 ((show PCall Tryz.prog Γ0 12 [gW27.av] [gC27.av] from by rw [← w27_canon]; exact pcanonS_c gW27 (by decide))) rfl rfl) ?_
  refine g_uG (s_alloc' 1005 rfl rfl rfl tZ33) rfl ?_
  refine g_u (s_store_imm rfl rfl rfl tS33 (by first | exact beqW (GSpan.width _) | rfl) (by first | exact setS_w (z33_w.trans (GSpan.width _).symm) rfl | rfl)) ?_
  refine g_nil ?_
  refine normal_thn ?_
  refine aw_seq ?_
  refine aw_region ?_
  refine g_u (s_as_imm rfl rfl) ?_
  refine g_nil ?_
  refine normal_thn ?_
  refine aw_seq ?_
  refine aw_draw mixed ?_
  refine g_u (s_load_imm rfl rfl rfl tA33 tS33 rfl (by first | exact getS_w (GSpan.width _) rfl | rfl)) ?_
  refine g_u (s_call1 (spanCheck_c gS27 gS27_ok (by decide)) rfl rfl) ?_
  refine g_u (s_eqI rfl rfl rfl) ?_
  refine g_u (s_mv_imm rfl rfl) ?_
  refine g_case (t := 23) rfl ?_
  rintro (hb1 | hb1)
  · rw [hb1]
    refine g_run rfl rfl (s_load_imm rfl rfl rfl tA33 tS33 rfl (by first | exact getS_w (GSpan.width _) rfl | rfl)) ?_
    refine g_run rfl rfl (s_call1 (spanCheck_c gZ27 gZ27_ok (by decide)) rfl rfl) ?_
    refine g_run rfl rfl (s_eqI rfl rfl rfl) ?_
    refine g_u (s_pick_t rfl rfl rfl) ?_
    refine g_u (s_mv_imm rfl rfl) ?_
    refine g_case (t := 28) rfl ?_
    rintro (hb2 | hb2)
    · rw [hb2]
      refine g_run rfl rfl (s_load_imm rfl rfl rfl tA33 tS33 rfl (by first | exact getS_w (GSpan.width _) rfl | rfl)) ?_
      refine g_run rfl rfl (s_call1 (spanCheck_c gK27 gK27_ok (by decide)) rfl rfl) ?_
      refine g_run rfl rfl (s_eqI rfl rfl rfl) ?_
      refine g_u (s_pick_t rfl rfl rfl) ?_
      refine g_u (s_mv_imm rfl rfl) ?_
      refine g_case (t := 33) rfl ?_
      rintro (hb3 | hb3)
      · rw [hb3]
        refine g_run rfl rfl (s_load_imm rfl rfl rfl tA33 tS33 rfl (by first | exact getS_w (GSpan.width _) rfl | rfl)) ?_
        refine g_run rfl rfl (s_call1 (spanCheck_c gW27 gW27_ok (by decide)) rfl rfl) ?_
        refine g_run rfl rfl (s_eqI rfl rfl rfl) ?_
        refine g_u (s_pick_t rfl rfl rfl) ?_
        refine g_u (s_mv_imm rfl rfl) ?_
        refine g_case (t := 38) rfl ?_
        rintro (hb4 | hb4)
        · rw [hb4]
          refine g_run rfl rfl (s_load_imm rfl rfl rfl tA33 tS33 rfl (by first | exact getS_w (GSpan.width _) rfl | rfl)) ?_
          refine g_run rfl rfl (s_call1 (spanCheck_c gC27 gC27_ok (by decide)) rfl rfl) ?_
          refine g_run rfl rfl (s_eqI rfl rfl rfl) ?_
          refine g_u (s_pick_t rfl rfl rfl) ?_
          refine g_u (s_mv_imm rfl rfl) ?_
          refine g_case (t := 43) rfl ?_
          rintro (hb5 | hb5)
          · rw [hb5]
            refine g_run rfl rfl (s_load_imm rfl rfl rfl tA33 tS33 rfl (by first | exact getS_w (GSpan.width _) rfl | rfl)) ?_
            refine g_run rfl rfl (s_call1 (plain27_c) rfl rfl) ?_
            refine g_run rfl rfl (s_call1 (psameS_c gS27 gS27 (by decide)) rfl rfl) ?_
            refine g_u (s_pick_t rfl rfl rfl) ?_
            refine g_u (s_mv_imm rfl rfl) ?_
            refine g_case (t := 48) rfl ?_
            rintro (hb6 | hb6)
            · rw [hb6]
              refine g_run rfl rfl (s_load_imm rfl rfl rfl tA33 tS33 rfl (by first | exact getS_w (GSpan.width _) rfl | rfl)) ?_
              refine g_run rfl rfl (s_load_imm rfl rfl rfl tA33 tS33 rfl (by first | exact getS_w (GSpan.width _) rfl | rfl)) ?_
              refine g_run rfl rfl (s_call1 (psameS_c gS27 gW27 (by decide)) rfl rfl) ?_
              refine g_run rfl rfl (s_not rfl rfl) ?_
              refine g_u (s_pick_t rfl rfl rfl) ?_
              refine g_u (s_mv_imm rfl rfl) ?_
              refine g_case (t := 54) rfl ?_
              rintro (hb7 | hb7)
              · rw [hb7]
                refine g_run rfl rfl (s_call1 (spanName_c ⟨#[255]⟩ (by decide)) rfl rfl) ?_
                refine g_run rfl rfl (s_eqI rfl rfl rfl) ?_
                refine g_u (s_pick_t rfl rfl rfl) ?_
                refine g_u (s_mv_imm rfl rfl) ?_
                refine g_case (t := 58) rfl ?_
                rintro (hb8 | hb8)
                · rw [hb8]
                  refine g_run rfl rfl (s_mv_imm rfl rfl) ?_
                  refine g_u (s_pick_t rfl rfl rfl) ?_
                  refine g_u (s_as_imm rfl rfl) ?_
                  refine g_nil ⟨by kernel_rfl, ?_⟩
                  refine normal_thn ?_
                  refine aw_ret ?_
                  exact ⟨⟨(rfl : toAV (Al.look _ _) = some _).trans (congrArg some (by rfl)), rfl⟩, trivial⟩
                · exact killT hb8 (by first | rfl | decide +kernel)
              · exact killT hb7 ((by rw [decide_eq_false n27]; rfl))
            · exact killT hb6 ((by exact decide_eq_true rfl))
          · exact killT hb5 (by first | rfl | decide +kernel)
        · exact killT hb4 (by first | rfl | decide +kernel)
      · exact killT hb3 (by first | rfl | decide +kernel)
    · exact killT hb2 (by first | rfl | decide +kernel)
  · exact killT hb1 (by first | rfl | decide +kernel)

end Go.Proofs

namespace Go.Proofs
open Go Go.Al
set_option maxRecDepth 10000
set_option maxHeartbeats 1000000 in
theorem spanChecks_c (s : GSpan) (t : ByteArray) (ho : s.ok) (ht : t.size ≤ maxLen) : PCall Tryz.prog Γ0 3 [s.av, sv t] [bv true] := by
  have hm : maxLen < 9223372036854775808 := by unfold maxLen; omega
  refine pcall_of Tryz.func3 rfl Tryz.ntmps3 (by kernel_rfl) rfl fun w0 I0 G0 => ?_
  refine aw_seq ?_
  refine aw_region ?_
  refine g_uG (s_box_imm 1002 rfl rfl rfl rfl) rfl ?_
  refine g_u (s_as_imm rfl rfl) ?_
  refine g_nil ?_
  refine normal_thn ?_
  refine aw_seq ?_
  refine aw_seq ?_
  refine aw_region ?_
  refine g_u (s_load_imm rfl rfl rfl tA33 tS33 rfl (by first | exact getS_w (GSpan.width _) rfl | rfl)) ?_
  refine g_u (s_call1 (leftS_c _ _ (by decide)) rfl rfl) ?_
  refine g_u (s_ltI rfl rfl rfl) ?_
  refine g_nil ?_
  refine normal_thn ?_
  refine aw_cond rfl (fun hb1 => ?_) (fun hb1 => ?_)
  · skip
    have z1 : leftS s 4000 < 0 := of_decide_eq_true hb1
    refine aw_seq ?_
    refine aw_region ?_
    refine g_u (s_call1 (works27_c) rfl rfl) ?_
    refine g_u (s_as_imm rfl rfl) ?_
    refine g_nil ?_
    refine normal_thn ?_
    refine aw_ret ?_
    refine ret_thn ?_
    exact ⟨⟨(rfl : toAV (Al.look _ _) = some _).trans (congrArg some (by rfl)), rfl⟩, trivial⟩
  · skip
    have z1 : ¬ leftS s 4000 < 0 := of_decide_eq_false hb1
    have hwa := leftS_le z1
    refine aw_skip ?_
    refine normal_thn ?_
    refine aw_seq ?_
    refine aw_draw mixed ?_
    refine g_u (s_load_imm rfl rfl rfl tA33 tS33 rfl (by first | exact getS_w (GSpan.width _) rfl | rfl)) ?_
    refine g_u (s_call1 (spanCheck_c _ ho (by omega)) rfl rfl) ?_
    refine g_u (s_load_imm rfl rfl rfl tA33 tS33 rfl (by first | exact getS_w (GSpan.width _) rfl | rfl)) ?_
    refine g_u (s_call1 (rspanCheck_c _ ho (by omega)) rfl rfl) ?_
    refine g_u (s_eqI rfl rfl rfl) ?_
    refine g_u (s_mv_imm rfl rfl) ?_
    refine g_case (t := 14) rfl ?_
    rintro (hb2 | hb2)
    · rw [hb2]
      refine g_run rfl rfl (s_mv_imm rfl rfl) ?_
      refine g_run rfl rfl (s_call1 (spanName_c _ (by omega)) rfl rfl) ?_
      refine g_run rfl rfl (s_mv_imm rfl rfl) ?_
      refine g_run rfl rfl (s_call1 (rname_c _ (by omega)) rfl rfl) ?_
      refine g_run rfl rfl (s_eqI rfl rfl rfl) ?_
      refine g_u (s_pick_t rfl rfl rfl) ?_
      refine g_u (s_mv_imm rfl rfl) ?_
      refine g_case (t := 21) rfl ?_
      rintro (hb3 | hb3)
      · rw [hb3]
        refine g_run rfl rfl (s_call1 (works27_c) rfl rfl) ?_
        refine g_u (s_pick_t rfl rfl rfl) ?_
        refine g_u (s_as_imm rfl rfl) ?_
        refine g_nil ⟨by kernel_rfl, ?_⟩
        refine normal_thn ?_
        refine aw_ret ?_
        exact ⟨⟨(rfl : toAV (Al.look _ _) = some _).trans (congrArg some (by rfl)), rfl⟩, trivial⟩
      · exact killT hb3 ((by exact beq_self_eq_true _))
    · exact killT hb2 ((by exact beq_self_eq_true _))

end Go.Proofs

