/- Texts that the proofs of this claim share, part 7: the abstract logic, plain Lean on values and batches, and walks. No condition but those typed in each lemma. -/
import Derived.Test.YtilolbiefnbccaaDoorP6
set_option linter.unusedSimpArgs false
set_option linter.unusedVariables false
namespace Go.Proofs
open Go Go.Al
set_option maxRecDepth 10000
set_option maxHeartbeats 4000000 in
theorem pscope_c (c : GScope) (hw : c.wt ≤ 1000000) : PCall Tryd.prog Γ0 37 [c.av] [(canonSc c).av] := by
  have qw : c.wt = 1 + c.name.size + c.version.size + sumBy GSpan.wt c.spans := rfl
  have ql := sumBy_len GSpan.wt (fun e => by unfold GSpan.wt; omega) c.spans
  refine pcall_of Tryd.func37 rfl Tryd.ntmps37 (by kernel_rfl) rfl fun w0 I0 G0 => ?_
  refine aw_seq ?_
  refine aw_region ?_
  refine g_uG (s_box_imm 1001 rfl rfl rfl rfl) rfl ?_
  refine g_uG (s_alloc' 1002 rfl rfl rfl tZ67) rfl ?_
  refine g_nil ?_
  refine normal_thn ?_
  refine aw_seq ?_
  refine aw_region ?_
  refine g_u (s_fieldAddr rfl rfl fa67_0 rfl) ?_
  refine g_u (s_load_imm rfl rfl rfl tA9 tS9 rfl rfl) ?_
  refine g_u (s_fieldAddr rfl rfl fa67_1 rfl) ?_
  refine g_u (s_load_imm rfl rfl rfl tA9 tS9 rfl rfl) ?_
  refine g_u (s_build rfl tZ67 us67 pl67 rfl rfl rfl rfl) ?_
  refine g_uG (s_alloc' 1003 rfl rfl rfl tZ67) rfl ?_
  refine g_u (s_store_imm rfl rfl rfl tS67 rfl rfl) ?_
  refine g_nil ?_
  refine normal_thn ?_
  refine aw_seq ?_
  refine aw_seq ?_
  refine aw_newtokB 3099 1003 42 2 rfl rfl rfl rfl rfl rfl rfl ?_
  refine aw_region ?_
  refine g_u (s_fieldAddr rfl rfl fa67_2 rfl) ?_
  refine g_u (s_load_imm rfl rfl rfl tA61 tS61 rfl rfl) ?_
  refine g_u (s_lenL rfl rfl Tryd.underlying61) ?_
  refine g_u (s_mv_imm rfl rfl) ?_
  refine g_nil ?_
  refine normal_thn ?_
  refine aw_block ?_
  refine aw_loop' (fun i : Nat => [(2, .ptr 1002 0), (1002, .box 67 (.imm z67)), (3, .ptr 1003 0), (1003, .box 67 (.agg [.imm (sv c.name), .imm (sv c.version), .slg 3099 42 ((c.spans.take i).map fun s => (canonS s).av)])), (3099, .tok 42 ((c.spans.take i).map fun s => (canonS s).av)), (12, .imm (.sl 42 (c.spans.map GSpan.av))), (13, .imm (iv (c.spans.length : Int))), (14, .imm (iv (i : Int)))]) (fun i => i ≤ c.spans.length) (fun i => c.spans.length - i) (0) ?_ ⟨rfl, rfl, rfl, rfl, rfl, rfl, look_int rfl (by rw [List.length_map]), rfl, trivial⟩ ?_
  · exact Nat.zero_le _
  · rintro i h1; have h1 : i ≤ c.spans.length := h1
    refine aw_seq ?_
    refine aw_region ?_
    refine g_u (s_ltI rfl rfl rfl) ?_
    refine g_nil ?_
    refine normal_thn ?_
    refine aw_seq ?_
    refine aw_cond rfl (fun hb1 => ?_) (fun hb1 => ?_)
    · skip
      have hi : i < c.spans.length := by have := of_decide_eq_true hb1; (try simp only [List.length_map] at this); omega
      have hx : (nthS c.spans i).wt ≤ 1000000 := by have h5 := sumBy_mem GSpan.wt (nthS_mem hi); omega
      refine aw_skip ?_
      refine normal_thn ?_
      refine aw_seq ?_
      refine aw_block ?_
      refine aw_seq ?_
      refine aw_region ?_
      refine g_u (s_indexAddr rfl rfl rfl Tryd.underlying61 tS52 (by omega) (ixS hi)) ?_
      refine g_u (s_load_cp rfl rfl tA52 tS52 rfl (by first | exact getS_w (GSpan.width _) rfl | rfl)) ?_
      refine g_uG (s_alloc' 1005 rfl rfl rfl tZ52) rfl ?_
      refine g_u (s_store_imm rfl rfl rfl tS52 (by first | exact beqW (GSpan.width _) | rfl) (by first | exact setS_w (z52_w.trans (GSpan.width _).symm) rfl | rfl)) ?_
      refine g_nil ?_
      refine normal_thn ?_
      refine aw_draw mixed ?_
      refine g_u (s_fieldAddr rfl rfl fa67_2 rfl) ?_
      refine g_u (s_load_slg rfl rfl rfl tA61 tS61 rfl rfl) ?_
      refine g_u (s_load_imm rfl rfl rfl tA52 tS52 rfl (by first | exact getS_w (GSpan.width _) rfl | rfl)) ?_
      refine g_u (s_call1 (pcanonS_c (nthS c.spans i) hx) rfl rfl) ?_
      refine g_u (s_buildSlice (X0 := z52) rfl Tryd.underlying61 tS52 tZ52 rfl rfl rfl rfl rfl rfl rfl rfl) ?_
      refine g_u (s_append rfl rfl rfl rfl rfl Tryd.underlying61 Tryd.underlying61 tS52 zv52 rfl (by decide) by52 (by (try dsimp only); simp only [List.length_append, List.length_cons, List.length_nil, List.length_map, List.length_take, List.length_drop]; omega) (by (try dsimp only); simp only [List.length_append, List.length_cons, List.length_nil, List.length_map, List.length_take, List.length_drop]; omega)) ?_
      refine g_u (s_fieldAddr rfl rfl fa67_2 rfl) ?_
      refine g_u (s_store rfl rfl rfl rfl tS61 rfl rfl) ?_
      refine g_nil ⟨by kernel_rfl, ?_⟩
      refine normal_blk ?_
      refine normal_thn ?_
      refine aw_region ?_
      refine g_u (s_add rfl rfl rfl) ?_
      refine g_u (s_mv_imm rfl rfl) ?_
      refine g_nil ?_
      refine normal_thn ?_
      have et : ((c.spans.take (i + 1)).map fun s => (canonS s).av) = ((c.spans.take i).map fun s => (canonS s).av) ++ [(canonS (nthS c.spans i)).av] := by rw [take_snoc (nth_get (d := gs0) hi), List.map_append]; rfl
      refine ⟨i + 1, hi, ⟨rfl, rfl, rfl, (by rw [et]; rfl), look_tok rfl et.symm, rfl, rfl, look_int rfl (by rw [wrap64 (by omega) (by omega)]; rfl), trivial⟩, by (try dsimp only); omega⟩
    · skip
      have hin : i = c.spans.length := by have := of_decide_eq_false hb1; (try simp only [List.length_map] at this); omega
      refine aw_exit ?_
      refine exit_thn ?_
      refine exit_thn ?_
      refine exit_blk ?_
      refine normal_thn ?_
      refine aw_seq ?_
      refine aw_region ?_
      refine g_u (s_load_agg rfl rfl rfl tA67 tS67 rfl rfl) ?_
      refine g_u (s_store_imm rfl rfl rfl tS67 rfl rfl) ?_
      refine g_nil ?_
      refine normal_thn ?_
      refine aw_ret ?_
      exact ⟨⟨_, _, _, _, _, _, _, rfl, rfl, tA67, tS67, rfl, rfl, (rfl : toAV _ = some _).trans (congrArg some (by (rw [hin, List.take_length]; show _ = GScope.av (canonSc c); simp only [GScope.av, canonSc, List.map_map]; rfl)))⟩, trivial⟩

end Go.Proofs

namespace Go.Proofs
open Go Go.Al
set_option maxRecDepth 10000
set_option maxHeartbeats 8000000 in
theorem pcanonB_c (b : List GRes) (hw : wtB b ≤ 1000000) : PCall Tryd.prog Γ0 12 [batchAv b] [batchAv (canonB b)] := by
  have ql := sumBy_len GRes.wt (fun e => by unfold GRes.wt; omega) b
  have qw : wtB b = sumBy GRes.wt b := rfl
  refine pcall_of Tryd.func12 rfl Tryd.ntmps12 (by kernel_rfl) rfl fun w0 I0 G0 => ?_
  refine aw_seq ?_
  refine aw_region ?_
  refine g_uG (s_box_imm 1001 rfl rfl rfl rfl) rfl ?_
  refine g_uG (s_alloc' 1002 rfl rfl rfl tZ24) rfl ?_
  refine g_nil ?_
  refine normal_thn ?_
  refine aw_seq ?_
  refine aw_region ?_
  refine g_uG (s_alloc' 1003 rfl rfl rfl tZ24) rfl ?_
  refine g_nil ?_
  refine normal_thn ?_
  refine aw_seq ?_
  refine aw_seq ?_
  refine aw_newtokB 3098 1003 2 0 rfl rfl rfl rfl rfl rfl rfl ?_
  refine aw_region ?_
  refine g_u (s_fieldAddr rfl rfl fa24_0 rfl) ?_
  refine g_u (s_load_imm rfl rfl rfl tA22 tS22 rfl rfl) ?_
  refine g_u (s_lenL rfl rfl Tryd.underlying22) ?_
  refine g_u (s_mv_imm rfl rfl) ?_
  refine g_nil ?_
  refine normal_thn ?_
  refine aw_block ?_
  refine aw_loop' (fun i : Nat => [(2, .ptr 1002 0), (1002, .box 24 (.imm z24)), (3, .ptr 1003 0), (1003, .box 24 (.agg [.slg 3098 2 ((b.take i).map fun r => (canonR r).av)])), (3098, .tok 2 ((b.take i).map fun r => (canonR r).av)), (10, .imm (.sl 2 (b.map GRes.av))), (11, .imm (iv (b.length : Int))), (12, .imm (iv (i : Int)))]) (fun i => i ≤ b.length) (fun i => b.length - i) (0) ?_ ⟨rfl, rfl, rfl, rfl, rfl, rfl, look_int rfl (by rw [List.length_map]), rfl, trivial⟩ ?_
  · exact Nat.zero_le _
  · rintro i h1; have h1 : i ≤ b.length := h1
    refine aw_seq ?_
    refine aw_region ?_
    refine g_u (s_ltI rfl rfl rfl) ?_
    refine g_nil ?_
    refine normal_thn ?_
    refine aw_seq ?_
    refine aw_cond rfl (fun hb1 => ?_) (fun hb1 => ?_)
    · skip
      have hi : i < b.length := by have := of_decide_eq_true hb1; (try simp only [List.length_map] at this); omega
      have hc1 := sumBy_mem GRes.wt (nthR_mem hi)
      have hc2 : (nthR b i).wt = 1 + wtAs (nthR b i).attrs + sumBy GScope.wt (nthR b i).scopes := rfl
      have hcl := sumBy_len GScope.wt (fun e => by unfold GScope.wt; omega) (nthR b i).scopes
      refine aw_skip ?_
      refine normal_thn ?_
      refine aw_seq ?_
      refine aw_block ?_
      refine aw_seq ?_
      refine aw_region ?_
      refine g_u (s_indexAddr rfl rfl rfl Tryd.underlying22 tS33 (by omega) (ixR hi)) ?_
      refine g_u (s_load_cp rfl rfl tA33 tS33 rfl rfl) ?_
      refine g_uG (s_alloc' 1005 rfl rfl rfl tZ33) rfl ?_
      refine g_u (s_store_imm rfl rfl rfl tS33 rfl rfl) ?_
      refine g_nil ?_
      refine normal_thn ?_
      refine aw_seq ?_
      refine aw_region ?_
      refine g_u (s_fieldAddr rfl rfl fa33_0 rfl) ?_
      refine g_u (s_load_imm rfl rfl rfl tA30 tS30 rfl rfl) ?_
      refine g_u (s_call1 (pcanonAs_c (nthR b i).attrs (by omega)) rfl rfl) ?_
      refine g_u (s_build rfl tZ33 us33 pl33 rfl rfl rfl rfl) ?_
      refine g_uG (s_alloc' 1006 rfl rfl rfl tZ33) rfl ?_
      refine g_u (s_store_imm rfl rfl rfl tS33 rfl rfl) ?_
      refine g_nil ?_
      refine normal_thn ?_
      refine aw_seq ?_
      refine aw_seq ?_
      refine aw_newtokB 3097 1006 3 1 rfl rfl rfl rfl rfl rfl rfl ?_
      refine aw_region ?_
      refine g_u (s_fieldAddr rfl rfl fa33_1 rfl) ?_
      refine g_u (s_load_imm rfl rfl rfl tA31 tS31 rfl rfl) ?_
      refine g_u (s_lenL rfl rfl Tryd.underlying31) ?_
      refine g_u (s_mv_imm rfl rfl) ?_
      refine g_nil ?_
      refine normal_thn ?_
      refine aw_block ?_
      refine aw_loop' (fun k : Nat => [(2, .ptr 1002 0), (1002, .box 24 (.imm z24)), (3, .ptr 1003 0), (1003, .box 24 (.agg [.slg 3098 2 ((b.take i).map fun r => (canonR r).av)])), (3098, .tok 2 ((b.take i).map fun r => (canonR r).av)), (10, .imm (.sl 2 (b.map GRes.av))), (11, .imm (iv (b.length : Int))), (12, .imm (iv (i : Int))), (6, .ptr 1006 0), (1006, .box 33 (.agg [.imm (.sl 7 ((canonAs (nthR b i).attrs).map avA)), .slg 3097 3 (((nthR b i).scopes.take k).map fun c => (canonSc c).av)])), (3097, .tok 3 (((nthR b i).scopes.take k).map fun c => (canonSc c).av)), (21, .imm (.sl 3 ((nthR b i).scopes.map GScope.av))), (22, .imm (iv ((nthR b i).scopes.length : Int))), (23, .imm (iv (k : Int)))]) (fun k => k ≤ (nthR b i).scopes.length) (fun k => (nthR b i).scopes.length - k) (0) ?_ ⟨rfl, rfl, rfl, rfl, rfl, rfl, rfl, rfl, rfl, rfl, rfl, rfl, look_int rfl (by rw [List.length_map]), rfl, trivial⟩ ?_
      · exact Nat.zero_le _
      · rintro k g1; have g1 : k ≤ (nthR b i).scopes.length := g1
        refine aw_seq ?_
        refine aw_region ?_
        refine g_u (s_ltI rfl rfl rfl) ?_
        refine g_nil ?_
        refine normal_thn ?_
        refine aw_seq ?_
        refine aw_cond rfl (fun hb2 => ?_) (fun hb2 => ?_)
        · skip
          have hk : k < (nthR b i).scopes.length := by have := of_decide_eq_true hb2; (try simp only [List.length_map] at this); omega
          have hx : (nthC (nthR b i).scopes k).wt ≤ 1000000 := by have h5 := sumBy_mem GScope.wt (nthC_mem hk); omega
          refine aw_skip ?_
          refine normal_thn ?_
          refine aw_seq ?_
          refine aw_block ?_
          refine aw_seq ?_
          refine aw_region ?_
          refine g_u (s_indexAddr rfl rfl rfl Tryd.underlying31 tS67 (by omega) (ixC hk)) ?_
          refine g_u (s_load_cp rfl rfl tA67 tS67 rfl rfl) ?_
          refine g_uG (s_alloc' 1008 rfl rfl rfl tZ67) rfl ?_
          refine g_u (s_store_imm rfl rfl rfl tS67 rfl rfl) ?_
          refine g_nil ?_
          refine normal_thn ?_
          refine aw_draw mixed ?_
          refine g_u (s_fieldAddr rfl rfl fa33_1 rfl) ?_
          refine g_u (s_load_slg rfl rfl rfl tA31 tS31 rfl rfl) ?_
          refine g_u (s_load_agg rfl rfl rfl tA67 tS67 rfl rfl) ?_
          refine g_u (s_call1 (pscope_c _ hx) rfl rfl) ?_
          refine g_u (s_buildSlice (X0 := z67) rfl Tryd.underlying31 tS67 tZ67 rfl rfl rfl rfl rfl rfl rfl rfl) ?_
          refine g_u (s_append rfl rfl rfl rfl rfl Tryd.underlying31 Tryd.underlying31 tS67 zv67 rfl (by decide) by67 (by (try dsimp only); simp only [List.length_append, List.length_cons, List.length_nil, List.length_map, List.length_take, List.length_drop]; omega) (by (try dsimp only); simp only [List.length_append, List.length_cons, List.length_nil, List.length_map, List.length_take, List.length_drop]; omega)) ?_
          refine g_u (s_fieldAddr rfl rfl fa33_1 rfl) ?_
          refine g_u (s_store rfl rfl rfl rfl tS31 rfl rfl) ?_
          refine g_nil ⟨by kernel_rfl, ?_⟩
          refine normal_blk ?_
          refine normal_thn ?_
          refine aw_region ?_
          refine g_u (s_add rfl rfl rfl) ?_
          refine g_u (s_mv_imm rfl rfl) ?_
          refine g_nil ?_
          refine normal_thn ?_
          have et : (((nthR b i).scopes.take (k + 1)).map fun c => (canonSc c).av) = (((nthR b i).scopes.take k).map fun c => (canonSc c).av) ++ [(canonSc (nthC (nthR b i).scopes k)).av] := by rw [take_snoc (nth_get (d := gc0) hk), List.map_append]; rfl
          refine ⟨k + 1, hk, ⟨rfl, rfl, rfl, rfl, rfl, rfl, rfl, rfl, rfl, (by rw [et]; rfl), look_tok rfl et.symm, rfl, rfl, look_int rfl (by rw [wrap64 (by omega) (by omega)]; rfl), trivial⟩, by (try dsimp only); omega⟩
        · skip
          have hkn : k = (nthR b i).scopes.length := by have := of_decide_eq_false hb2; (try simp only [List.length_map] at this); omega
          refine aw_exit ?_
          refine exit_thn ?_
          refine exit_thn ?_
          refine exit_blk ?_
          refine normal_thn ?_
          refine aw_region ?_
          refine g_u (s_fieldAddr rfl rfl fa24_0 rfl) ?_
          refine g_u (s_load_slg rfl rfl rfl tA22 tS22 rfl rfl) ?_
          refine g_u (s_load_agg rfl rfl rfl tA33 tS33 rfl rfl) ?_
          refine g_u (s_buildSlice (X0 := z33) rfl Tryd.underlying22 tS33 tZ33 rfl rfl rfl rfl rfl rfl rfl rfl) ?_
          refine g_u (s_append rfl rfl rfl rfl rfl Tryd.underlying22 Tryd.underlying22 tS33 zv33 rfl (by decide) by33 (by (try dsimp only); simp only [List.length_append, List.length_cons, List.length_nil, List.length_map, List.length_take, List.length_drop]; omega) (by (try dsimp only); simp only [List.length_append, List.length_cons, List.length_nil, List.length_map, List.length_take, List.length_drop]; omega)) ?_
          refine g_u (s_fieldAddr rfl rfl fa24_0 rfl) ?_
          refine g_u (s_store rfl rfl rfl rfl tS22 rfl rfl) ?_
          refine g_nil ?_
          refine normal_blk ?_
          refine normal_thn ?_
          refine aw_region ?_
          refine g_u (s_add rfl rfl rfl) ?_
          refine g_u (s_mv_imm rfl rfl) ?_
          refine g_nil ?_
          refine normal_thn ?_
          have et : ((b.take (i + 1)).map fun r => (canonR r).av) = ((b.take i).map fun r => (canonR r).av) ++ [.agg [.sl 7 ((canonAs (nthR b i).attrs).map avA), .sl 3 (((nthR b i).scopes.take k).map fun c => (canonSc c).av)]] := by
            rw [take_snoc (nth_get (d := gr0) hi), List.map_append]; refine congrArg (_ ++ ·) ?_
            show [(canonR (nthR b i)).av] = _
            rw [hkn, List.take_length]; simp only [GRes.av, canonR, List.map_map]; rfl
          refine ⟨i + 1, hi, ⟨rfl, rfl, rfl, (by rw [et]; rfl), look_tok rfl et.symm, rfl, rfl, look_int rfl (by rw [wrap64 (by omega) (by omega)]; rfl), trivial⟩, by (try dsimp only); omega⟩
    · skip
      have hin : i = b.length := by have := of_decide_eq_false hb1; (try simp only [List.length_map] at this); omega
      refine aw_exit ?_
      refine exit_thn ?_
      refine exit_thn ?_
      refine exit_blk ?_
      refine normal_thn ?_
      refine aw_seq ?_
      refine aw_region ?_
      refine g_u (s_load_agg rfl rfl rfl tA24 tS24 rfl rfl) ?_
      refine g_u (s_store_imm rfl rfl rfl tS24 rfl rfl) ?_
      refine g_nil ?_
      refine normal_thn ?_
      refine aw_ret ?_
      exact ⟨⟨_, _, _, _, _, _, _, rfl, rfl, tA24, tS24, rfl, rfl, (rfl : toAV _ = some _).trans (congrArg some (by (rw [hin, List.take_length]; show AV.agg [.sl 2 _] = AV.agg [.sl 2 ((b.map canonR).map GRes.av)]; rw [List.map_map]; rfl)))⟩, trivial⟩

end Go.Proofs

namespace Go.Proofs
open Go Go.Al
set_option maxRecDepth 10000
set_option maxHeartbeats 4000000 in
theorem batchAt_c (b : List GRes) (p : Int × Int × Int) : PCall Tryd.prog Γ0 19 [batchAv b, placeAv p] [(atS b p).av, bv (inB b p)] := by
  refine pcall_of Tryd.func19 rfl Tryd.ntmps19 (by kernel_rfl) rfl fun w0 I0 G0 => ?_
  refine aw_seq ?_
  refine aw_region ?_
  refine g_uG (s_box_imm 1002 rfl rfl rfl rfl) rfl ?_
  refine g_uG (s_box_imm 1003 rfl rfl rfl rfl) rfl ?_
  refine g_uG (s_alloc' 1004 rfl rfl rfl tZ52) rfl ?_
  refine g_u (s_as_imm rfl rfl) ?_
  refine g_nil ?_
  refine normal_thn ?_
  refine aw_seq ?_
  refine aw_seq ?_
  refine aw_region ?_
  refine g_u (s_fieldAddr rfl rfl fa55_0 rfl) ?_
  refine g_u (s_load_imm rfl rfl rfl tA3 tS3 rfl rfl) ?_
  refine g_u (s_ltI rfl rfl rfl) ?_
  refine g_u (s_mv_imm rfl rfl) ?_
  refine g_case (t := 11) rfl ?_
  rintro (hb1 | hb1)
  · rw [hb1]
    have q : p.1 < 0 := of_decide_eq_true hb1
    have hin : inB b p = false := by cases h : inB b p; rfl; have h := inB_iff.1 h; omega
    refine g_skip rfl rfl rfl ?_
    refine g_skip rfl rfl rfl ?_
    refine g_skip rfl rfl rfl ?_
    refine g_skip rfl rfl rfl ?_
    refine g_skip rfl rfl rfl ?_
    refine g_skip rfl rfl rfl ?_
    refine g_u (s_pick_t rfl rfl rfl) ?_
    refine g_nil ?_
    refine normal_thn ?_
    refine aw_cond_true rfl ?_
    refine aw_seq ?_
    refine aw_region ?_
    refine g_u (s_build rfl tU52 us52 pl52 rfl rfl rfl rfl) ?_
    refine g_u (s_store_imm rfl rfl rfl tS52 (by first | exact beqW (GSpan.width _) | rfl) (by first | exact setS_w (z52_w.trans (GSpan.width _).symm) rfl | rfl)) ?_
    refine g_u (s_as_imm rfl rfl) ?_
    refine g_nil ?_
    refine normal_thn ?_
    refine aw_ret ?_
    refine ret_thn ?_
    exact ⟨⟨_, _, _, _, _, _, _, rfl, rfl, tA52, tS52, rfl, rfl, (rfl : toAV _ = some _).trans (congrArg some (by (first | (rw [hin]; done) | (unfold atS; rw [hin]; rfl))))⟩, ⟨(rfl : toAV (Al.look _ _) = some _).trans (congrArg some (by (first | (rw [hin]; done) | (unfold atS; rw [hin]; rfl)))), rfl⟩, trivial⟩
  · rw [hb1]
    have qp1 : ¬ p.1 < 0 := of_decide_eq_false hb1
    refine g_run rfl rfl (s_fieldAddr rfl rfl fa55_0 rfl) ?_
    refine g_run rfl rfl (s_load_imm rfl rfl rfl tA3 tS3 rfl rfl) ?_
    refine g_run rfl rfl (s_fieldAddr rfl rfl fa24_0 rfl) ?_
    refine g_run rfl rfl (s_load_imm rfl rfl rfl tA22 tS22 rfl rfl) ?_
    refine g_run rfl rfl (s_lenL rfl rfl Tryd.underlying22) ?_
    refine g_run rfl rfl (s_geI rfl rfl rfl) ?_
    refine g_u (s_pick_f rfl rfl rfl) ?_
    refine g_nil ?_
    refine normal_thn ?_
    refine aw_cond rfl (fun hb2 => ?_) (fun hb2 => ?_)
    · skip
      have e : p.1 ≥ ((b.map GRes.av).length : Int) := of_decide_eq_true hb2
      rw [List.length_map] at e
      have hin : inB b p = false := by cases h : inB b p; rfl; have h := inB_iff.1 h; omega
      refine aw_seq ?_
      refine aw_region ?_
      refine g_u (s_build rfl tU52 us52 pl52 rfl rfl rfl rfl) ?_
      refine g_u (s_store_imm rfl rfl rfl tS52 (by first | exact beqW (GSpan.width _) | rfl) (by first | exact setS_w (z52_w.trans (GSpan.width _).symm) rfl | rfl)) ?_
      refine g_u (s_as_imm rfl rfl) ?_
      refine g_nil ?_
      refine normal_thn ?_
      refine aw_ret ?_
      refine ret_thn ?_
      exact ⟨⟨_, _, _, _, _, _, _, rfl, rfl, tA52, tS52, rfl, rfl, (rfl : toAV _ = some _).trans (congrArg some (by (first | (rw [hin]; done) | (unfold atS; rw [hin]; rfl))))⟩, ⟨(rfl : toAV (Al.look _ _) = some _).trans (congrArg some (by (first | (rw [hin]; done) | (unfold atS; rw [hin]; rfl)))), rfl⟩, trivial⟩
    · skip
      have e : ¬ p.1 ≥ ((b.map GRes.av).length : Int) := of_decide_eq_false hb2
      rw [List.length_map] at e
      have n1 : (p.1.toNat : Int) = p.1 := Int.toNat_of_nonneg (by omega)
      refine aw_skip ?_
      refine normal_thn ?_
      refine aw_seq ?_
      refine aw_region ?_
      refine g_u (s_fieldAddr rfl rfl fa24_0 rfl) ?_
      refine g_u (s_load_imm rfl rfl rfl tA22 tS22 rfl rfl) ?_
      refine g_u (s_fieldAddr rfl rfl fa55_0 rfl) ?_
      refine g_u (s_load_imm rfl rfl rfl tA3 tS3 rfl rfl) ?_
      refine g_u (s_indexAddr rfl rfl rfl Tryd.underlying22 tS33 (by omega) (nth_map (d := gr0) (show p.1.toNat < b.length by omega))) ?_
      refine g_u (s_fieldAddr_cp rfl rfl fa33_1 rfl rfl) ?_
      refine g_u (s_load_cp rfl rfl tA31 tS31 rfl rfl) ?_
      refine g_u (s_as_imm rfl rfl) ?_
      refine g_nil ?_
      refine normal_thn ?_
      refine aw_seq ?_
      refine aw_seq ?_
      refine aw_region ?_
      refine g_u (s_fieldAddr rfl rfl fa55_1 rfl) ?_
      refine g_u (s_load_imm rfl rfl rfl tA3 tS3 rfl rfl) ?_
      refine g_u (s_ltI rfl rfl rfl) ?_
      refine g_u (s_mv_imm rfl rfl) ?_
      refine g_case (t := 30) rfl ?_
      rintro (hb3 | hb3)
      · rw [hb3]
        have q : p.2.1 < 0 := of_decide_eq_true hb3
        have hin : inB b p = false := by cases h : inB b p; rfl; have h := inB_iff.1 h; omega
        refine g_skip rfl rfl rfl ?_
        refine g_skip rfl rfl rfl ?_
        refine g_skip rfl rfl rfl ?_
        refine g_skip rfl rfl rfl ?_
        refine g_skip rfl rfl rfl ?_
        refine g_u (s_pick_t rfl rfl rfl) ?_
        refine g_nil ?_
        refine normal_thn ?_
        refine aw_cond_true rfl ?_
        refine aw_seq ?_
        refine aw_region ?_
        refine g_u (s_build rfl tU52 us52 pl52 rfl rfl rfl rfl) ?_
        refine g_u (s_store_imm rfl rfl rfl tS52 (by first | exact beqW (GSpan.width _) | rfl) (by first | exact setS_w (z52_w.trans (GSpan.width _).symm) rfl | rfl)) ?_
        refine g_u (s_as_imm rfl rfl) ?_
        refine g_nil ?_
        refine normal_thn ?_
        refine aw_ret ?_
        refine ret_thn ?_
        exact ⟨⟨_, _, _, _, _, _, _, rfl, rfl, tA52, tS52, rfl, rfl, (rfl : toAV _ = some _).trans (congrArg some (by (first | (rw [hin]; done) | (unfold atS; rw [hin]; rfl))))⟩, ⟨(rfl : toAV (Al.look _ _) = some _).trans (congrArg some (by (first | (rw [hin]; done) | (unfold atS; rw [hin]; rfl)))), rfl⟩, trivial⟩
      · rw [hb3]
        have qp21 : ¬ p.2.1 < 0 := of_decide_eq_false hb3
        refine g_run rfl rfl (s_fieldAddr rfl rfl fa55_1 rfl) ?_
        refine g_run rfl rfl (s_load_imm rfl rfl rfl tA3 tS3 rfl rfl) ?_
        refine g_run rfl rfl (s_mv_imm rfl rfl) ?_
        refine g_run rfl rfl (s_lenL rfl rfl Tryd.underlying31) ?_
        refine g_run rfl rfl (s_geI rfl rfl rfl) ?_
        refine g_u (s_pick_f rfl rfl rfl) ?_
        refine g_nil ?_
        refine normal_thn ?_
        refine aw_cond rfl (fun hb4 => ?_) (fun hb4 => ?_)
        · skip
          have e : p.2.1 ≥ (((nthR b p.1.toNat).scopes.map GScope.av).length : Int) := of_decide_eq_true hb4
          rw [List.length_map] at e
          have hin : inB b p = false := by cases h : inB b p; rfl; have h := inB_iff.1 h; omega
          refine aw_seq ?_
          refine aw_region ?_
          refine g_u (s_build rfl tU52 us52 pl52 rfl rfl rfl rfl) ?_
          refine g_u (s_store_imm rfl rfl rfl tS52 (by first | exact beqW (GSpan.width _) | rfl) (by first | exact setS_w (z52_w.trans (GSpan.width _).symm) rfl | rfl)) ?_
          refine g_u (s_as_imm rfl rfl) ?_
          refine g_nil ?_
          refine normal_thn ?_
          refine aw_ret ?_
          refine ret_thn ?_
          exact ⟨⟨_, _, _, _, _, _, _, rfl, rfl, tA52, tS52, rfl, rfl, (rfl : toAV _ = some _).trans (congrArg some (by (first | (rw [hin]; done) | (unfold atS; rw [hin]; rfl))))⟩, ⟨(rfl : toAV (Al.look _ _) = some _).trans (congrArg some (by (first | (rw [hin]; done) | (unfold atS; rw [hin]; rfl)))), rfl⟩, trivial⟩
        · skip
          have e : ¬ p.2.1 ≥ (((nthR b p.1.toNat).scopes.map GScope.av).length : Int) := of_decide_eq_false hb4
          rw [List.length_map] at e
          have n2 : (p.2.1.toNat : Int) = p.2.1 := Int.toNat_of_nonneg (by omega)
          refine aw_skip ?_
          refine normal_thn ?_
          refine aw_seq ?_
          refine aw_region ?_
          refine g_u (s_mv_imm rfl rfl) ?_
          refine g_u (s_fieldAddr rfl rfl fa55_1 rfl) ?_
          refine g_u (s_load_imm rfl rfl rfl tA3 tS3 rfl rfl) ?_
          refine g_u (s_indexAddr rfl rfl rfl Tryd.underlying31 tS67 (by omega) (nth_map (d := gc0) (show p.2.1.toNat < (nthR b p.1.toNat).scopes.length by omega))) ?_
          refine g_u (s_fieldAddr_cp rfl rfl fa67_2 rfl rfl) ?_
          refine g_u (s_load_cp rfl rfl tA61 tS61 rfl rfl) ?_
          refine g_u (s_as_imm rfl rfl) ?_
          refine g_nil ?_
          refine normal_thn ?_
          refine aw_seq ?_
          refine aw_seq ?_
          refine aw_region ?_
          refine g_u (s_fieldAddr rfl rfl fa55_2 rfl) ?_
          refine g_u (s_load_imm rfl rfl rfl tA3 tS3 rfl rfl) ?_
          refine g_u (s_ltI rfl rfl rfl) ?_
          refine g_u (s_mv_imm rfl rfl) ?_
          refine g_case (t := 47) rfl ?_
          rintro (hb5 | hb5)
          · rw [hb5]
            have q : p.2.2 < 0 := of_decide_eq_true hb5
            have hin : inB b p = false := by cases h : inB b p; rfl; have h := inB_iff.1 h; omega
            refine g_skip rfl rfl rfl ?_
            refine g_skip rfl rfl rfl ?_
            refine g_skip rfl rfl rfl ?_
            refine g_skip rfl rfl rfl ?_
            refine g_skip rfl rfl rfl ?_
            refine g_u (s_pick_t rfl rfl rfl) ?_
            refine g_nil ?_
            refine normal_thn ?_
            refine aw_cond_true rfl ?_
            refine aw_seq ?_
            refine aw_region ?_
            refine g_u (s_build rfl tU52 us52 pl52 rfl rfl rfl rfl) ?_
            refine g_u (s_store_imm rfl rfl rfl tS52 (by first | exact beqW (GSpan.width _) | rfl) (by first | exact setS_w (z52_w.trans (GSpan.width _).symm) rfl | rfl)) ?_
            refine g_u (s_as_imm rfl rfl) ?_
            refine g_nil ?_
            refine normal_thn ?_
            refine aw_ret ?_
            refine ret_thn ?_
            exact ⟨⟨_, _, _, _, _, _, _, rfl, rfl, tA52, tS52, rfl, rfl, (rfl : toAV _ = some _).trans (congrArg some (by (first | (rw [hin]; done) | (unfold atS; rw [hin]; rfl))))⟩, ⟨(rfl : toAV (Al.look _ _) = some _).trans (congrArg some (by (first | (rw [hin]; done) | (unfold atS; rw [hin]; rfl)))), rfl⟩, trivial⟩
          · rw [hb5]
            have qp22 : ¬ p.2.2 < 0 := of_decide_eq_false hb5
            refine g_run rfl rfl (s_fieldAddr rfl rfl fa55_2 rfl) ?_
            refine g_run rfl rfl (s_load_imm rfl rfl rfl tA3 tS3 rfl rfl) ?_
            refine g_run rfl rfl (s_mv_imm rfl rfl) ?_
            refine g_run rfl rfl (s_lenL rfl rfl Tryd.underlying61) ?_
            refine g_run rfl rfl (s_geI rfl rfl rfl) ?_
            refine g_u (s_pick_f rfl rfl rfl) ?_
            refine g_nil ?_
            refine normal_thn ?_
            refine aw_cond rfl (fun hb6 => ?_) (fun hb6 => ?_)
            · skip
              have e : p.2.2 ≥ (((nthC (nthR b p.1.toNat).scopes p.2.1.toNat).spans.map GSpan.av).length : Int) := of_decide_eq_true hb6
              rw [List.length_map] at e
              have hin : inB b p = false := by cases h : inB b p; rfl; have h := inB_iff.1 h; omega
              refine aw_seq ?_
              refine aw_region ?_
              refine g_u (s_build rfl tU52 us52 pl52 rfl rfl rfl rfl) ?_
              refine g_u (s_store_imm rfl rfl rfl tS52 (by first | exact beqW (GSpan.width _) | rfl) (by first | exact setS_w (z52_w.trans (GSpan.width _).symm) rfl | rfl)) ?_
              refine g_u (s_as_imm rfl rfl) ?_
              refine g_nil ?_
              refine normal_thn ?_
              refine aw_ret ?_
              refine ret_thn ?_
              exact ⟨⟨_, _, _, _, _, _, _, rfl, rfl, tA52, tS52, rfl, rfl, (rfl : toAV _ = some _).trans (congrArg some (by (first | (rw [hin]; done) | (unfold atS; rw [hin]; rfl))))⟩, ⟨(rfl : toAV (Al.look _ _) = some _).trans (congrArg some (by (first | (rw [hin]; done) | (unfold atS; rw [hin]; rfl)))), rfl⟩, trivial⟩
            · skip
              have e : ¬ p.2.2 ≥ (((nthC (nthR b p.1.toNat).scopes p.2.1.toNat).spans.map GSpan.av).length : Int) := of_decide_eq_false hb6
              rw [List.length_map] at e
              have n3 : (p.2.2.toNat : Int) = p.2.2 := Int.toNat_of_nonneg (by omega)
              have hin : inB b p = true := inB_iff.2 ⟨by omega, by omega, ⟨by omega, by omega⟩, by omega, by omega⟩
              refine aw_skip ?_
              refine normal_thn ?_
              refine aw_seq ?_
              refine aw_region ?_
              refine g_u (s_mv_imm rfl rfl) ?_
              refine g_u (s_fieldAddr rfl rfl fa55_2 rfl) ?_
              refine g_u (s_load_imm rfl rfl rfl tA3 tS3 rfl rfl) ?_
              refine g_u (s_indexAddr rfl rfl rfl Tryd.underlying61 tS52 (by omega) (nth_map (d := gs0) (show p.2.2.toNat < (nthC (nthR b p.1.toNat).scopes p.2.1.toNat).spans.length by omega))) ?_
              refine g_u (s_load_cp rfl rfl tA52 tS52 rfl (by first | exact getS_w (GSpan.width _) rfl | rfl)) ?_
              refine g_u (s_store_imm rfl rfl rfl tS52 (by first | exact beqW (GSpan.width _) | rfl) (by first | exact setS_w (z52_w.trans (GSpan.width _).symm) rfl | rfl)) ?_
              refine g_u (s_as_imm rfl rfl) ?_
              refine g_nil ?_
              refine normal_thn ?_
              refine aw_ret ?_
              exact ⟨⟨_, _, _, _, _, _, _, rfl, rfl, tA52, tS52, rfl, rfl, (rfl : toAV _ = some _).trans (congrArg some (by (first | (rw [hin]; done) | (unfold atS; rw [hin]; rfl))))⟩, ⟨(rfl : toAV (Al.look _ _) = some _).trans (congrArg some (by (first | (rw [hin]; done) | (unfold atS; rw [hin]; rfl)))), rfl⟩, trivial⟩

set_option maxHeartbeats 4000000 in
theorem rspan28_c (b : List GRes) (p : Int × Int × Int) (h : inB b p = true) : PCall Tryd.prog Γ0 21 [batchAv b, placeAv p] [(atS b p).av] := by
  have h9 := inB_iff.1 h
  have n1 : (p.1.toNat : Int) = p.1 := Int.toNat_of_nonneg (by omega)
  have n2 : (p.2.1.toNat : Int) = p.2.1 := Int.toNat_of_nonneg (by omega)
  have n3 : (p.2.2.toNat : Int) = p.2.2 := Int.toNat_of_nonneg (by omega)
  refine pcall_of Tryd.func21 rfl Tryd.ntmps21 (by kernel_rfl) rfl fun w0 I0 G0 => ?_
  refine aw_seq ?_
  refine aw_region ?_
  refine g_uG (s_box_imm 1002 rfl rfl rfl rfl) rfl ?_
  refine g_uG (s_box_imm 1003 rfl rfl rfl rfl) rfl ?_
  refine g_uG (s_alloc' 1004 rfl rfl rfl tZ52) rfl ?_
  refine g_nil ?_
  refine normal_thn ?_
  refine aw_seq ?_
  refine aw_draw mixed ?_
  refine g_u (s_fieldAddr rfl rfl fa24_0 rfl) ?_
  refine g_u (s_load_imm rfl rfl rfl tA22 tS22 rfl rfl) ?_
  refine g_u (s_fieldAddr rfl rfl fa36_0 rfl) ?_
  refine g_u (s_load_imm rfl rfl rfl tA3 tS3 rfl rfl) ?_
  refine g_u (s_indexAddr rfl rfl rfl Tryd.underlying22 tS33 (by omega) (nth_map (d := gr0) (show p.1.toNat < b.length by omega))) ?_
  refine g_u (s_fieldAddr_cp rfl rfl fa33_1 rfl rfl) ?_
  refine g_u (s_load_cp rfl rfl tA31 tS31 rfl rfl) ?_
  refine g_u (s_fieldAddr rfl rfl fa36_1 rfl) ?_
  refine g_u (s_load_imm rfl rfl rfl tA3 tS3 rfl rfl) ?_
  refine g_u (s_indexAddr rfl rfl rfl Tryd.underlying31 tS67 (by omega) (nth_map (d := gc0) (show p.2.1.toNat < (nthR b p.1.toNat).scopes.length by omega))) ?_
  refine g_u (s_fieldAddr_cp rfl rfl fa67_2 rfl rfl) ?_
  refine g_u (s_load_cp rfl rfl tA61 tS61 rfl rfl) ?_
  refine g_u (s_fieldAddr rfl rfl fa36_2 rfl) ?_
  refine g_u (s_load_imm rfl rfl rfl tA3 tS3 rfl rfl) ?_
  refine g_u (s_indexAddr rfl rfl rfl Tryd.underlying61 tS52 (by omega) (nth_map (d := gs0) (show p.2.2.toNat < (nthC (nthR b p.1.toNat).scopes p.2.1.toNat).spans.length by omega))) ?_
  refine g_u (s_load_cp rfl rfl tA52 tS52 rfl (by first | exact getS_w (GSpan.width _) rfl | rfl)) ?_
  refine g_u (s_store_imm rfl rfl rfl tS52 (by first | exact beqW (GSpan.width _) | rfl) (by first | exact setS_w (z52_w.trans (GSpan.width _).symm) rfl | rfl)) ?_
  refine g_nil ⟨by kernel_rfl, ?_⟩
  refine normal_thn ?_
  refine aw_ret ?_
  exact ⟨⟨_, _, _, _, _, _, _, rfl, rfl, tA52, tS52, rfl, rfl, (rfl : toAV _ = some _).trans (congrArg some (by (unfold atS; rw [h]; rfl)))⟩, trivial⟩

set_option maxHeartbeats 4000000 in
theorem all1_c (b : List GRes) (hw : wtB b ≤ 9000000) : SeqC Tryd.prog Γ0 55 [.cp (batchAv b)] (seqB b) := by
  have ql := sumBy_len GRes.wt (fun e => by unfold GRes.wt; omega) b
  have qw : wtB b = sumBy GRes.wt b := rfl
  refine seqc_of Tryd.func55 rfl Tryd.ntmps55 (by kernel_rfl) rfl rfl fun n l J hJ hy => ?_
  refine awj_seq ?_
  refine awj_region hJ (fun w0 G0 => ?_)
  refine g_u (s_fieldAddr_cp rfl rfl fa24_0 rfl rfl) ?_
  refine g_u (s_load_cp rfl rfl tA22 tS22 rfl rfl) ?_
  refine g_u (s_lenL rfl rfl Tryd.underlying22) ?_
  refine g_u (s_mv_imm rfl rfl) ?_
  refine g_nil ⟨rfl, ?_⟩
  refine normal_thnJ ?_
  refine awj_block ?_
  refine awj_loop' (fun i : Nat => [(0, .imm (.v (.func (.yield l) #[] #[]))), (1, .imm (.cp (batchAv b))), (9, .imm (iv (b.length : Int))), (10, .imm (iv (i : Int)))]) (fun i : Nat => some (plR 0 (b.take i)).length) (fun i => i ≤ b.length) (fun i => b.length - i) (0) (rfl) ?_ ⟨rfl, rfl, look_int rfl (by rw [List.length_map]), rfl, trivial⟩ ?_
  · exact Nat.zero_le _
  · rintro i h1; have h1 : i ≤ b.length := h1
    refine awj_seq ?_
    refine awj_region hJ (fun w0 G0 => ?_)
    refine g_u (s_ltI rfl rfl rfl) ?_
    refine g_nil ⟨rfl, ?_⟩
    refine normal_thnJ ?_
    refine awj_seq ?_
    refine awj_cond rfl (fun hb1 => ?_) (fun hb1 => ?_)
    · skip
      have hi : i < b.length := by have := of_decide_eq_true hb1; (try simp only [List.length_map] at this); omega
      have hc1 := sumBy_mem GRes.wt (nthR_mem hi)
      have hc2 : (nthR b i).wt = 1 + wtAs (nthR b i).attrs + sumBy GScope.wt (nthR b i).scopes := rfl
      have hcl := sumBy_len GScope.wt (fun e => by unfold GScope.wt; omega) (nthR b i).scopes
      refine awj_skip ?_
      refine normal_thnJ ?_
      refine awj_seq ?_
      refine awj_block ?_
      refine awj_seq ?_
      refine awj_region hJ (fun w0 G0 => ?_)
      refine g_u (s_mv_imm rfl rfl) ?_
      refine g_u (s_as_imm rfl rfl) ?_
      refine g_nil ⟨rfl, ?_⟩
      refine normal_thnJ ?_
      refine awj_seq ?_
      refine awj_region hJ (fun w0 G0 => ?_)
      refine g_u (s_fieldAddr_cp rfl rfl fa24_0 rfl rfl) ?_
      refine g_u (s_load_cp rfl rfl tA22 tS22 rfl rfl) ?_
      refine g_u (s_mv_imm rfl rfl) ?_
      refine g_u (s_indexAddr rfl rfl rfl Tryd.underlying22 tS33 (by omega) (ixR hi)) ?_
      refine g_u (s_fieldAddr_cp rfl rfl fa33_1 rfl rfl) ?_
      refine g_u (s_load_cp rfl rfl tA31 tS31 rfl rfl) ?_
      refine g_u (s_as_imm rfl rfl) ?_
      refine g_nil ⟨rfl, ?_⟩
      refine normal_thnJ ?_
      refine awj_seq ?_
      refine awj_region hJ (fun w0 G0 => ?_)
      refine g_u (s_mv_imm rfl rfl) ?_
      refine g_u (s_lenL rfl rfl Tryd.underlying31) ?_
      refine g_u (s_mv_imm rfl rfl) ?_
      refine g_nil ⟨rfl, ?_⟩
      refine normal_thnJ ?_
      refine awj_block ?_
      refine awj_loop' (fun k : Nat => [(0, .imm (.v (.func (.yield l) #[] #[]))), (1, .imm (.cp (batchAv b))), (9, .imm (iv (b.length : Int))), (10, .imm (iv (i : Int))), (3, .imm (iv (i : Int))), (4, .imm (.sl 3 ((nthR b i).scopes.map GScope.av))), (20, .imm (iv ((nthR b i).scopes.length : Int))), (21, .imm (iv (k : Int)))]) (fun k : Nat => some ((plR 0 (b.take i)).length + (plC i 0 ((nthR b i).scopes.take k)).length)) (fun k => k ≤ (nthR b i).scopes.length) (fun k => (nthR b i).scopes.length - k) (0) (rfl) ?_ ⟨rfl, rfl, rfl, rfl, rfl, rfl, look_int rfl (by rw [List.length_map]), rfl, trivial⟩ ?_
      · exact Nat.zero_le _
      · rintro k g1; have g1 : k ≤ (nthR b i).scopes.length := g1
        refine awj_seq ?_
        refine awj_region hJ (fun w0 G0 => ?_)
        refine g_u (s_ltI rfl rfl rfl) ?_
        refine g_nil ⟨rfl, ?_⟩
        refine normal_thnJ ?_
        refine awj_seq ?_
        refine awj_cond rfl (fun hb2 => ?_) (fun hb2 => ?_)
        · skip
          have hk : k < (nthR b i).scopes.length := by have := of_decide_eq_true hb2; (try simp only [List.length_map] at this); omega
          have hcx := sumBy_mem GScope.wt (nthC_mem hk)
          have hcq : (nthC (nthR b i).scopes k).wt = 1 + (nthC (nthR b i).scopes k).name.size + (nthC (nthR b i).scopes k).version.size + sumBy GSpan.wt (nthC (nthR b i).scopes k).spans := rfl
          have hsl := sumBy_len GSpan.wt (fun e => by unfold GSpan.wt; omega) (nthC (nthR b i).scopes k).spans
          refine awj_skip ?_
          refine normal_thnJ ?_
          refine awj_seq ?_
          refine awj_block ?_
          refine awj_seq ?_
          refine awj_region hJ (fun w0 G0 => ?_)
          refine g_u (s_mv_imm rfl rfl) ?_
          refine g_u (s_as_imm rfl rfl) ?_
          refine g_nil ⟨rfl, ?_⟩
          refine normal_thnJ ?_
          refine awj_seq ?_
          refine awj_region hJ (fun w0 G0 => ?_)
          refine g_u (s_mv_imm rfl rfl) ?_
          refine g_u (s_mv_imm rfl rfl) ?_
          refine g_u (s_indexAddr rfl rfl rfl Tryd.underlying31 tS67 (by omega) (ixC hk)) ?_
          refine g_u (s_fieldAddr_cp rfl rfl fa67_2 rfl rfl) ?_
          refine g_u (s_load_cp rfl rfl tA61 tS61 rfl rfl) ?_
          refine g_u (s_lenL rfl rfl Tryd.underlying61) ?_
          refine g_u (s_mv_imm rfl rfl) ?_
          refine g_nil ⟨rfl, ?_⟩
          refine normal_thnJ ?_
          refine awj_block ?_
          refine awj_loop' (fun m : Nat => [(0, .imm (.v (.func (.yield l) #[] #[]))), (1, .imm (.cp (batchAv b))), (9, .imm (iv (b.length : Int))), (10, .imm (iv (i : Int))), (3, .imm (iv (i : Int))), (4, .imm (.sl 3 ((nthR b i).scopes.map GScope.av))), (20, .imm (iv ((nthR b i).scopes.length : Int))), (21, .imm (iv (k : Int))), (5, .imm (iv (k : Int))), (29, .imm (iv ((nthC (nthR b i).scopes k).spans.length : Int))), (30, .imm (iv (m : Int)))]) (fun m : Nat => some (((plR 0 (b.take i)).length + (plC i 0 ((nthR b i).scopes.take k)).length) + m)) (fun m => m ≤ (nthC (nthR b i).scopes k).spans.length) (fun m => (nthC (nthR b i).scopes k).spans.length - m) (0) (rfl) ?_ ⟨rfl, rfl, rfl, rfl, rfl, rfl, rfl, rfl, rfl, look_int rfl (by rw [List.length_map]), rfl, trivial⟩ ?_
          · exact Nat.zero_le _
          · rintro m f1; have f1 : m ≤ (nthC (nthR b i).scopes k).spans.length := f1
            refine awj_seq ?_
            refine awj_region hJ (fun w0 G0 => ?_)
            refine g_u (s_ltI rfl rfl rfl) ?_
            refine g_nil ⟨rfl, ?_⟩
            refine normal_thnJ ?_
            refine awj_seq ?_
            refine awj_cond rfl (fun hb3 => ?_) (fun hb3 => ?_)
            · skip
              have hm : m < (nthC (nthR b i).scopes k).spans.length := by have := of_decide_eq_true hb3; (try simp only [List.length_map] at this); omega
              refine awj_skip ?_
              refine normal_thnJ ?_
              refine awj_seq ?_
              refine awj_block ?_
              refine awj_seq ?_
              refine awj_region hJ (fun w0 G0 => ?_)
              refine g_u (s_mv_imm rfl rfl) ?_
              refine g_u (s_as_imm rfl rfl) ?_
              refine g_nil ⟨rfl, ?_⟩
              refine normal_thnJ ?_
              refine awj_seq ?_
              refine awj_regionJ ?_
              refine goj_take 13 hJ rfl (fun w0 G0 => ?_)
              refine g_u (s_mv_imm rfl rfl) ?_
              refine g_u (s_mv_imm rfl rfl) ?_
              refine g_u (s_mv_imm rfl rfl) ?_
              refine g_u (s_mv_imm rfl rfl) ?_
              refine g_u (s_build rfl tU55 us55 pl55 rfl rfl rfl rfl) ?_
              refine g_u (s_mv_imm rfl rfl) ?_
              refine g_u (s_mv_imm rfl rfl) ?_
              refine g_u (s_indexAddr rfl rfl rfl Tryd.underlying31 tS67 (by omega) (ixC hk)) ?_
              refine g_u (s_fieldAddr_cp rfl rfl fa67_2 rfl rfl) ?_
              refine g_u (s_load_cp rfl rfl tA61 tS61 rfl rfl) ?_
              refine g_u (s_mv_imm rfl rfl) ?_
              refine g_u (s_indexAddr rfl rfl rfl Tryd.underlying61 tS52 (by omega) (ixS hm)) ?_
              refine g_u (s_load_cp rfl rfl tA52 tS52 rfl (by first | exact getS_w (GSpan.width _) rfl | rfl)) ?_
              refine g_nil ⟨rfl, ?_⟩
              refine goj_yield rfl rfl rfl rfl (fun I w vs hj hv => hy _ _ I w vs (seq_at hi hk hm) hj hv) ?_
              rintro (_ | _)
              · refine goj_end hJ rfl (fun w0 G0 => ?_)
                refine g_u (s_not rfl rfl) ?_
                refine g_nil ⟨rfl, ?_⟩
                refine normal_thnJ ?_
                refine awj_cond_true rfl ?_
                refine awj_ret ?_
                refine ret_blkJ ?_
                refine ret_thnJ ?_
                refine ret_thnJ ?_
                refine ret_blkJ ?_
                refine ret_blkJ ?_
                refine ret_thnJ ?_
                refine ret_thnJ ?_
                refine ret_blkJ ?_
                refine ret_blkJ ?_
                refine ret_thnJ ?_
                refine ret_thnJ ?_
                refine ret_blkJ ?_
                first | exact ⟨.inr rfl, .inr rfl⟩ | exact ⟨.inl rfl, .inl (by rw [seqB_len, hin, List.take_length])⟩
              · refine goj_end hJ rfl (fun w0 G0 => ?_)
                refine g_u (s_not rfl rfl) ?_
                refine g_nil ⟨rfl, ?_⟩
                refine normal_thnJ ?_
                refine awj_cond_false rfl ?_
                refine awj_skip ?_
                refine normal_blkJ ?_
                refine normal_thnJ ?_
                refine awj_region hJ (fun w0 G0 => ?_)
                refine g_u (s_add rfl rfl rfl) ?_
                refine g_u (s_mv_imm rfl rfl) ?_
                refine g_nil ⟨rfl, ?_⟩
                refine normal_thnJ ?_
                refine ⟨m + 1, hm, ⟨rfl, rfl, rfl, rfl, rfl, rfl, rfl, rfl, rfl, rfl, look_int rfl (by rw [wrap64 (by omega) (by omega)]; rfl), trivial⟩, rfl, by (try dsimp only); omega⟩
            · skip
              have hmn : m = (nthC (nthR b i).scopes k).spans.length := by have := of_decide_eq_false hb3; (try simp only [List.length_map] at this); omega
              refine awj_exit ?_
              refine exit_thnJ ?_
              refine exit_thnJ ?_
              refine exit_blkJ ?_
              refine normal_blkJ ?_
              refine normal_thnJ ?_
              refine awj_region hJ (fun w0 G0 => ?_)
              refine g_u (s_add rfl rfl rfl) ?_
              refine g_u (s_mv_imm rfl rfl) ?_
              refine g_nil ⟨rfl, ?_⟩
              refine normal_thnJ ?_
              refine ⟨k + 1, hk, ⟨rfl, rfl, rfl, rfl, rfl, rfl, rfl, look_int rfl (by rw [wrap64 (by omega) (by omega)]; rfl), trivial⟩, ?_, by (try dsimp only); omega⟩
              (try dsimp only)
              rw [plC_take hk, List.length_append, List.length_map, List.length_range, hmn, Nat.add_assoc]
        · skip
          have hkn : k = (nthR b i).scopes.length := by have := of_decide_eq_false hb2; (try simp only [List.length_map] at this); omega
          refine awj_exit ?_
          refine exit_thnJ ?_
          refine exit_thnJ ?_
          refine exit_blkJ ?_
          refine normal_blkJ ?_
          refine normal_thnJ ?_
          refine awj_region hJ (fun w0 G0 => ?_)
          refine g_u (s_add rfl rfl rfl) ?_
          refine g_u (s_mv_imm rfl rfl) ?_
          refine g_nil ⟨rfl, ?_⟩
          refine normal_thnJ ?_
          refine ⟨i + 1, hi, ⟨rfl, rfl, rfl, look_int rfl (by rw [wrap64 (by omega) (by omega)]; rfl), trivial⟩, ?_, by (try dsimp only); omega⟩
          (try dsimp only)
          rw [plR_take hi, List.length_append, hkn, List.take_length]
    · skip
      have hin : i = b.length := by have := of_decide_eq_false hb1; (try simp only [List.length_map] at this); omega
      refine awj_exit ?_
      refine exit_thnJ ?_
      refine exit_thnJ ?_
      refine exit_blkJ ?_
      first | exact ⟨.inr rfl, .inr rfl⟩ | exact ⟨.inl rfl, .inl (by rw [seqB_len, hin, List.take_length])⟩

set_option maxHeartbeats 400000 in
theorem all_c (b : List GRes) : PCall Tryd.prog Γ0 31 [batchAv b] [.fn (.func 55) [] [.cp (batchAv b)]] := by
  refine pcall_of Tryd.func31 rfl Tryd.ntmps31 (by kernel_rfl) rfl fun w0 I0 G0 => ?_
  refine aw_seq ?_
  refine aw_region ?_
  refine g_uG (s_box_imm 1001 rfl rfl rfl rfl) rfl ?_
  refine g_u (s_as_imm rfl rfl) ?_
  refine g_nil ?_
  refine normal_thn ?_
  refine aw_seq ?_
  refine aw_share 1001 rfl rfl ?_
  refine aw_region ?_
  refine g_u (s_makeFunc rfl rfl rfl) ?_
  refine g_u (s_as_imm rfl rfl) ?_
  refine g_nil ?_
  refine normal_thn ?_
  refine aw_ret ?_
  exact ⟨⟨(rfl : toAV (Al.look _ _) = some _).trans (congrArg some (by rfl)), rfl⟩, trivial⟩

end Go.Proofs

namespace Go.Proofs
open Go Go.Al
set_option maxRecDepth 10000
set_option maxHeartbeats 400000 in
theorem count_c (b : List GRes) (hw : wtB b ≤ 9000000) : PCall Tryd.prog Γ0 18 [batchAv b] [iv ((plR 0 b).length : Int)] := by
  have hpl := plR_len 0 b
  have qw : wtB b = sumBy GRes.wt b := rfl
  refine pcall_of_fw Tryd.func18 rfl Tryd.ntmps18 (by kernel_rfl) rfl fun w0 I0 G0 => ?_
  refine fw_seq ?_
  refine fw_aw (fun w1 I1 E1 G1 D1 => ?_)
  refine aw_region ?_
  refine g_uG (s_box_imm 50001 rfl rfl rfl rfl) rfl ?_
  refine g_u (s_as_imm rfl rfl) ?_
  refine g_nil ?_
  refine normal_thn ?_
  refine fw_seq ?_
  refine fw_aw (fun w1 I1 E1 G1 D1 => ?_)
  refine aw_region ?_
  refine g_uG (s_alloc' 50003 rfl rfl rfl tZ3) rfl ?_
  refine g_u (s_store_imm rfl rfl rfl tS3 rfl rfl) ?_
  refine g_nil ?_
  refine normal_thn ?_
  refine fw_seq ?_
  refine fw_seq ?_
  refine fw_aw (fun w1 I1 E1 G1 D1 => ?_)
  refine aw_region ?_
  refine g_u (s_load_imm rfl rfl rfl tA24 tS24 rfl rfl) ?_
  refine g_u (s_call1 (all_c _) rfl rfl) ?_
  refine g_nil ?_
  refine normal_thn ?_
  refine fw_block ?_
  refine fw_range ([(3, .ptr 50003 0)]) (fun i => [(50003, .box 3 (.imm (iv (i : Int))))]) (fun _ => True) (trivial) (all1_c b hw) rfl ⟨rfl, rfl, trivial⟩ rfl (fun i => rfl) (seqB_two b) rfl (fun i xs hok hxs w2 I2 E2 G2 R2 => ?_) (fun hok => ?_)
  · skip
    obtain ⟨p, hp, rfl⟩ := seqB_get hxs
    have hlt := (List.getElem?_eq_some_iff.1 hp).1
    refine aw_skip ?_
    refine normal_thn ?_
    intro w3 I3 E3 G3
    refine aw_block ?_
    refine aw_region ?_
    refine g_u (s_load_imm rfl rfl rfl tA3 tS3 rfl rfl) ?_
    refine g_u (s_add rfl rfl rfl) ?_
    refine g_u (s_store_imm rfl rfl rfl tS3 rfl rfl) ?_
    refine g_nil ?_
    refine normal_blk ?_
    exact ⟨trivial, (by show SV.box 3 (.imm (iv _)) = SV.box 3 (.imm (iv _)); rw [wrap64 (by omega) (by omega)]; rfl), trivial⟩
  · skip
    refine normal_blk ?_
    refine normal_thn ?_
    refine fw_aw (fun w1 I1 E1 G1 D1 => ?_)
    refine aw_seq ?_
    refine aw_region ?_
    refine g_u (s_load_imm rfl rfl rfl tA3 tS3 rfl rfl) ?_
    refine g_u (s_as_imm rfl rfl) ?_
    refine g_nil ?_
    refine normal_thn ?_
    refine aw_ret ?_
    exact ⟨⟨(rfl : toAV (Al.look _ _) = some _).trans (congrArg some (by (rw [seqB_len]))), rfl⟩, trivial⟩

end Go.Proofs

namespace Go.Proofs
open Go Go.Al
set_option maxRecDepth 10000
theorem eq55 (a b c x y z : Int) : eqV Tryd.prog 100 55 (.agg [iv a, iv b, iv c]) (.agg [iv x, iv y, iv z]) = some ((a == x) && ((b == y) && ((c == z) && true))) := by kernel_rfl
theorem eq36 (a b c x y z : Int) : eqV Tryd.prog 100 36 (.agg [iv a, iv b, iv c]) (.agg [iv x, iv y, iv z]) = some ((a == x) && ((b == y) && ((c == z) && true))) := by kernel_rfl
theorem spAt_wt {b : List GRes} {p : Nat × Nat × Nat} (h : p ∈ plR 0 b) : (spAt b p).wt ≤ wtB b := by
  obtain ⟨h1, h2, h3⟩ := pl_mem h
  have q1 := sumBy_mem GRes.wt (nthR_mem h1)
  have e1 : (nthR b p.1).wt = 1 + wtAs (nthR b p.1).attrs + sumBy GScope.wt (nthR b p.1).scopes := rfl
  have q2 := sumBy_mem GScope.wt (nthC_mem h2)
  have e2 : (nthC (nthR b p.1).scopes p.2.1).wt = 1 + (nthC (nthR b p.1).scopes p.2.1).name.size + (nthC (nthR b p.1).scopes p.2.1).version.size + sumBy GSpan.wt (nthC (nthR b p.1).scopes p.2.1).spans := rfl
  have q3 := sumBy_mem GSpan.wt (nthS_mem h3)
  have e3 : wtB b = sumBy GRes.wt b := rfl
  show (nthS _ _).wt ≤ _
  omega
set_option maxHeartbeats 4000000 in
theorem places28_c (b : List GRes) (n : Nat) (hn : n ≤ (plR 0 b).length) (hw : wtB b ≤ 9000000) : PCall Tryd.prog Γ0 17 [batchAv b, iv (n : Int)] [.sl 3 (((plR 0 b).take n).map plav), bv true] := by
  have hpl := plR_len 0 b
  have qw : wtB b = sumBy GRes.wt b := rfl
  refine pcall_of_fw Tryd.func17 rfl Tryd.ntmps17 (by kernel_rfl) rfl fun w0 I0 G0 => ?_
  refine fw_seq ?_
  refine fw_aw (fun w1 I1 E1 G1 D1 => ?_)
  refine aw_region ?_
  refine g_uG (s_box_imm 50002 rfl rfl rfl rfl) rfl ?_
  refine g_uG (s_box_imm 50003 rfl rfl rfl rfl) rfl ?_
  refine g_u (s_as_imm rfl rfl) ?_
  refine g_u (s_as_imm rfl rfl) ?_
  refine g_nil ?_
  refine normal_thn ?_
  refine fw_seq ?_
  refine fw_aw (fun w1 I1 E1 G1 D1 => ?_)
  refine aw_region ?_
  refine g_uG (s_alloc' 50006 rfl rfl rfl tZ37) rfl ?_
  refine g_nil ?_
  refine normal_thn ?_
  refine fw_seq ?_
  refine fw_aw (fun w1 I1 E1 G1 D1 => ?_)
  refine aw_newtokB 53006 50006 3 0 rfl rfl rfl rfl rfl rfl rfl ?_
  refine aw_region ?_
  refine g_uG (s_alloc' 50007 rfl rfl rfl tZ4) rfl ?_
  refine g_u (s_store_imm rfl rfl rfl tS4 rfl rfl) ?_
  refine g_nil ?_
  refine normal_thn ?_
  refine fw_seq ?_
  refine fw_aw (fun w1 I1 E1 G1 D1 => ?_)
  refine aw_region ?_
  refine g_u (s_load_imm rfl rfl rfl tA24 tS24 rfl rfl) ?_
  refine g_u (s_call1 (all_c _) rfl rfl) ?_
  refine g_u (s_as_imm rfl rfl) ?_
  refine g_nil ?_
  refine normal_thn ?_
  refine fw_seq ?_
  refine fw_aw (fun w1 I1 E1 G1 D1 => ?_)
  refine aw_seq ?_
  refine aw_region ?_
  refine g_u (s_mv_imm rfl rfl) ?_
  refine g_u (s_eqNF rfl rfl rfl Tryd.underlying74) ?_
  refine g_nil ?_
  refine normal_thn ?_
  refine aw_cond_false rfl ?_
  refine aw_skip ?_
  refine normal_thn ?_
  refine fw_seq ?_
  refine fw_seq ?_
  refine fw_aw (fun w1 I1 E1 G1 D1 => ?_)
  refine aw_region ?_
  refine g_u (s_mv_imm rfl rfl) ?_
  refine g_nil ?_
  refine normal_thn ?_
  refine fw_block ?_
  refine fw_range ([(2, .ptr 50002 0), (3, .ptr 50003 0), (6, .ptr 50006 0), (7, .ptr 50007 0)]) (fun i => [(50002, .box 24 (.imm (batchAv b))), (50003, .box 3 (.imm (iv (n : Int)))), (50006, .box 37 (.slg 53006 3 (((plR 0 b).take i).map plav))), (53006, .tok 3 (((plR 0 b).take i).map plav)), (50007, .box 4 (.imm (bv true)))]) (fun i => i ≤ n) (Nat.zero_le _) (all1_c b hw) rfl ⟨rfl, rfl, rfl, rfl, rfl, rfl, rfl, rfl, rfl, trivial⟩ rfl (fun i => rfl) (seqB_two b) rfl (fun i xs hok hxs w2 I2 E2 G2 R2 => ?_) (fun hok => ?_)
  · skip
    obtain ⟨p, hp, rfl⟩ := seqB_get hxs
    have hok : i ≤ n := hok
    have hlt := (List.getElem?_eq_some_iff.1 hp).1
    have hpm : p ∈ plR 0 b := List.mem_of_getElem? hp
    have hrl : (((plR 0 b).take i).map plav).length = i := by rw [List.length_map, List.length_take]; omega
    have hxw := spAt_wt hpm
    have hxe := atS_nat hpm
    refine aw_seq ?_
    refine aw_region ?_
    refine g_uG (s_alloc' 1009 rfl rfl rfl tZ55) rfl ?_
    refine g_u (s_store_imm rfl rfl rfl tS55 rfl rfl) ?_
    refine g_nil ?_
    refine normal_thn ?_
    refine aw_region ?_
    refine g_uG (s_alloc' 1010 rfl rfl rfl tZ52) rfl ?_
    refine g_u (s_store_imm rfl rfl rfl tS52 (by first | exact beqW (GSpan.width _) | rfl) (by first | exact setS_w (z52_w.trans (GSpan.width _).symm) rfl | rfl)) ?_
    refine g_nil ?_
    refine normal_thn ?_
    intro w3 I3 E3 G3
    refine aw_block ?_
    refine aw_seq ?_
    refine aw_seq ?_
    refine aw_region ?_
    refine g_u (s_load_slg rfl rfl rfl tA37 tS37 rfl rfl) ?_
    refine g_u (s_lenL rfl rfl Tryd.underlying37) ?_
    refine g_u (s_load_imm rfl rfl rfl tA3 tS3 rfl rfl) ?_
    refine g_u (s_eqI rfl rfl rfl) ?_
    refine g_nil ?_
    refine normal_thn ?_
    refine aw_cond rfl (fun hb1 => ?_) (fun hb1 => ?_)
    · skip
      have hin : i = n := by have e := beq_iff_eq.1 hb1; rw [hrl] at e; omega
      refine aw_exit ?_
      refine exit_thn ?_
      refine exit_blk_ne rfl ?_
      refine ⟨[(50002, .box 24 (.imm (batchAv b))), (50003, .box 3 (.imm (iv (n : Int)))), (50006, .box 37 (.slg 53006 3 (((plR 0 b).take n).map plav))), (53006, .tok 3 (((plR 0 b).take n).map plav)), (50007, .box 4 (.imm (bv true)))], rfl, ⟨rfl, rfl, (by show SV.box 37 (.slg 53006 3 (((plR 0 b).take i).map plav)) = _; rw [hin]), (by show SV.tok 3 (((plR 0 b).take i).map plav) = _; rw [hin]), rfl, trivial⟩, ?_⟩
      refine exit_blk ?_
      refine normal_thn ?_
      refine fw_aw (fun w1 I1 E1 G1 D1 => ?_)
      refine aw_seq ?_
      refine aw_draw mixed ?_
      refine g_u (s_load_slg rfl rfl rfl tA37 tS37 rfl rfl) ?_
      refine g_u (s_load_imm rfl rfl rfl tA4 tS4 rfl rfl) ?_
      refine g_u (s_as_slg rfl rfl) ?_
      refine g_u (s_as_imm rfl rfl) ?_
      refine g_nil ⟨by kernel_rfl, ?_⟩
      refine normal_thn ?_
      refine aw_ret ?_
      exact ⟨⟨(rfl : toAV (Al.look _ _) = some _).trans (congrArg some (by (first | exact congrArg (AV.sl 3) hdn | rfl))), rfl⟩, ⟨(rfl : toAV (Al.look _ _) = some _).trans (congrArg some (by (first | exact congrArg (AV.sl 3) hdn | rfl))), rfl⟩, trivial⟩
    · skip
      have hin : ¬ i = n := by have e := beq_eq_false_iff_ne.1 hb1; rw [hrl] at e; omega
      refine aw_skip ?_
      refine normal_thn ?_
      refine aw_seq ?_
      refine aw_region ?_
      refine g_u (s_load_slg rfl rfl rfl tA37 tS37 rfl rfl) ?_
      refine g_u (s_load_agg rfl rfl rfl tA55 tS55 rfl rfl) ?_
      refine g_u (s_buildSlice (X0 := z36) rfl Tryd.underlying37 tS36 tZ36 rfl rfl rfl rfl rfl rfl rfl rfl) ?_
      refine g_u (s_append rfl rfl rfl rfl rfl Tryd.underlying37 Tryd.underlying37 tS36 zv36 rfl (by decide) by36 (by rw [hrl]; simp only [List.length_cons, List.length_nil]; omega) (by rw [hrl]; simp only [List.length_cons, List.length_nil]; omega)) ?_
      refine g_u (s_store rfl rfl rfl rfl tS37 rfl rfl) ?_
      refine g_nil ?_
      refine normal_thn ?_
      refine aw_seq ?_
      refine aw_region ?_
      refine g_u (s_load_imm rfl rfl rfl tA24 tS24 rfl rfl) ?_
      refine g_u (s_load_agg rfl rfl rfl tA55 tS55 rfl rfl) ?_
      refine g_u (s_call2 (batchAt_c b (intP p)) rfl rfl) ?_
      refine g_u (s_mv_tup rfl rfl) ?_
      refine g_u (s_extract rfl rfl rfl rfl) ?_
      refine g_u (s_extract rfl rfl rfl rfl) ?_
      refine g_uG (s_alloc' 1011 rfl rfl rfl tZ52) rfl ?_
      refine g_u (s_store_imm rfl rfl rfl tS52 (by first | exact beqW (GSpan.width _) | rfl) (by first | exact setS_w (z52_w.trans (GSpan.width _).symm) rfl | rfl)) ?_
      refine g_u (s_as_imm rfl rfl) ?_
      refine g_nil ?_
      refine normal_thn ?_
      refine aw_region ?_
      refine g_u (s_load_imm rfl rfl rfl tA4 tS4 rfl rfl) ?_
      refine g_u (s_mv_imm rfl rfl) ?_
      refine g_case (t := 35) rfl ?_
      rintro (hb2 | hb2)
      · rw [hb2]
        refine g_run rfl rfl (s_mv_imm rfl rfl) ?_
        refine g_u (s_pick_t rfl rfl rfl) ?_
        refine g_u (s_mv_imm rfl rfl) ?_
        refine g_case (t := 38) rfl ?_
        rintro (hb3 | hb3)
        · rw [hb3]
          refine g_run rfl rfl (s_load_imm rfl rfl rfl tA52 tS52 rfl (by first | exact getS_w (GSpan.width _) rfl | rfl)) ?_
          refine g_run rfl rfl (s_load_imm rfl rfl rfl tA52 tS52 rfl (by first | exact getS_w (GSpan.width _) rfl | rfl)) ?_
          refine g_run rfl rfl (s_call1 (rsameS_c (atS b (intP p)) (spAt b p) (by rw [hxe]; omega)) rfl rfl) ?_
          refine g_u (s_pick_t rfl rfl rfl) ?_
          refine g_u (s_store_imm rfl rfl rfl tS4 rfl rfl) ?_
          refine g_nil ?_
          refine normal_blk ?_
          have et : (((plR 0 b).take (i + 1)).map plav) = (((plR 0 b).take i).map plav) ++ [plav p] := by rw [List.take_add_one, hp]; simp
          refine ⟨(by show i + 1 ≤ n; omega), rfl, rfl, (by show SV.box 37 (.slg 53006 3 ((((plR 0 b).take i).map plav) ++ [plav p])) = _; rw [← et]), (by show SV.tok 3 ((((plR 0 b).take i).map plav) ++ [plav p]) = _; rw [← et]), (by show SV.box 4 (.imm (bv (decide (atS b (intP p) = spAt b p)))) = _; rw [decide_eq_true hxe]), trivial⟩
        · exact killT hb3 ((by exact inB_nat hpm))
      · exact killT hb2 ((by exact rfl))
  · skip
    have hdn : (((plR 0 b).take (seqB b).length).map plav) = (((plR 0 b).take n).map plav) := by have h : (seqB b).length ≤ n := hok; rw [seqB_len] at h ⊢; rw [show n = (plR 0 b).length by omega]
    refine normal_blk ?_
    refine normal_thn ?_
    refine fw_aw (fun w1 I1 E1 G1 D1 => ?_)
    refine aw_seq ?_
    refine aw_draw mixed ?_
    refine g_u (s_load_slg rfl rfl rfl tA37 tS37 rfl rfl) ?_
    refine g_u (s_load_imm rfl rfl rfl tA4 tS4 rfl rfl) ?_
    refine g_u (s_as_slg rfl rfl) ?_
    refine g_u (s_as_imm rfl rfl) ?_
    refine g_nil ⟨by kernel_rfl, ?_⟩
    refine normal_thn ?_
    refine aw_ret ?_
    exact ⟨⟨(rfl : toAV (Al.look _ _) = some _).trans (congrArg some (by (first | exact congrArg (AV.sl 3) hdn | rfl))), rfl⟩, ⟨(rfl : toAV (Al.look _ _) = some _).trans (congrArg some (by (first | exact congrArg (AV.sl 3) hdn | rfl))), rfl⟩, trivial⟩

end Go.Proofs

namespace Go.Proofs
open Go Go.Al
set_option maxRecDepth 10000
def kShop28 : ByteArray := ⟨#[115, 104, 111, 112]⟩
def gS28 : GSpan := ⟨1 :: List.replicate 15 0, 2 :: List.replicate 7 0, List.replicate 8 0, ⟨#[]⟩, ⟨#[]⟩, 0, 0, 0, [], [], [], 0, ⟨#[]⟩⟩
def gB28 : List GRes := [⟨[], [⟨⟨#[]⟩, ⟨#[]⟩, []⟩]⟩, ⟨[.mk skey (tv kShop28)], [⟨⟨#[]⟩, ⟨#[]⟩, [gS28]⟩, ⟨⟨#[]⟩, ⟨#[]⟩, [gS28]⟩]⟩]
def pS28 : AV := .agg [.agg (bytesL gS28.trace), .agg (bytesL gS28.id), .arr 8 gS28.parent, sv ⟨#[]⟩, sv ⟨#[]⟩, iv 0, uv 0, uv 0, .sl 7 [], .sl 3 [], .sl 26 [], .agg [iv 0, sv ⟨#[]⟩]]
theorem upS28 : Up pS28 gS28.av := Up.agg ⟨up_bytes rfl, up_bytes rfl, Up.refl _, Up.refl _, Up.refl _, Up.refl _, Up.refl _, Up.refl _, Up.refl _, Up.refl _, Up.refl _, Up.refl _, trivial⟩
def pC28 : AV := .agg [sv ⟨#[]⟩, sv ⟨#[]⟩, .sl 42 [pS28]]
theorem upC28 : Up pC28 (GScope.mk ⟨#[]⟩ ⟨#[]⟩ [gS28]).av := Up.agg ⟨Up.refl _, Up.refl _, Up.sl ⟨upS28, trivial⟩, trivial⟩
def pB28 : AV := .agg [.sl 2 [.agg [.sl 7 [], .sl 3 [.agg [sv ⟨#[]⟩, sv ⟨#[]⟩, .sl 42 []]]], .agg [.sl 7 [avA (.mk skey (tv kShop28))], .sl 3 [pC28, pC28]]]]
theorem upB28 : Up pB28 (batchAv gB28) := Up.agg ⟨Up.sl ⟨Up.refl _, Up.agg ⟨Up.refl _, Up.sl ⟨upC28, upC28, trivial⟩, trivial⟩, trivial⟩, trivial⟩
theorem b28_canon : gB28 = canonB gB28 := rfl
theorem n28 : ¬ gB28 = [] := by intro h; cases h
theorem r28a : ∀ a ∈ (nthR gB28 1).attrs, a.ok := fun a h => by cases List.mem_singleton.1 h; exact (GA.ok_iff _).2 ⟨by decide, tv_ok (by decide)⟩
theorem r28b : ∀ a ∈ (nthR gB28 0).attrs, a.ok := fun a h => by cases h
set_option maxRecDepth 100000 in
set_option maxHeartbeats 8000000 in
theorem works28_c : PCall Tryd.prog Γ0 9 [] [bv true] := by
  refine pcall_of_fw Tryd.func9 rfl Tryd.ntmps9 (by kernel_rfl) rfl fun w0 I0 G0 => ?_
  refine fw_seq ?_
  refine fw_aw (fun w1 I1 E1 G1 D1 => ?_)
  refine aw_region ?_
  refine g_u (s_as_imm rfl rfl) ?_
  refine g_nil ?_
  refine normal_thn ?_
  refine fw_seq ?_
  refine fw_aw (fun w1 I1 E1 G1 D1 => ?_)
  refine aw_region ?_
  refine g_u (s_build_arr rfl tV43 Tryd.underlying43 tS5 rfl rfl rfl rfl) ?_
  refine g_u (s_build_arr rfl tV45 Tryd.underlying45 tS5 rfl rfl rfl rfl) ?_
  refine g_u (s_build rfl tU52 us52 pl52 rfl rfl rfl rfl) ?_
  refine g_uG (s_alloc' 50001 rfl rfl rfl tZ52) rfl ?_
  refine g_u (s_store_imm rfl rfl rfl tS52 (by first | exact beqW (GSpan.width _) | rfl) (by first | exact setS_w (z52_w.trans (GSpan.width _).symm) rfl | rfl)) ?_
  refine g_nil ?_
  refine normal_thn ?_
  refine fw_seq ?_
  refine fw_aw (fun w1 I1 E1 G1 D1 => ?_)
  refine aw_region ?_
  refine g_u (s_build rfl tU70 us70 pl70 rfl rfl rfl rfl) ?_
  refine g_uG (s_alloc' 50002 rfl rfl rfl tZ70) rfl ?_
  refine g_u (s_store_imm rfl rfl rfl tS70 rfl rfl) ?_
  refine g_nil ?_
  refine normal_thn ?_
  refine fw_seq ?_
  refine fw_aw (fun w1 I1 E1 G1 D1 => ?_)
  refine aw_region ?_
  refine g_u (s_build rfl tU67 us67 pl67 rfl rfl rfl rfl) ?_
  refine g_u (s_buildSlice (X0 := z67) rfl Tryd.underlying31 tS67 tZ67 rfl rfl rfl rfl rfl rfl rfl rfl) ?_
  refine g_u (s_build rfl tU33 us33 pl33 rfl rfl rfl rfl) ?_
  refine g_u (s_load_agg rfl rfl rfl tA70 tS70 rfl rfl) ?_
  refine g_u (s_build rfl tU72 us72 pl72 rfl rfl rfl rfl) ?_
  refine g_u (s_buildSlice (X0 := z72) rfl Tryd.underlying30 tS72 tZ72 rfl rfl rfl rfl rfl rfl rfl rfl) ?_
  refine g_u (s_load_imm rfl rfl rfl tA52 tS52 rfl (by first | exact getS_w (GSpan.width _) rfl | rfl)) ?_
  refine g_u (s_buildSlice (X0 := z52) rfl Tryd.underlying61 tS52 tZ52 rfl rfl rfl rfl rfl rfl rfl rfl) ?_
  refine g_u (s_build rfl tU67 us67 pl67 rfl rfl rfl rfl) ?_
  refine g_u (s_load_imm rfl rfl rfl tA52 tS52 rfl (by first | exact getS_w (GSpan.width _) rfl | rfl)) ?_
  refine g_u (s_buildSlice (X0 := z52) rfl Tryd.underlying61 tS52 tZ52 rfl rfl rfl rfl rfl rfl rfl rfl) ?_
  refine g_u (s_build rfl tU67 us67 pl67 rfl rfl rfl rfl) ?_
  refine g_u (s_buildSlice (X0 := z67) rfl Tryd.underlying31 tS67 tZ67 rfl rfl rfl rfl rfl rfl rfl rfl) ?_
  refine g_u (s_build rfl tU33 us33 pl33 rfl rfl rfl rfl) ?_
  refine g_u (s_buildSlice (X0 := z33) rfl Tryd.underlying22 tS33 tZ33 rfl rfl rfl rfl rfl rfl rfl rfl) ?_
  refine g_u (s_build rfl tU24 us24 pl24 rfl rfl rfl rfl) ?_
  refine g_uG (s_alloc' 50003 rfl rfl rfl tZ24) rfl ?_
  refine g_u (s_store_imm rfl rfl rfl tS24 rfl rfl) ?_
  refine g_nil ?_
  refine normal_thn ?_
  refine fw_seq ?_
  refine fw_aw (fun w1 I1 E1 G1 D1 => ?_)
  refine aw_upB 50003 (batchAv gB28) rfl rfl upB28 ?_
  refine aw_region ?_
  refine g_u (s_build rfl tU55 us55 pl55 rfl rfl rfl rfl) ?_
  refine g_uG (s_alloc' 50004 rfl rfl rfl tZ55) rfl ?_
  refine g_u (s_store_imm rfl rfl rfl tS55 rfl rfl) ?_
  refine g_nil ?_
  refine normal_thn ?_
  refine fw_seq ?_
  refine fw_aw (fun w1 I1 E1 G1 D1 => ?_)
  refine aw_region ?_
  refine g_u (s_load_imm rfl rfl rfl tA24 tS24 rfl rfl) ?_
  refine g_u (s_call1 (all_c _) rfl rfl) ?_
  refine g_u (s_as_imm rfl rfl) ?_
  refine g_nil ?_
  refine normal_thn ?_
  refine fw_seq ?_
  refine fw_aw (fun w1 I1 E1 G1 D1 => ?_)
  refine aw_seq ?_
  refine aw_region ?_
  refine g_u (s_mv_imm rfl rfl) ?_
  refine g_u (s_eqNF rfl rfl rfl Tryd.underlying74) ?_
  refine g_nil ?_
  refine normal_thn ?_
  refine aw_cond_false rfl ?_
  refine aw_skip ?_
  refine normal_thn ?_
  refine fw_seq ?_
  refine fw_seq ?_
  refine fw_aw (fun w1 I1 E1 G1 D1 => ?_)
  refine aw_region ?_
  refine g_u (s_mv_imm rfl rfl) ?_
  refine g_nil ?_
  refine normal_thn ?_
  refine fw_block ?_
  refine fw_range ([(3, .ptr 50003 0), (4, .ptr 50004 0)]) (fun _ => [(50003, .box 24 (.imm (batchAv gB28))), (50004, .box 55 (.imm (placeAv (-1, 0, 0))))]) (fun i => i = 0) (rfl) (all1_c gB28 (by decide)) rfl ⟨rfl, rfl, rfl, rfl, trivial⟩ rfl (fun i => rfl) (seqB_two gB28) rfl (fun i xs hok hxs w2 I2 E2 G2 R2 => ?_) (fun hok => ?_)
  · skip
    obtain ⟨p, hp, rfl⟩ := seqB_get hxs
    have hok : i = 0 := hok
    subst hok
    have hp0 : p = (1, 0, 0) := by have e : (plR 0 gB28)[0]? = some (1, 0, 0) := rfl; rw [e] at hp; exact (Option.some.inj hp).symm
    subst hp0
    refine aw_region ?_
    refine g_uG (s_alloc' 1006 rfl rfl rfl tZ55) rfl ?_
    refine g_u (s_store_imm rfl rfl rfl tS55 rfl rfl) ?_
    refine g_nil ?_
    refine normal_thn ?_
    intro w3 I3 E3 G3
    refine aw_block ?_
    refine aw_seq ?_
    refine aw_region ?_
    refine g_u (s_load_agg rfl rfl rfl tA55 tS55 rfl rfl) ?_
    refine g_u (s_store_imm rfl rfl rfl tS55 rfl rfl) ?_
    refine g_nil ?_
    refine normal_thn ?_
    refine aw_exit ?_
    refine exit_blk_ne rfl ?_
    refine ⟨[(50003, .box 24 (.imm (batchAv gB28))), (50004, .box 55 (.imm (plav (1, 0, 0))))], rfl, ⟨rfl, rfl, trivial⟩, ?_⟩
    refine exit_blk ?_
    refine normal_thn ?_
    refine fw_aw (fun w1 I1 E1 G1 D1 => ?_)
    refine aw_seq ?_
    refine aw_region ?_
    refine g_u (s_load_imm rfl rfl rfl tA24 tS24 rfl rfl) ?_
    refine g_u (s_build rfl tU55 us55 pl55 rfl rfl rfl rfl) ?_
    refine g_u (s_call2 (batchAt_c gB28 (1, 1, 0)) rfl rfl) ?_
    refine g_u (s_mv_tup rfl rfl) ?_
    refine g_u (s_extract rfl rfl rfl rfl) ?_
    refine g_u (s_extract rfl rfl rfl rfl) ?_
    refine g_uG (s_alloc' 50007 rfl rfl rfl tZ52) rfl ?_
    refine g_u (s_store_imm rfl rfl rfl tS52 (by first | exact beqW (GSpan.width _) | rfl) (by first | exact setS_w (z52_w.trans (GSpan.width _).symm) rfl | rfl)) ?_
    refine g_u (s_as_imm rfl rfl) ?_
    refine g_nil ?_
    refine normal_thn ?_
    refine aw_seq ?_
    refine aw_region ?_
    refine g_u (s_load_imm rfl rfl rfl tA24 tS24 rfl rfl) ?_
    refine g_u (s_build rfl tU55 us55 pl55 rfl rfl rfl rfl) ?_
    refine g_u (s_call2 (batchAt_c gB28 (0, 0, 0)) rfl rfl) ?_
    refine g_u (s_mv_tup rfl rfl) ?_
    refine g_u (s_extract rfl rfl rfl rfl) ?_
    refine g_u (s_extract rfl rfl rfl rfl) ?_
    refine g_uG (s_alloc' 50009 rfl rfl rfl tZ52) rfl ?_
    refine g_u (s_store_imm rfl rfl rfl tS52 (by first | exact beqW (GSpan.width _) | rfl) (by first | exact setS_w (z52_w.trans (GSpan.width _).symm) rfl | rfl)) ?_
    refine g_u (s_as_imm rfl rfl) ?_
    refine g_nil ?_
    refine normal_thn ?_
    refine aw_seq ?_
    refine aw_draw mixed ?_
    refine g_u (s_load_imm rfl rfl rfl tA24 tS24 rfl rfl) ?_
    refine g_u (s_call1 (count_c gB28 (by decide)) rfl rfl) ?_
    refine g_u (s_eqI rfl rfl rfl) ?_
    refine g_u (s_mv_imm rfl rfl) ?_
    refine g_case (t := 55) rfl ?_
    rintro (hb1 | hb1)
    · rw [hb1]
      refine g_run rfl rfl (s_load_imm rfl rfl rfl tA55 tS55 rfl rfl) ?_
      refine g_run rfl rfl (s_build rfl tU55 us55 pl55 rfl rfl rfl rfl) ?_
      refine g_run rfl rfl (s_eqA rfl rfl rfl eg55 rfl rfl (eq55 _ _ _ _ _ _)) ?_
      refine g_u (s_pick_t rfl rfl rfl) ?_
      refine g_u (s_mv_imm rfl rfl) ?_
      refine g_case (t := 60) rfl ?_
      rintro (hb2 | hb2)
      · rw [hb2]
        refine g_run rfl rfl (s_mv_imm rfl rfl) ?_
        refine g_u (s_pick_t rfl rfl rfl) ?_
        refine g_u (s_mv_imm rfl rfl) ?_
        refine g_case (t := 63) rfl ?_
        rintro (hb3 | hb3)
        · rw [hb3]
          refine g_run rfl rfl (s_mv_imm rfl rfl) ?_
          refine g_run rfl rfl (s_not rfl rfl) ?_
          refine g_u (s_pick_t rfl rfl rfl) ?_
          refine g_u (s_mv_imm rfl rfl) ?_
          refine g_case (t := 67) rfl ?_
          rintro (hb4 | hb4)
          · rw [hb4]
            refine g_run rfl rfl (s_fieldAddr rfl rfl fa24_0 rfl) ?_
            refine g_run rfl rfl (s_load_imm rfl rfl rfl tA22 tS22 rfl rfl) ?_
            refine g_run rfl rfl (s_indexAddr rfl rfl rfl Tryd.underlying22 tS33 (by decide) (ixR (l := gB28) (i := 1) (by decide))) ?_
            refine g_run rfl rfl (s_load_cp rfl rfl tA33 tS33 rfl rfl) ?_
            refine g_run rfl rfl (s_call1 (service_c (nthR gB28 1) r28a (by decide) (show risA none (canonAs _) from ris_canonAs [.mk skey (tv kShop28)])) rfl rfl) ?_
            refine g_run rfl rfl (s_eqS rfl rfl rfl) ?_
            refine g_u (s_pick_t rfl rfl rfl) ?_
            refine g_u (s_mv_imm rfl rfl) ?_
            refine g_case (t := 75) rfl ?_
            rintro (hb5 | hb5)
            · rw [hb5]
              refine g_run rfl rfl (s_fieldAddr rfl rfl fa24_0 rfl) ?_
              refine g_run rfl rfl (s_load_imm rfl rfl rfl tA22 tS22 rfl rfl) ?_
              refine g_run rfl rfl (s_indexAddr rfl rfl rfl Tryd.underlying22 tS33 (by decide) (ixR (l := gB28) (i := 0) (by decide))) ?_
              refine g_run rfl rfl (s_load_cp rfl rfl tA33 tS33 rfl rfl) ?_
              refine g_run rfl rfl (s_call1 (service_c (nthR gB28 0) r28b (by decide) trivial) rfl rfl) ?_
              refine g_run rfl rfl (s_eqS rfl rfl rfl) ?_
              refine g_u (s_pick_t rfl rfl rfl) ?_
              refine g_u (s_mv_imm rfl rfl) ?_
              refine g_case (t := 83) rfl ?_
              rintro (hb6 | hb6)
              · rw [hb6]
                refine g_run rfl rfl (s_load_imm rfl rfl rfl tA24 tS24 rfl rfl) ?_
                refine g_run rfl rfl (s_load_imm rfl rfl rfl tA24 tS24 rfl rfl) ?_
                refine g_run rfl rfl (s_call1 (pcanonB_c gB28 (by decide)) rfl rfl) ?_
                refine g_run rfl rfl (s_call1 (psameB_c gB28 (canonB gB28) (by decide)) rfl rfl) ?_
                refine g_u (s_pick_t rfl rfl rfl) ?_
                refine g_u (s_mv_imm rfl rfl) ?_
                refine g_case (t := 89) rfl ?_
                rintro (hb7 | hb7)
                · rw [hb7]
                  refine g_run rfl rfl (s_load_imm rfl rfl rfl tA24 tS24 rfl rfl) ?_
                  refine g_run rfl rfl (s_build rfl tU24 us24 pl24 rfl rfl rfl rfl) ?_
                  refine g_run rfl rfl (s_call1 (psameB_c gB28 [] (by decide)) rfl rfl) ?_
                  refine g_run rfl rfl (s_not rfl rfl) ?_
                  refine g_u (s_pick_t rfl rfl rfl) ?_
                  refine g_u (s_as_imm rfl rfl) ?_
                  refine g_nil ⟨by kernel_rfl, ?_⟩
                  refine normal_thn ?_
                  refine aw_ret ?_
                  exact ⟨⟨(rfl : toAV (Al.look _ _) = some _).trans (congrArg some (by (rw [decide_eq_false n28]; rfl))), rfl⟩, trivial⟩
                · exact killT hb7 ((by exact decide_eq_true b28_canon))
              · exact killT hb6 ((by first | rfl | decide +kernel))
            · exact killT hb5 ((by first | rfl | decide +kernel))
          · exact killT hb4 ((by first | rfl | decide +kernel))
        · exact killT hb3 ((by first | rfl | decide +kernel))
      · exact killT hb2 ((by first | rfl | decide +kernel))
    · exact killT hb1 ((by first | rfl | decide +kernel))
  · exact absurd hok (by show ¬ ((seqB gB28).length = 0); rw [seqB_len]; decide)

end Go.Proofs

namespace Go.Proofs
open Go Go.Al
set_option maxRecDepth 10000
set_option maxHeartbeats 400000 in
theorem batchSame_c (a b : List GRes) : PCall Tryd.prog Γ0 3 [batchAv a, batchAv b] [bv true] := by
  refine pcall_of Tryd.func3 rfl Tryd.ntmps3 (by kernel_rfl) rfl fun w0 I0 G0 => ?_
  refine aw_seq ?_
  refine aw_region ?_
  refine g_uG (s_box_imm 1002 rfl rfl rfl rfl) rfl ?_
  refine g_uG (s_box_imm 1003 rfl rfl rfl rfl) rfl ?_
  refine g_u (s_as_imm rfl rfl) ?_
  refine g_nil ?_
  refine normal_thn ?_
  refine aw_seq ?_
  refine aw_seq ?_
  refine aw_region ?_
  refine g_u (s_load_imm rfl rfl rfl tA24 tS24 rfl rfl) ?_
  refine g_u (s_call1 (leftR_c _ _ (by first | decide | omega)) rfl rfl) ?_
  refine g_u (s_ltI rfl rfl rfl) ?_
  refine g_u (s_mv_imm rfl rfl) ?_
  refine g_case (t := 8) rfl ?_
  rintro (hb1 | hb1)
  · rw [hb1]
    have z1 : leftR a 6000 < 0 := of_decide_eq_true hb1
    refine g_skip rfl rfl rfl ?_
    refine g_skip rfl rfl rfl ?_
    refine g_skip rfl rfl rfl ?_
    refine g_u (s_pick_t rfl rfl rfl) ?_
    refine g_nil ?_
    refine normal_thn ?_
    refine aw_cond_true rfl ?_
    refine aw_seq ?_
    refine aw_region ?_
    refine g_u (s_call1 (works28_c) rfl rfl) ?_
    refine g_u (s_as_imm rfl rfl) ?_
    refine g_nil ?_
    refine normal_thn ?_
    refine aw_ret ?_
    refine ret_thn ?_
    exact ⟨⟨(rfl : toAV (Al.look _ _) = some _).trans (congrArg some (by (first | rfl | exact congrArg bv (decide_eq_true rfl)))), rfl⟩, trivial⟩
  · rw [hb1]
    have z1 : ¬ leftR a 6000 < 0 := of_decide_eq_false hb1
    have hwa := leftR_le z1
    refine g_run rfl rfl (s_load_imm rfl rfl rfl tA24 tS24 rfl rfl) ?_
    refine g_run rfl rfl (s_call1 (leftR_c _ _ (by first | decide | omega)) rfl rfl) ?_
    refine g_run rfl rfl (s_ltI rfl rfl rfl) ?_
    refine g_u (s_pick_f rfl rfl rfl) ?_
    refine g_nil ?_
    refine normal_thn ?_
    refine aw_cond rfl (fun hb2 => ?_) (fun hb2 => ?_)
    · skip
      have z2 : leftR b 6000 < 0 := of_decide_eq_true hb2
      refine aw_seq ?_
      refine aw_region ?_
      refine g_u (s_call1 (works28_c) rfl rfl) ?_
      refine g_u (s_as_imm rfl rfl) ?_
      refine g_nil ?_
      refine normal_thn ?_
      refine aw_ret ?_
      refine ret_thn ?_
      exact ⟨⟨(rfl : toAV (Al.look _ _) = some _).trans (congrArg some (by (first | rfl | exact congrArg bv (decide_eq_true rfl)))), rfl⟩, trivial⟩
    · skip
      have z2 : ¬ leftR b 6000 < 0 := of_decide_eq_false hb2
      have hwb := leftR_le z2
      refine aw_skip ?_
      refine normal_thn ?_
      refine aw_seq ?_
      refine aw_draw mixed ?_
      refine g_u (s_load_imm rfl rfl rfl tA24 tS24 rfl rfl) ?_
      refine g_u (s_load_imm rfl rfl rfl tA24 tS24 rfl rfl) ?_
      refine g_u (s_call1 (psameB_c _ _ (by omega)) rfl rfl) ?_
      refine g_u (s_load_imm rfl rfl rfl tA24 tS24 rfl rfl) ?_
      refine g_u (s_load_imm rfl rfl rfl tA24 tS24 rfl rfl) ?_
      refine g_u (s_call1 (rsameB_c _ _ (by omega)) rfl rfl) ?_
      refine g_u (s_eqB rfl rfl rfl Tryd.underlying4) ?_
      refine g_u (s_mv_imm rfl rfl) ?_
      refine g_case (t := 21) rfl ?_
      rintro (hb3 | hb3)
      · rw [hb3]
        refine g_run rfl rfl (s_load_imm rfl rfl rfl tA24 tS24 rfl rfl) ?_
        refine g_run rfl rfl (s_load_imm rfl rfl rfl tA24 tS24 rfl rfl) ?_
        refine g_run rfl rfl (s_call1 (psameB_c _ _ (by omega)) rfl rfl) ?_
        refine g_u (s_pick_t rfl rfl rfl) ?_
        refine g_u (s_mv_imm rfl rfl) ?_
        refine g_case (t := 26) rfl ?_
        rintro (hb4 | hb4)
        · rw [hb4]
          refine g_run rfl rfl (s_call1 (works28_c) rfl rfl) ?_
          refine g_u (s_pick_t rfl rfl rfl) ?_
          refine g_u (s_as_imm rfl rfl) ?_
          refine g_nil ⟨by kernel_rfl, ?_⟩
          refine normal_thn ?_
          refine aw_ret ?_
          exact ⟨⟨(rfl : toAV (Al.look _ _) = some _).trans (congrArg some (by (first | rfl | exact congrArg bv (decide_eq_true rfl)))), rfl⟩, trivial⟩
        · exact killT hb4 ((by exact decide_eq_true rfl))
      · exact killT hb3 ((by exact beq_self_eq_true _))

set_option maxHeartbeats 400000 in
theorem batchCanon_c (b : List GRes) (ho : okB b) : PCall Tryd.prog Γ0 4 [batchAv b] [bv true] := by
  refine pcall_of Tryd.func4 rfl Tryd.ntmps4 (by kernel_rfl) rfl fun w0 I0 G0 => ?_
  refine aw_seq ?_
  refine aw_region ?_
  refine g_uG (s_box_imm 1001 rfl rfl rfl rfl) rfl ?_
  refine g_u (s_as_imm rfl rfl) ?_
  refine g_nil ?_
  refine normal_thn ?_
  refine aw_seq ?_
  refine aw_seq ?_
  refine aw_region ?_
  refine g_u (s_load_imm rfl rfl rfl tA24 tS24 rfl rfl) ?_
  refine g_u (s_call1 (leftR_c _ _ (by first | decide | omega)) rfl rfl) ?_
  refine g_u (s_ltI rfl rfl rfl) ?_
  refine g_nil ?_
  refine normal_thn ?_
  refine aw_cond rfl (fun hb1 => ?_) (fun hb1 => ?_)
  · skip
    have z1 : leftR b 6000 < 0 := of_decide_eq_true hb1
    refine aw_seq ?_
    refine aw_region ?_
    refine g_u (s_call1 (works28_c) rfl rfl) ?_
    refine g_u (s_as_imm rfl rfl) ?_
    refine g_nil ?_
    refine normal_thn ?_
    refine aw_ret ?_
    refine ret_thn ?_
    exact ⟨⟨(rfl : toAV (Al.look _ _) = some _).trans (congrArg some (by rfl)), rfl⟩, trivial⟩
  · skip
    have z1 : ¬ leftR b 6000 < 0 := of_decide_eq_false hb1
    have hwb := leftR_le z1
    have hcb := wt_canonB b
    have hcc := wt_canonB (canonB b)
    have hob := ok_canonB ho
    have hrb : ∀ r ∈ canonB b, risA none r.attrs := fun r hr => by obtain ⟨x, _, rfl⟩ := List.mem_map.1 hr; exact ris_canonAs _
    have qlc := sumBy_len GRes.wt (fun e => by unfold GRes.wt; omega) (canonB b)
    have qwc : wtB (canonB b) = sumBy GRes.wt (canonB b) := rfl
    refine aw_skip ?_
    refine normal_thn ?_
    refine aw_seq ?_
    refine aw_draw mixed ?_
    refine g_u (s_load_imm rfl rfl rfl tA24 tS24 rfl rfl) ?_
    refine g_u (s_call1 (pcanonB_c _ (by omega)) rfl rfl) ?_
    refine g_u (s_load_imm rfl rfl rfl tA24 tS24 rfl rfl) ?_
    refine g_u (s_call1 (canonB_c b (by omega)) rfl rfl) ?_
    refine g_uG (s_alloc' 1003 rfl rfl rfl tZ24) rfl ?_
    refine g_uG (s_alloc' 1004 rfl rfl rfl tZ24) rfl ?_
    refine g_u (s_store_imm rfl rfl rfl tS24 rfl rfl) ?_
    refine g_u (s_store_imm rfl rfl rfl tS24 rfl rfl) ?_
    refine g_nil ⟨by kernel_rfl, ?_⟩
    refine normal_thn ?_
    refine aw_seq ?_
    refine aw_seq ?_
    refine aw_draw mixed ?_
    refine g_u (s_load_agg rfl rfl rfl tA24 tS24 rfl rfl) ?_
    refine g_u (s_load_agg rfl rfl rfl tA24 tS24 rfl rfl) ?_
    refine g_u (s_call1 (rsameB_c _ _ (by omega)) rfl rfl) ?_
    refine g_u (s_not rfl rfl) ?_
    refine g_u (s_mv_imm rfl rfl) ?_
    refine g_case (t := 18) rfl ?_
    rintro (hb2 | hb2)
    · exact killF hb2 ((by exact congrArg not (decide_eq_true rfl)))
    · rw [hb2]
      refine g_run rfl rfl (s_load_agg rfl rfl rfl tA24 tS24 rfl rfl) ?_
      refine g_run rfl rfl (s_call1 (pcanonB_c _ (by omega)) rfl rfl) ?_
      refine g_run rfl rfl (s_load_agg rfl rfl rfl tA24 tS24 rfl rfl) ?_
      refine g_run rfl rfl (s_call1 (psameB_c _ _ (by omega)) rfl rfl) ?_
      refine g_run rfl rfl (s_not rfl rfl) ?_
      refine g_u (s_pick_f rfl rfl rfl) ?_
      refine g_nil ⟨by kernel_rfl, ?_⟩
      refine normal_thn ?_
      refine aw_cond rfl (fun hb3 => ?_) (fun hb3 => ?_)
      · exact killF hb3 ((by exact congrArg not (decide_eq_true (canonB_idem b))))
      · skip
        refine aw_skip ?_
        refine normal_thn ?_
        refine aw_seq ?_
        refine aw_seq ?_
        refine aw_region ?_
        refine g_u (s_as_imm rfl rfl) ?_
        refine g_nil ?_
        refine normal_thn ?_
        refine aw_block ?_
        refine aw_loop' (fun i : Nat => [(4, .ptr 1004 0), (1004, .box 24 (.imm (batchAv (canonB b)))), (5, .imm (iv (i : Int)))]) (fun i => i ≤ (canonB b).length) (fun i => (canonB b).length - i) (0) ?_ ⟨rfl, rfl, rfl, trivial⟩ ?_
        · exact Nat.zero_le _
        · rintro i h1; have h1 : i ≤ (canonB b).length := h1
          refine aw_seq ?_
          refine aw_seq ?_
          refine aw_region ?_
          refine g_u (s_mv_imm rfl rfl) ?_
          refine g_u (s_fieldAddr rfl rfl fa24_0 rfl) ?_
          refine g_u (s_load_imm rfl rfl rfl tA22 tS22 rfl rfl) ?_
          refine g_u (s_lenL rfl rfl Tryd.underlying22) ?_
          refine g_u (s_ltI rfl rfl rfl) ?_
          refine g_nil ?_
          refine normal_thn ?_
          refine aw_cond rfl (fun hb4 => ?_) (fun hb4 => ?_)
          · skip
            have hi : i < (canonB b).length := by have := of_decide_eq_true hb4; (try simp only [List.length_map] at this); omega
            have hrx := sumBy_mem GRes.wt (nthR_mem hi)
            have hrq : (nthR (canonB b) i).wt = 1 + wtAs (nthR (canonB b) i).attrs + sumBy GScope.wt (nthR (canonB b) i).scopes := rfl
            have hro := hob _ (nthR_mem hi)
            have hrr := hrb _ (nthR_mem hi)
            refine aw_skip ?_
            refine normal_thn ?_
            refine aw_seq ?_
            refine aw_block ?_
            refine aw_seq ?_
            refine aw_draw mixed ?_
            refine g_u (s_fieldAddr rfl rfl fa24_0 rfl) ?_
            refine g_u (s_load_imm rfl rfl rfl tA22 tS22 rfl rfl) ?_
            refine g_u (s_mv_imm rfl rfl) ?_
            refine g_u (s_indexAddr rfl rfl rfl Tryd.underlying22 tS33 (by omega) (ixR hi)) ?_
            refine g_u (s_load_cp rfl rfl tA33 tS33 rfl rfl) ?_
            refine g_u (s_call1 (service_c _ hro.1 (by omega) hrr) rfl rfl) ?_
            refine g_u (s_fieldAddr rfl rfl fa24_0 rfl) ?_
            refine g_u (s_load_imm rfl rfl rfl tA22 tS22 rfl rfl) ?_
            refine g_u (s_mv_imm rfl rfl) ?_
            refine g_u (s_indexAddr rfl rfl rfl Tryd.underlying22 tS33 (by omega) (ixR hi)) ?_
            refine g_u (s_load_cp rfl rfl tA33 tS33 rfl rfl) ?_
            refine g_u (s_call1 (rservice_c _ hro.1 (by omega)) rfl rfl) ?_
            refine g_u (s_neS rfl rfl rfl) ?_
            refine g_nil ⟨by kernel_rfl, ?_⟩
            refine normal_thn ?_
            refine aw_cond rfl (fun hb5 => ?_) (fun hb5 => ?_)
            · exact killF hb5 ((by exact bne_self_eq_false _))
            · skip
              refine aw_skip ?_
              refine normal_blk ?_
              refine normal_thn ?_
              refine aw_region ?_
              refine g_u (s_mv_imm rfl rfl) ?_
              refine g_u (s_add rfl rfl rfl) ?_
              refine g_u (s_as_imm rfl rfl) ?_
              refine g_nil ?_
              refine normal_thn ?_
              refine ⟨i + 1, hi, ⟨rfl, rfl, look_int rfl (by rw [wrap64 (by omega) (by omega)]; rfl), trivial⟩, by (try dsimp only); omega⟩
          · skip
            have hin : i = (canonB b).length := by have := of_decide_eq_false hb4; (try simp only [List.length_map] at this); omega
            refine aw_exit ?_
            refine exit_thn ?_
            refine exit_thn ?_
            refine exit_blk ?_
            refine normal_thn ?_
            refine aw_seq ?_
            refine aw_region ?_
            refine g_u (s_call1 (works28_c) rfl rfl) ?_
            refine g_u (s_as_imm rfl rfl) ?_
            refine g_nil ?_
            refine normal_thn ?_
            refine aw_ret ?_
            exact ⟨⟨(rfl : toAV (Al.look _ _) = some _).trans (congrArg some (by rfl)), rfl⟩, trivial⟩

theorem cap_n (L m : Int) (l : Nat) (h : L = (l : Int)) : ∃ n : Nat, (if (if L < m then L else m) > 0 then (if L < m then L else m) else 0) = (n : Int) ∧ n ≤ l := by
  refine ⟨(if (if L < m then L else m) > 0 then (if L < m then L else m) else 0).toNat, ?_, ?_⟩ <;> (repeat' split) <;> omega
theorem ixT {l : List (Nat × Nat × Nat)} {i n : Nat} (h : i < l.length) (hn : i < n) : ((l.take n).map plav)[((i : Nat) : Int).toNat]? = some (plav (nthP l i)) := by
  rw [Int.toNat_natCast, List.getElem?_map, List.getElem?_take_of_lt hn, nth_get (d := p00) h]; rfl
theorem any_take {f : Nat × Nat × Nat → Bool} {l : List (Nat × Nat × Nat)} {i : Nat} (h : i < l.length) : (l.take (i + 1)).any f = ((l.take i).any f || f (nthP l i)) := by
  rw [take_snoc (nth_get (d := p00) h), List.any_append]; simp [nthP]
theorem inB_any (b : List GRes) (p : Int × Int × Int) : inB b p = (plR 0 b).any fun q => decide (intP q = p) := by
  rw [Bool.eq_iff_iff, inB_mem, List.any_eq_true]
  simp only [decide_eq_true_iff]
theorem intP_eq (q : Nat × Nat × Nat) (p : Int × Int × Int) : decide (intP q = p) = (((q.1 : Int) == p.1) && (((q.2.1 : Int) == p.2.1) && (((q.2.2 : Int) == p.2.2) && true))) := by
  obtain ⟨x, y, z⟩ := p
  rw [Bool.eq_iff_iff]
  simp [intP]
theorem atS_wt {b : List GRes} {p : Int × Int × Int} (h : inB b p = true) : (atS b p).wt ≤ wtB b := by
  obtain ⟨q, hq, rfl⟩ := inB_mem.1 h
  rw [atS_nat hq]; exact spAt_wt hq
set_option maxHeartbeats 4000000 in
theorem batchGoes_c (b : List GRes) (m : Int) (p : Int × Int × Int) : PCall Tryd.prog Γ0 5 [batchAv b, iv m, placeAv p] [bv true] := by
  refine pcall_of Tryd.func5 rfl Tryd.ntmps5 (by kernel_rfl) rfl fun w0 I0 G0 => ?_
  refine aw_seq ?_
  refine aw_region ?_
  refine g_uG (s_box_imm 1003 rfl rfl rfl rfl) rfl ?_
  refine g_uG (s_box_imm 1005 rfl rfl rfl rfl) rfl ?_
  refine g_u (s_as_imm rfl rfl) ?_
  refine g_nil ?_
  refine normal_thn ?_
  refine aw_seq ?_
  refine aw_seq ?_
  refine aw_region ?_
  refine g_u (s_load_imm rfl rfl rfl tA24 tS24 rfl rfl) ?_
  refine g_u (s_call1 (leftR_c _ _ (by first | decide | omega)) rfl rfl) ?_
  refine g_u (s_ltI rfl rfl rfl) ?_
  refine g_nil ?_
  refine normal_thn ?_
  refine aw_cond rfl (fun hb1 => ?_) (fun hb1 => ?_)
  · skip
    have z1 : leftR b 6000 < 0 := of_decide_eq_true hb1
    refine aw_seq ?_
    refine aw_region ?_
    refine g_u (s_call1 (works28_c) rfl rfl) ?_
    refine g_u (s_as_imm rfl rfl) ?_
    refine g_nil ?_
    refine normal_thn ?_
    refine aw_ret ?_
    refine ret_thn ?_
    exact ⟨⟨(rfl : toAV (Al.look _ _) = some _).trans (congrArg some (by rfl)), rfl⟩, trivial⟩
  · skip
    have z1 : ¬ leftR b 6000 < 0 := of_decide_eq_false hb1
    have hwb := leftR_le z1
    have qw : wtB b = sumBy GRes.wt b := rfl
    have hpl := plR_len 0 b
    refine aw_skip ?_
    refine normal_thn ?_
    refine aw_seq ?_
    refine aw_region ?_
    refine g_u (s_load_imm rfl rfl rfl tA24 tS24 rfl rfl) ?_
    refine g_u (s_call1 (places_c b (by omega)) rfl rfl) ?_
    refine g_u (s_as_imm rfl rfl) ?_
    refine g_nil ?_
    refine normal_thn ?_
    refine aw_seq ?_
    refine aw_region ?_
    refine g_u (s_mv_imm rfl rfl) ?_
    refine g_u (s_mv_imm rfl rfl) ?_
    refine g_u (s_lenL rfl rfl Tryd.underlying37) ?_
    refine g_u (s_min rfl rfl rfl) ?_
    refine g_u (s_max rfl rfl rfl) ?_
    refine g_u (s_as_imm rfl rfl) ?_
    refine g_nil ?_
    refine normal_thn ?_
    refine aw_seq ?_
    obtain ⟨n, hn, hnl⟩ := cap_n ((((plR 0 b).map plav).length : Nat) : Int) m (plR 0 b).length (by rw [List.length_map])
    rw [hn]
    refine aw_region ?_
    refine g_u (s_load_imm rfl rfl rfl tA24 tS24 rfl rfl) ?_
    refine g_u (s_mv_imm rfl rfl) ?_
    refine g_u (s_call2 (places28_c b n hnl (by omega)) rfl rfl) ?_
    refine g_u (s_mv_tup rfl rfl) ?_
    refine g_u (s_extract rfl rfl rfl rfl) ?_
    refine g_u (s_extract rfl rfl rfl rfl) ?_
    refine g_u (s_as_imm rfl rfl) ?_
    refine g_u (s_as_imm rfl rfl) ?_
    refine g_nil ?_
    refine normal_thn ?_
    refine aw_seq ?_
    refine aw_seq ?_
    refine aw_region ?_
    refine g_u (s_mv_imm rfl rfl) ?_
    refine g_u (s_not rfl rfl) ?_
    refine g_u (s_mv_imm rfl rfl) ?_
    refine g_case (t := 34) rfl ?_
    rintro (hb2 | hb2)
    · exact killF hb2 ((by rfl))
    · rw [hb2]
      refine g_run rfl rfl (s_mv_imm rfl rfl) ?_
      refine g_run rfl rfl (s_lenL rfl rfl Tryd.underlying37) ?_
      refine g_run rfl rfl (s_mv_imm rfl rfl) ?_
      refine g_run rfl rfl (s_neI rfl rfl rfl) ?_
      refine g_u (s_pick_f rfl rfl rfl) ?_
      refine g_u (s_mv_imm rfl rfl) ?_
      refine g_case (t := 40) rfl ?_
      rintro (hb3 | hb3)
      · exact killF hb3 ((by rw [bne_eq_false_iff_eq, List.length_map, List.length_take]; omega))
      · rw [hb3]
        refine g_run rfl rfl (s_load_imm rfl rfl rfl tA24 tS24 rfl rfl) ?_
        refine g_run rfl rfl (s_call1 (count_c _ (by omega)) rfl rfl) ?_
        refine g_run rfl rfl (s_mv_imm rfl rfl) ?_
        refine g_run rfl rfl (s_lenL rfl rfl Tryd.underlying37) ?_
        refine g_run rfl rfl (s_neI rfl rfl rfl) ?_
        refine g_u (s_pick_f rfl rfl rfl) ?_
        refine g_nil ?_
        refine normal_thn ?_
        refine aw_cond rfl (fun hb4 => ?_) (fun hb4 => ?_)
        · exact killF hb4 ((by rw [bne_eq_false_iff_eq, List.length_map]))
        · skip
          refine aw_skip ?_
          refine normal_thn ?_
          refine aw_seq ?_
          refine aw_region ?_
          refine g_u (s_as_imm rfl rfl) ?_
          refine g_nil ?_
          refine normal_thn ?_
          refine aw_seq ?_
          refine aw_seq ?_
          refine aw_region ?_
          refine g_u (s_as_imm rfl rfl) ?_
          refine g_nil ?_
          refine normal_thn ?_
          refine aw_block ?_
          refine aw_loop' (fun j : Nat × Bool => [(3, .ptr 1003 0), (1003, .box 24 (.imm (batchAv b))), (5, .ptr 1005 0), (1005, .box 36 (.imm (placeAv p))), (7, .imm (.sl 3 ((plR 0 b).map plav))), (8, .imm (iv (n : Int))), (9, .imm (.sl 3 (((plR 0 b).take n).map plav))), (11, .imm (bv j.2)), (12, .imm (iv (j.1 : Int)))]) (fun j => j.1 ≤ (plR 0 b).length ∧ j.2 = ((plR 0 b).take j.1).any (fun q => decide (intP q = p))) (fun j => (plR 0 b).length - j.1) (⟨0, false⟩) ?_ ⟨rfl, rfl, rfl, rfl, rfl, rfl, rfl, rfl, rfl, trivial⟩ ?_
          · exact ⟨Nat.zero_le _, rfl⟩
          · rintro ⟨i, acc⟩ ⟨h1, h2⟩; dsimp only at h1 h2
            refine aw_seq ?_
            refine aw_seq ?_
            refine aw_region ?_
            refine g_u (s_mv_imm rfl rfl) ?_
            refine g_u (s_mv_imm rfl rfl) ?_
            refine g_u (s_lenL rfl rfl Tryd.underlying37) ?_
            refine g_u (s_ltI rfl rfl rfl) ?_
            refine g_nil ?_
            refine normal_thn ?_
            refine aw_cond rfl (fun hb5 => ?_) (fun hb5 => ?_)
            · skip
              have hi : i < (plR 0 b).length := by have := of_decide_eq_true hb5; (try simp only [List.length_map] at this); omega
              refine aw_skip ?_
              refine normal_thn ?_
              refine aw_seq ?_
              refine aw_block ?_
              refine aw_seq ?_
              refine aw_seq ?_
              refine aw_draw mixed ?_
              refine g_u (s_mv_imm rfl rfl) ?_
              refine g_u (s_mv_imm rfl rfl) ?_
              refine g_u (s_ltI rfl rfl rfl) ?_
              refine g_u (s_mv_imm rfl rfl) ?_
              refine g_case (t := 56) rfl ?_
              rintro (hb6 | hb6)
              · rw [hb6]
                have hin2 : i < n := by have := of_decide_eq_true hb6; omega
                refine g_run rfl rfl (s_mv_imm rfl rfl) ?_
                refine g_run rfl rfl (s_mv_imm rfl rfl) ?_
                refine g_run rfl rfl (s_indexAddr rfl rfl rfl Tryd.underlying37 tS36 (by omega) (ixT hi hin2)) ?_
                refine g_run rfl rfl (s_load_cp rfl rfl tA36 tS36 rfl rfl) ?_
                refine g_run rfl rfl (s_mv_imm rfl rfl) ?_
                refine g_run rfl rfl (s_mv_imm rfl rfl) ?_
                refine g_run rfl rfl (s_indexAddr rfl rfl rfl Tryd.underlying37 tS36 (by omega) (ixP hi)) ?_
                refine g_run rfl rfl (s_load_cp rfl rfl tA36 tS36 rfl rfl) ?_
                refine g_run rfl rfl (s_neA rfl rfl rfl eg36 rfl rfl (eq36 _ _ _ _ _ _)) ?_
                refine g_u (s_pick_t rfl rfl rfl) ?_
                refine g_nil ⟨by kernel_rfl, ?_⟩
                refine normal_thn ?_
                refine aw_cond rfl (fun hb7 => ?_) (fun hb7 => ?_)
                · exact killF hb7 ((by simp))
                · skip
                  refine aw_skip ?_
                  refine normal_thn ?_
                  refine aw_draw mixed ?_
                  refine g_u (s_mv_imm rfl rfl) ?_
                  refine g_u (s_mv_imm rfl rfl) ?_
                  refine g_case (t := 68) rfl ?_
                  rintro (hb8 | hb8)
                  · rw [hb8]
                    have hacc : acc = true := hb8
                    refine g_skip rfl rfl rfl ?_
                    refine g_skip rfl rfl rfl ?_
                    refine g_skip rfl rfl rfl ?_
                    refine g_skip rfl rfl rfl ?_
                    refine g_skip rfl rfl rfl ?_
                    refine g_skip rfl rfl rfl ?_
                    refine g_u (s_pick_t rfl rfl rfl) ?_
                    refine g_u (s_as_imm rfl rfl) ?_
                    refine g_nil ⟨by kernel_rfl, ?_⟩
                    refine normal_blk ?_
                    refine normal_thn ?_
                    refine aw_region ?_
                    refine g_u (s_mv_imm rfl rfl) ?_
                    refine g_u (s_add rfl rfl rfl) ?_
                    refine g_u (s_as_imm rfl rfl) ?_
                    refine g_nil ?_
                    refine normal_thn ?_
                    refine ⟨⟨i + 1, _⟩, ⟨hi, ?_⟩, ⟨rfl, rfl, rfl, rfl, rfl, rfl, rfl, rfl, look_int rfl (by rw [wrap64 (by omega) (by omega)]; rfl), trivial⟩, by (try dsimp only); omega⟩
                    (try dsimp only); rw [any_take hi, ← h2, intP_eq, hacc]; rfl
                  · rw [hb8]
                    have hacc : acc = false := hb8
                    refine g_run rfl rfl (s_mv_imm rfl rfl) ?_
                    refine g_run rfl rfl (s_mv_imm rfl rfl) ?_
                    refine g_run rfl rfl (s_indexAddr rfl rfl rfl Tryd.underlying37 tS36 (by omega) (ixP hi)) ?_
                    refine g_run rfl rfl (s_load_cp rfl rfl tA36 tS36 rfl rfl) ?_
                    refine g_run rfl rfl (s_load_imm rfl rfl rfl tA36 tS36 rfl rfl) ?_
                    refine g_run rfl rfl (s_eqA rfl rfl rfl eg36 rfl rfl (eq36 _ _ _ _ _ _)) ?_
                    refine g_u (s_pick_f rfl rfl rfl) ?_
                    refine g_u (s_as_imm rfl rfl) ?_
                    refine g_nil ⟨by kernel_rfl, ?_⟩
                    refine normal_blk ?_
                    refine normal_thn ?_
                    refine aw_region ?_
                    refine g_u (s_mv_imm rfl rfl) ?_
                    refine g_u (s_add rfl rfl rfl) ?_
                    refine g_u (s_as_imm rfl rfl) ?_
                    refine g_nil ?_
                    refine normal_thn ?_
                    refine ⟨⟨i + 1, _⟩, ⟨hi, ?_⟩, ⟨rfl, rfl, rfl, rfl, rfl, rfl, rfl, rfl, look_int rfl (by rw [wrap64 (by omega) (by omega)]; rfl), trivial⟩, by (try dsimp only); omega⟩
                    (try dsimp only); rw [any_take hi, ← h2, intP_eq, hacc]; rfl
              · rw [hb6]
                refine g_skip rfl rfl rfl ?_
                refine g_skip rfl rfl rfl ?_
                refine g_skip rfl rfl rfl ?_
                refine g_skip rfl rfl rfl ?_
                refine g_skip rfl rfl rfl ?_
                refine g_skip rfl rfl rfl ?_
                refine g_skip rfl rfl rfl ?_
                refine g_skip rfl rfl rfl ?_
                refine g_skip rfl rfl rfl ?_
                refine g_u (s_pick_f rfl rfl rfl) ?_
                refine g_nil ⟨by kernel_rfl, ?_⟩
                refine normal_thn ?_
                refine aw_cond_false rfl ?_
                refine aw_skip ?_
                refine normal_thn ?_
                refine aw_draw mixed ?_
                refine g_u (s_mv_imm rfl rfl) ?_
                refine g_u (s_mv_imm rfl rfl) ?_
                refine g_case (t := 68) rfl ?_
                rintro (hb9 | hb9)
                · rw [hb9]
                  have hacc : acc = true := hb9
                  refine g_skip rfl rfl rfl ?_
                  refine g_skip rfl rfl rfl ?_
                  refine g_skip rfl rfl rfl ?_
                  refine g_skip rfl rfl rfl ?_
                  refine g_skip rfl rfl rfl ?_
                  refine g_skip rfl rfl rfl ?_
                  refine g_u (s_pick_t rfl rfl rfl) ?_
                  refine g_u (s_as_imm rfl rfl) ?_
                  refine g_nil ⟨by kernel_rfl, ?_⟩
                  refine normal_blk ?_
                  refine normal_thn ?_
                  refine aw_region ?_
                  refine g_u (s_mv_imm rfl rfl) ?_
                  refine g_u (s_add rfl rfl rfl) ?_
                  refine g_u (s_as_imm rfl rfl) ?_
                  refine g_nil ?_
                  refine normal_thn ?_
                  refine ⟨⟨i + 1, _⟩, ⟨hi, ?_⟩, ⟨rfl, rfl, rfl, rfl, rfl, rfl, rfl, rfl, look_int rfl (by rw [wrap64 (by omega) (by omega)]; rfl), trivial⟩, by (try dsimp only); omega⟩
                  (try dsimp only); rw [any_take hi, ← h2, intP_eq, hacc]; rfl
                · rw [hb9]
                  have hacc : acc = false := hb9
                  refine g_run rfl rfl (s_mv_imm rfl rfl) ?_
                  refine g_run rfl rfl (s_mv_imm rfl rfl) ?_
                  refine g_run rfl rfl (s_indexAddr rfl rfl rfl Tryd.underlying37 tS36 (by omega) (ixP hi)) ?_
                  refine g_run rfl rfl (s_load_cp rfl rfl tA36 tS36 rfl rfl) ?_
                  refine g_run rfl rfl (s_load_imm rfl rfl rfl tA36 tS36 rfl rfl) ?_
                  refine g_run rfl rfl (s_eqA rfl rfl rfl eg36 rfl rfl (eq36 _ _ _ _ _ _)) ?_
                  refine g_u (s_pick_f rfl rfl rfl) ?_
                  refine g_u (s_as_imm rfl rfl) ?_
                  refine g_nil ⟨by kernel_rfl, ?_⟩
                  refine normal_blk ?_
                  refine normal_thn ?_
                  refine aw_region ?_
                  refine g_u (s_mv_imm rfl rfl) ?_
                  refine g_u (s_add rfl rfl rfl) ?_
                  refine g_u (s_as_imm rfl rfl) ?_
                  refine g_nil ?_
                  refine normal_thn ?_
                  refine ⟨⟨i + 1, _⟩, ⟨hi, ?_⟩, ⟨rfl, rfl, rfl, rfl, rfl, rfl, rfl, rfl, look_int rfl (by rw [wrap64 (by omega) (by omega)]; rfl), trivial⟩, by (try dsimp only); omega⟩
                  (try dsimp only); rw [any_take hi, ← h2, intP_eq, hacc]; rfl
            · skip
              have hin : i = (plR 0 b).length := by have := of_decide_eq_false hb5; (try simp only [List.length_map] at this); omega
              refine aw_exit ?_
              refine exit_thn ?_
              refine exit_thn ?_
              refine exit_blk ?_
              refine normal_thn ?_
              refine aw_seq ?_
              refine aw_region ?_
              refine g_u (s_load_imm rfl rfl rfl tA24 tS24 rfl rfl) ?_
              refine g_u (s_load_imm rfl rfl rfl tA36 tS36 rfl rfl) ?_
              refine g_u (s_call2 (batchAt_c b p) rfl rfl) ?_
              refine g_u (s_mv_tup rfl rfl) ?_
              refine g_u (s_extract rfl rfl rfl rfl) ?_
              refine g_u (s_extract rfl rfl rfl rfl) ?_
              refine g_uG (s_alloc' 1013 rfl rfl rfl tZ52) rfl ?_
              refine g_u (s_store_imm rfl rfl rfl tS52 (by first | exact beqW (GSpan.width _) | rfl) (by first | exact setS_w (z52_w.trans (GSpan.width _).symm) rfl | rfl)) ?_
              refine g_u (s_as_imm rfl rfl) ?_
              refine g_nil ?_
              refine normal_thn ?_
              refine aw_seq ?_
              refine aw_seq ?_
              refine aw_draw mixed ?_
              refine g_u (s_mv_imm rfl rfl) ?_
              refine g_u (s_mv_imm rfl rfl) ?_
              refine g_case (t := 83) rfl ?_
              rintro (hb10 | hb10)
              · rw [hb10]
                have hib : inB b p = true := hb10
                have hsw := atS_wt hib
                refine g_run rfl rfl (s_load_imm rfl rfl rfl tA52 tS52 rfl (by first | exact getS_w (GSpan.width _) rfl | rfl)) ?_
                refine g_run rfl rfl (s_load_imm rfl rfl rfl tA24 tS24 rfl rfl) ?_
                refine g_run rfl rfl (s_load_imm rfl rfl rfl tA36 tS36 rfl rfl) ?_
                refine g_run rfl rfl (s_call1 (rspan28_c b p hib) rfl rfl) ?_
                refine g_run rfl rfl (s_call1 (rsameS_c (atS b p) _ (by omega)) rfl rfl) ?_
                refine g_run rfl rfl (s_not rfl rfl) ?_
                refine g_u (s_pick_t rfl rfl rfl) ?_
                refine g_nil ⟨by kernel_rfl, ?_⟩
                refine normal_thn ?_
                refine aw_cond rfl (fun hb11 => ?_) (fun hb11 => ?_)
                · exact killF hb11 ((by exact congrArg not (decide_eq_true rfl)))
                · skip
                  refine aw_skip ?_
                  refine normal_thn ?_
                  refine aw_seq ?_
                  refine aw_region ?_
                  refine g_u (s_mv_imm rfl rfl) ?_
                  refine g_u (s_mv_imm rfl rfl) ?_
                  refine g_u (s_eqB rfl rfl rfl Tryd.underlying4) ?_
                  refine g_u (s_mv_imm rfl rfl) ?_
                  refine g_case (t := 94) rfl ?_
                  rintro (hb12 | hb12)
                  · rw [hb12]
                    refine g_run rfl rfl (s_call1 (works28_c) rfl rfl) ?_
                    refine g_u (s_pick_t rfl rfl rfl) ?_
                    refine g_u (s_as_imm rfl rfl) ?_
                    refine g_nil ?_
                    refine normal_thn ?_
                    refine aw_ret ?_
                    exact ⟨⟨(rfl : toAV (Al.look _ _) = some _).trans (congrArg some (by rfl)), rfl⟩, trivial⟩
                  · exact killT hb12 ((by have e := inB_any b p; rw [hib] at e; rw [h2, hin, List.take_length, ← e]; rfl))
              · rw [hb10]
                have hib : inB b p = false := hb10
                refine g_skip rfl rfl rfl ?_
                refine g_skip rfl rfl rfl ?_
                refine g_skip rfl rfl rfl ?_
                refine g_skip rfl rfl rfl ?_
                refine g_skip rfl rfl rfl ?_
                refine g_skip rfl rfl rfl ?_
                refine g_u (s_pick_f rfl rfl rfl) ?_
                refine g_nil ⟨by kernel_rfl, ?_⟩
                refine normal_thn ?_
                refine aw_cond_false rfl ?_
                refine aw_skip ?_
                refine normal_thn ?_
                refine aw_seq ?_
                refine aw_region ?_
                refine g_u (s_mv_imm rfl rfl) ?_
                refine g_u (s_mv_imm rfl rfl) ?_
                refine g_u (s_eqB rfl rfl rfl Tryd.underlying4) ?_
                refine g_u (s_mv_imm rfl rfl) ?_
                refine g_case (t := 94) rfl ?_
                rintro (hb13 | hb13)
                · rw [hb13]
                  refine g_run rfl rfl (s_call1 (works28_c) rfl rfl) ?_
                  refine g_u (s_pick_t rfl rfl rfl) ?_
                  refine g_u (s_as_imm rfl rfl) ?_
                  refine g_nil ?_
                  refine normal_thn ?_
                  refine aw_ret ?_
                  exact ⟨⟨(rfl : toAV (Al.look _ _) = some _).trans (congrArg some (by rfl)), rfl⟩, trivial⟩
                · exact killT hb13 ((by have e := inB_any b p; rw [hib] at e; rw [h2, hin, List.take_length, ← e]; rfl))

end Go.Proofs

