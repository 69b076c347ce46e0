/- Texts that the proofs of this claim share, part 6: the abstract logic, plain Lean on values and batches, and walks. No condition but those typed in each lemma. -/
import Derived.Test.YtmjlfkmgamlpcaaDoorP5
set_option linter.unusedSimpArgs false
set_option linter.unusedVariables false
namespace Go.Proofs
open Go Go.Al
set_option maxRecDepth 10000
theorem nil2nd {P : Program} {Γ : List (Nat × AV)} {f : FuncId} {n : Nat} {x : AV} {xs rs : List AV} (c : PCall P Γ f (x :: .sl n [] :: xs) rs) : PCall P Γ f (x :: .v (.slice none 0 0) :: xs) rs := c.args ⟨Up.refl _, Up.nil n, Ups.refl xs⟩

set_option maxHeartbeats 400000 in
theorem kept_c (l : List GA) (ks : List ByteArray) (ho : ∀ a ∈ l, a.ok) (hw : wtAs l ≤ 9000000) (hk : ks.length ≤ 1000000000) : PCall Tryd.prog Γ0 78 [(.sl 7 (l.map avA)), (.sl 1 (ks.map fun x => sv x))] [.sl 7 ((keptA ks l).map avA)] := by
  have hl := len_wtAs l
  refine pcall_of Tryd.func78 rfl Tryd.ntmps78 (by kernel_rfl) rfl fun w0 I0 G0 => ?_
  refine aw_seq ?_
  refine aw_region ?_
  refine g_u (s_as_imm rfl rfl) ?_
  refine g_nil ?_
  refine normal_thn ?_
  refine aw_seq ?_
  refine aw_region ?_
  refine g_u (s_mv_imm rfl rfl) ?_
  refine g_u (s_buildSlice (X0 := z5) rfl Tryd.underlying79 tS5 tZ5 rfl rfl rfl rfl rfl rfl rfl rfl) ?_
  refine g_u (s_call1 (plainAs_c l nJ ho (by omega) (by decide)) rfl rfl) ?_
  refine g_u (s_mv_imm rfl rfl) ?_
  refine g_u (s_call1 (drop_c (l.map (plainA nJ)) ks (by rw [List.length_map]; omega) hk) rfl rfl) ?_
  refine g_u (s_as_imm rfl rfl) ?_
  refine g_nil ?_
  refine normal_thn ?_
  refine aw_ret ?_
  exact ⟨⟨(rfl : toAV (Al.look _ _) = some _).trans (congrArg some (by rfl)), rfl⟩, trivial⟩

set_option maxHeartbeats 400000 in
theorem rkept_c (l : List GA) (ks : List ByteArray) (ho : ∀ a ∈ l, a.ok) (hw : wtAs l ≤ 9000000) (hk : ks.length ≤ 1000000000) : PCall Tryd.prog Γ0 76 [(.sl 7 (l.map avA)), (.sl 1 (ks.map fun x => sv x))] [.sl 7 ((keptA ks l).map avA)] := by
  have hl := len_wtAs l
  have hd : ∀ a ∈ dropA ks l, a.ok := fun a h => ho a (dropA_mem h).1
  have hwd := dropA_wt ks l
  refine pcall_of Tryd.func76 rfl Tryd.ntmps76 (by kernel_rfl) rfl fun w0 I0 G0 => ?_
  refine aw_seq ?_
  refine aw_region ?_
  refine g_u (s_as_imm rfl rfl) ?_
  refine g_nil ?_
  refine normal_thn ?_
  refine aw_seq ?_
  refine aw_region ?_
  refine g_u (s_mv_imm rfl rfl) ?_
  refine g_u (s_mv_imm rfl rfl) ?_
  refine g_u (s_call1 (rdrop_c l ks (by omega) hk) rfl rfl) ?_
  refine g_u (s_buildSlice (X0 := z5) rfl Tryd.underlying79 tS5 tZ5 rfl rfl rfl rfl rfl rfl rfl rfl) ?_
  refine g_u (s_call1 (rplainAs_c (dropA ks l) nJ hd (by omega) (by decide)) rfl rfl) ?_
  refine g_u (s_as_imm rfl rfl) ?_
  refine g_nil ?_
  refine normal_thn ?_
  refine aw_ret ?_
  exact ⟨⟨(rfl : toAV (Al.look _ _) = some _).trans (congrArg some (by (unfold keptA; rw [drop_plain]))), rfl⟩, trivial⟩

set_option maxHeartbeats 400000 in
theorem wholeN_c (n : Int) : PCall Tryd.prog Γ0 114 [uv n] [uv (wholeN n)] := by
  refine pcall_of Tryd.func114 rfl Tryd.ntmps114 (by kernel_rfl) rfl fun w0 I0 G0 => ?_
  refine aw_seq ?_
  refine aw_region ?_
  refine g_u (s_as_imm rfl rfl) ?_
  refine g_nil ?_
  refine normal_thn ?_
  refine aw_seq ?_
  refine aw_region ?_
  refine g_u (s_mv_imm rfl rfl) ?_
  refine g_u (s_call1 (micro_c _) rfl rfl) ?_
  refine g_u (s_call2 (nano_c _) rfl rfl) ?_
  refine g_u (s_mv_tup rfl rfl) ?_
  refine g_u (s_extract rfl rfl rfl rfl) ?_
  refine g_u (s_extract rfl rfl rfl rfl) ?_
  refine g_u (s_as_imm rfl rfl) ?_
  refine g_u (s_as_imm rfl rfl) ?_
  refine g_nil ?_
  refine normal_thn ?_
  refine aw_seq ?_
  refine aw_region ?_
  refine g_u (s_mv_imm rfl rfl) ?_
  refine g_u (s_as_imm rfl rfl) ?_
  refine g_nil ?_
  refine normal_thn ?_
  refine aw_ret ?_
  exact ⟨⟨(rfl : toAV (Al.look _ _) = some _).trans (congrArg some (by rfl)), rfl⟩, trivial⟩

set_option maxHeartbeats 400000 in
theorem rwholeN_c (n : Int) : PCall Tryd.prog Γ0 81 [uv n] [uv (wholeN n)] := by
  refine pcall_of Tryd.func81 rfl Tryd.ntmps81 (by kernel_rfl) rfl fun w0 I0 G0 => ?_
  refine aw_seq ?_
  refine aw_region ?_
  refine g_u (s_as_imm rfl rfl) ?_
  refine g_nil ?_
  refine normal_thn ?_
  refine aw_seq ?_
  refine aw_region ?_
  refine g_u (s_mv_imm rfl rfl) ?_
  refine g_u (s_call1 (rmicro_c _) rfl rfl) ?_
  refine g_u (s_call2 (rnano_c _) rfl rfl) ?_
  refine g_u (s_mv_tup rfl rfl) ?_
  refine g_u (s_extract rfl rfl rfl rfl) ?_
  refine g_u (s_extract rfl rfl rfl rfl) ?_
  refine g_u (s_as_imm rfl rfl) ?_
  refine g_u (s_as_imm rfl rfl) ?_
  refine g_nil ?_
  refine normal_thn ?_
  refine aw_seq ?_
  refine aw_region ?_
  refine g_u (s_mv_imm rfl rfl) ?_
  refine g_u (s_as_imm rfl rfl) ?_
  refine g_nil ?_
  refine normal_thn ?_
  refine aw_ret ?_
  exact ⟨⟨(rfl : toAV (Al.look _ _) = some _).trans (congrArg some (by (rw [← nano_same]; rfl))), rfl⟩, trivial⟩

set_option maxHeartbeats 400000 in
theorem njE_c (e : GE) (ho : e.ok) (hw : e.wt ≤ 9000000) : PCall Tryd.prog Γ0 79 [e.av] [(njE e).av] := by
  have q : e.wt = 1 + e.name.size + wtAs e.attrs := rfl
  refine pcall_of Tryd.func79 rfl Tryd.ntmps79 (by kernel_rfl) rfl fun w0 I0 G0 => ?_
  refine aw_seq ?_
  refine aw_region ?_
  refine g_uG (s_box_imm 1001 rfl rfl rfl rfl) rfl ?_
  refine g_uG (s_alloc' 1002 rfl rfl rfl tZ86) rfl ?_
  refine g_nil ?_
  refine normal_thn ?_
  refine aw_seq ?_
  refine aw_draw mixed ?_
  refine g_u (s_fieldAddr rfl rfl fa86_0 rfl) ?_
  refine g_u (s_load_imm rfl rfl rfl tA29 tS29 rfl rfl) ?_
  refine g_u (s_call1 (wholeN_c _) rfl rfl) ?_
  refine g_u (s_fieldAddr rfl rfl fa86_1 rfl) ?_
  refine g_u (s_load_imm rfl rfl rfl tA9 tS9 rfl rfl) ?_
  refine g_u (s_fieldAddr rfl rfl fa86_2 rfl) ?_
  refine g_u (s_load_imm rfl rfl rfl tA30 tS30 rfl rfl) ?_
  refine g_u (s_buildSlice (X0 := z9) rfl Tryd.underlying78 tS9 tZ9 rfl rfl rfl rfl rfl rfl rfl rfl) ?_
  refine g_u (s_call1 (kept_c e.attrs [k_event] ho.2.2 (by omega) (by decide)) rfl rfl) ?_
  refine g_u (s_build rfl tU86 us86 pl86 rfl rfl rfl rfl) ?_
  refine g_u (s_store_imm rfl rfl rfl tS86 rfl rfl) ?_
  refine g_nil ⟨by kernel_rfl, ?_⟩
  refine normal_thn ?_
  refine aw_ret ?_
  exact ⟨⟨_, _, _, _, _, _, _, rfl, rfl, tA86, tS86, rfl, rfl, (rfl : toAV _ = some _).trans (congrArg some (by rfl))⟩, trivial⟩

set_option maxHeartbeats 8000000 in
theorem njS_c (s : GSpan) (ho : s.ok) (hw : s.wt ≤ 9000000) : PCall Tryd.prog Γ0 32 [s.av] [(njS s).av] := by
  have qw : s.wt = 1 + s.state.size + s.name.size + s.note.size + wtAs s.attrs + sumBy GE.wt s.events + sumBy GL.wt s.links := rfl
  have ql := sumBy_len GE.wt (fun e => by unfold GE.wt; omega) s.events
  have qm := sumBy_len GL.wt (fun e => by unfold GL.wt; omega) s.links
  refine pcall_of Tryd.func32 rfl Tryd.ntmps32 (by kernel_rfl) rfl fun w0 I0 G0 => ?_
  refine aw_seq ?_
  refine aw_region ?_
  refine g_uG (s_box_imm 1001 rfl rfl rfl rfl) rfl ?_
  refine g_uG (s_alloc' 1002 rfl rfl rfl tZ36) rfl ?_
  refine g_nil ?_
  refine normal_thn ?_
  refine aw_seq ?_
  refine aw_region ?_
  refine g_u (s_fieldAddr rfl rfl fa36_6 rfl) ?_
  refine g_u (s_load_imm rfl rfl rfl tA29 tS29 rfl rfl) ?_
  refine g_u (s_fieldAddr rfl rfl fa36_7 rfl) ?_
  refine g_u (s_load_imm rfl rfl rfl tA29 tS29 rfl rfl) ?_
  refine g_u (s_build rfl tU110 us110 pl110 rfl rfl rfl rfl) ?_
  refine g_u (s_call1 (whole_c ⟨_, _⟩) rfl rfl) ?_
  refine g_uG (s_alloc' 1003 rfl rfl rfl tZ110) rfl ?_
  refine g_u (s_store_imm rfl rfl rfl tS110 rfl rfl) ?_
  refine g_nil ?_
  refine normal_thn ?_
  refine aw_seq ?_
  refine aw_region ?_
  refine g_u (s_load_imm rfl rfl rfl tA36 tS36 rfl (by first | exact getS_w (GSpan.width _) rfl | rfl)) ?_
  refine g_uG (s_alloc' 1004 rfl rfl rfl tZ36) rfl ?_
  refine g_u (s_store_imm rfl rfl rfl tS36 (by first | exact beqW (GSpan.width _) | rfl) (by first | exact setS_w (z36_w.trans (GSpan.width _).symm) rfl | rfl)) ?_
  refine g_nil ?_
  refine normal_thn ?_
  refine aw_seq ?_
  refine aw_draw mixed ?_
  refine g_u (s_fieldAddr rfl rfl fa110_0 rfl) ?_
  refine g_u (s_load_imm rfl rfl rfl tA29 tS29 rfl rfl) ?_
  refine g_u (s_fieldAddr rfl rfl fa110_1 rfl) ?_
  refine g_u (s_load_imm rfl rfl rfl tA29 tS29 rfl rfl) ?_
  refine g_u (s_fieldAddr rfl rfl fa36_3 rfl) ?_
  refine g_u (s_store_imm rfl rfl rfl tS9 rfl rfl) ?_
  refine g_u (s_fieldAddr rfl rfl fa36_6 rfl) ?_
  refine g_u (s_store_imm rfl rfl rfl tS29 rfl rfl) ?_
  refine g_u (s_fieldAddr rfl rfl fa36_7 rfl) ?_
  refine g_u (s_store_imm rfl rfl rfl tS29 rfl rfl) ?_
  refine g_nil ⟨by kernel_rfl, ?_⟩
  refine normal_thn ?_
  refine aw_seq ?_
  refine aw_region ?_
  refine g_u (s_fieldAddr rfl rfl fa36_8 rfl) ?_
  refine g_u (s_load_imm rfl rfl rfl tA30 tS30 rfl rfl) ?_
  refine g_u (s_buildSlice (X0 := z9) rfl Tryd.underlying78 tS9 tZ9 rfl rfl rfl rfl rfl rfl rfl rfl) ?_
  refine g_u (s_call1 (kept_c s.attrs k4 ho.2.2.2.1 (by omega) (by decide)) rfl rfl) ?_
  refine g_u (s_fieldAddr rfl rfl fa36_8 rfl) ?_
  refine g_u (s_store_imm rfl rfl rfl tS30 rfl rfl) ?_
  refine g_nil ?_
  refine normal_thn ?_
  refine aw_seq ?_
  refine aw_region ?_
  refine g_u (s_fieldAddr rfl rfl fa36_9 rfl) ?_
  refine g_u (s_store_imm rfl rfl rfl tS31 rfl rfl) ?_
  refine g_u (s_fieldAddr rfl rfl fa36_10 rfl) ?_
  refine g_u (s_store_imm rfl rfl rfl tS32 rfl rfl) ?_
  refine g_nil ?_
  refine normal_thn ?_
  refine aw_seq ?_
  refine aw_seq ?_
  refine aw_newtokB 3009 1004 3 38 rfl rfl rfl rfl rfl rfl rfl ?_
  refine aw_region ?_
  refine g_u (s_fieldAddr rfl rfl fa36_9 rfl) ?_
  refine g_u (s_load_imm rfl rfl rfl tA31 tS31 rfl rfl) ?_
  refine g_u (s_lenL rfl rfl Tryd.underlying31) ?_
  refine g_u (s_mv_imm rfl rfl) ?_
  refine g_nil ?_
  refine normal_thn ?_
  refine aw_block ?_
  refine aw_loop' (fun i : Nat => [(1, .ptr 1001 0), (1001, .box 36 (.imm s.av)), (2, .ptr 1002 0), (1002, .box 36 (.imm z36)), (4, .ptr 1004 0), (1004, .box 36 (.agg [.imm (.arr 16 s.trace), .imm (.arr 8 s.id), .imm (.arr 8 s.parent), .imm (sv ⟨#[]⟩), .imm (sv s.name), .imm (iv s.kind), .imm (uv (wholeM ⟨s.start, s.fin⟩).lo), .imm (uv (wholeM ⟨s.start, s.fin⟩).hi), .imm (.sl 7 ((keptA k4 s.attrs).map avA)), .slg 3009 3 ((s.events.take i).map fun e => (njE e).av), .imm (.v (.slice none 0 0)), .imm (.agg [iv s.code, sv s.note])])), (3009, .tok 3 ((s.events.take i).map fun e => (njE e).av)), (31, .imm (.sl 3 (s.events.map GE.av))), (32, .imm (iv (s.events.length : Int))), (33, .imm (iv (i : Int)))]) (fun i => i ≤ s.events.length) (fun i => s.events.length - i) (0) ?_ ⟨rfl, rfl, rfl, rfl, rfl, rfl, rfl, rfl, look_int rfl (by rw [List.length_map]), rfl, trivial⟩ ?_
  · exact Nat.zero_le _
  · rintro i h1; have h1 : i ≤ s.events.length := h1
    refine aw_seq ?_
    refine aw_region ?_
    refine g_u (s_ltI rfl rfl rfl) ?_
    refine g_nil ?_
    refine normal_thn ?_
    refine aw_seq ?_
    refine aw_cond rfl (fun hb1 => ?_) (fun hb1 => ?_)
    · skip
      have hi : i < s.events.length := by have := of_decide_eq_true hb1; (try simp only [List.length_map] at this); omega
      have hex := sumBy_mem GE.wt (nthE_mem hi)
      have heq : (nthE s.events i).wt = 1 + (nthE s.events i).name.size + wtAs (nthE s.events i).attrs := rfl
      have heo := ho.2.2.2.2.1 _ (nthE_mem hi)
      refine aw_skip ?_
      refine normal_thn ?_
      refine aw_seq ?_
      refine aw_block ?_
      refine aw_seq ?_
      refine aw_region ?_
      refine g_u (s_indexAddr rfl rfl rfl Tryd.underlying31 tS86 (by omega) (ixE hi)) ?_
      refine g_u (s_load_cp rfl rfl tA86 tS86 rfl rfl) ?_
      refine g_uG (s_alloc' 1006 rfl rfl rfl tZ86) rfl ?_
      refine g_u (s_store_imm rfl rfl rfl tS86 rfl rfl) ?_
      refine g_nil ?_
      refine normal_thn ?_
      refine aw_draw mixed ?_
      refine g_u (s_fieldAddr rfl rfl fa36_9 rfl) ?_
      refine g_u (s_load_slg rfl rfl rfl tA31 tS31 rfl rfl) ?_
      refine g_u (s_load_agg rfl rfl rfl tA86 tS86 rfl rfl) ?_
      refine g_u (s_call1 (njE_c (nthE s.events i) heo (by omega)) rfl rfl) ?_
      refine g_u (s_buildSlice (X0 := z86) rfl Tryd.underlying31 tS86 tZ86 rfl rfl rfl rfl rfl rfl rfl rfl) ?_
      refine g_u (s_append rfl rfl rfl rfl rfl Tryd.underlying31 Tryd.underlying31 tS86 zv86 rfl (by decide) by86 (by (try dsimp only); simp only [List.length_append, List.length_cons, List.length_nil, List.length_map, List.length_take, List.length_drop]; omega) (by (try dsimp only); simp only [List.length_append, List.length_cons, List.length_nil, List.length_map, List.length_take, List.length_drop]; omega)) ?_
      refine g_u (s_fieldAddr rfl rfl fa36_9 rfl) ?_
      refine g_u (s_store rfl rfl rfl rfl tS31 rfl rfl) ?_
      refine g_nil ⟨by kernel_rfl, ?_⟩
      refine normal_blk ?_
      refine normal_thn ?_
      refine aw_region ?_
      refine g_u (s_add rfl rfl rfl) ?_
      refine g_u (s_mv_imm rfl rfl) ?_
      refine g_nil ?_
      refine normal_thn ?_
      have et : ((s.events.take (i + 1)).map fun e => (njE e).av) = ((s.events.take i).map fun e => (njE e).av) ++ [(njE (nthE s.events i)).av] := by rw [take_snoc (nth_get (d := ge0) hi), List.map_append]; rfl
      refine ⟨i + 1, hi, ⟨rfl, rfl, rfl, rfl, rfl, (by rw [et]; rfl), look_tok rfl et.symm, rfl, rfl, look_int rfl (by rw [wrap64 (by omega) (by omega)]; rfl), trivial⟩, by (try dsimp only); omega⟩
    · skip
      have hin : i = s.events.length := by have := of_decide_eq_false hb1; (try simp only [List.length_map] at this); omega
      refine aw_exit ?_
      refine exit_thn ?_
      refine exit_thn ?_
      refine exit_blk ?_
      refine normal_thn ?_
      refine aw_seq ?_
      refine aw_seq ?_
      refine aw_newtokB 3010 1004 26 39 rfl rfl rfl rfl rfl rfl rfl ?_
      refine aw_region ?_
      refine g_u (s_fieldAddr rfl rfl fa36_10 rfl) ?_
      refine g_u (s_load_imm rfl rfl rfl tA32 tS32 rfl rfl) ?_
      refine g_u (s_lenL rfl rfl Tryd.underlying32) ?_
      refine g_u (s_mv_imm rfl rfl) ?_
      refine g_nil ?_
      refine normal_thn ?_
      refine aw_block ?_
      refine aw_loop' (fun j : Nat => [(1, .ptr 1001 0), (1001, .box 36 (.imm s.av)), (2, .ptr 1002 0), (1002, .box 36 (.imm z36)), (4, .ptr 1004 0), (1004, .box 36 (.agg [.imm (.arr 16 s.trace), .imm (.arr 8 s.id), .imm (.arr 8 s.parent), .imm (sv ⟨#[]⟩), .imm (sv s.name), .imm (iv s.kind), .imm (uv (wholeM ⟨s.start, s.fin⟩).lo), .imm (uv (wholeM ⟨s.start, s.fin⟩).hi), .imm (.sl 7 ((keptA k4 s.attrs).map avA)), .slg 3009 3 (s.events.map fun e => (njE e).av), .slg 3010 26 ((s.links.take j).map fun e => (njL e).av), .imm (.agg [iv s.code, sv s.note])])), (3010, .tok 26 ((s.links.take j).map fun e => (njL e).av)), (46, .imm (.sl 26 (s.links.map GL.av))), (47, .imm (iv (s.links.length : Int))), (48, .imm (iv (j : Int)))]) (fun j => j ≤ s.links.length) (fun j => s.links.length - j) (0) ?_ ⟨rfl, rfl, rfl, rfl, rfl, (by rw [hin, List.take_length]; rfl), rfl, rfl, look_int rfl (by rw [List.length_map]), rfl, trivial⟩ ?_
      · exact Nat.zero_le _
      · rintro j h1; have h1 : j ≤ s.links.length := h1
        refine aw_seq ?_
        refine aw_region ?_
        refine g_u (s_ltI rfl rfl rfl) ?_
        refine g_nil ?_
        refine normal_thn ?_
        refine aw_seq ?_
        refine aw_cond rfl (fun hb2 => ?_) (fun hb2 => ?_)
        · skip
          have hj : j < s.links.length := by have := of_decide_eq_true hb2; (try simp only [List.length_map] at this); omega
          refine aw_skip ?_
          refine normal_thn ?_
          refine aw_seq ?_
          refine aw_block ?_
          refine aw_seq ?_
          refine aw_region ?_
          refine g_u (s_indexAddr rfl rfl rfl Tryd.underlying32 tS88 (by omega) (ixL hj)) ?_
          refine g_u (s_load_cp rfl rfl tA88 tS88 rfl (by first | exact getS_w (GL.width _) rfl | rfl)) ?_
          refine g_uG (s_alloc' 1008 rfl rfl rfl tZ88) rfl ?_
          refine g_u (s_store_imm rfl rfl rfl tS88 (by first | exact beqW (GL.width _) | rfl) (by first | exact setS_w (z88_w.trans (GL.width _).symm) rfl | rfl)) ?_
          refine g_nil ?_
          refine normal_thn ?_
          refine aw_region ?_
          refine g_u (s_fieldAddr rfl rfl fa36_10 rfl) ?_
          refine g_u (s_load_slg rfl rfl rfl tA32 tS32 rfl rfl) ?_
          refine g_u (s_fieldAddr rfl rfl fa88_0 rfl) ?_
          refine g_u (s_load_agg rfl rfl rfl tA26 tS26 rfl rfl) ?_
          refine g_u (s_fieldAddr rfl rfl fa88_1 rfl) ?_
          refine g_u (s_load_imm rfl rfl rfl tA28 tS28 rfl rfl) ?_
          refine g_u (s_build rfl tU88 us88 pl88 rfl rfl rfl rfl) ?_
          refine g_u (s_buildSlice (X0 := z88) rfl Tryd.underlying32 tS88 tZ88 rfl rfl rfl rfl rfl rfl rfl rfl) ?_
          refine g_u (s_append rfl rfl rfl rfl rfl Tryd.underlying32 Tryd.underlying32 tS88 zv88 rfl (by decide) by88 (by (try dsimp only); simp only [List.length_append, List.length_cons, List.length_nil, List.length_map, List.length_take, List.length_drop]; omega) (by (try dsimp only); simp only [List.length_append, List.length_cons, List.length_nil, List.length_map, List.length_take, List.length_drop]; omega)) ?_
          refine g_u (s_fieldAddr rfl rfl fa36_10 rfl) ?_
          refine g_u (s_store rfl rfl rfl rfl tS32 rfl rfl) ?_
          refine g_nil ?_
          refine normal_blk ?_
          refine normal_thn ?_
          refine aw_region ?_
          refine g_u (s_add rfl rfl rfl) ?_
          refine g_u (s_mv_imm rfl rfl) ?_
          refine g_nil ?_
          refine normal_thn ?_
          have et : ((s.links.take (j + 1)).map fun e => (njL e).av) = ((s.links.take j).map fun e => (njL e).av) ++ [(njL (nthL s.links j)).av] := by rw [take_snoc (nth_get (d := gl0) hj), List.map_append]; rfl
          refine ⟨j + 1, hj, ⟨rfl, rfl, rfl, rfl, rfl, (by rw [et]; rfl), look_tok rfl et.symm, rfl, rfl, look_int rfl (by rw [wrap64 (by omega) (by omega)]; rfl), trivial⟩, by (try dsimp only); omega⟩
        · skip
          have hjn : j = s.links.length := by have := of_decide_eq_false hb2; (try simp only [List.length_map] at this); omega
          refine aw_exit ?_
          refine exit_thn ?_
          refine exit_thn ?_
          refine exit_blk ?_
          refine normal_thn ?_
          refine aw_seq ?_
          refine aw_region ?_
          refine g_u (s_load_agg rfl rfl rfl tA36 tS36 rfl rfl) ?_
          refine g_u (s_store_imm rfl rfl rfl tS36 (by first | exact beqW (GSpan.width _) | rfl) (by first | exact setS_w (z36_w.trans (GSpan.width _).symm) rfl | rfl)) ?_
          refine g_nil ?_
          refine normal_thn ?_
          refine aw_ret ?_
          exact ⟨⟨_, _, _, _, _, _, _, rfl, rfl, tA36, tS36, rfl, rfl, (rfl : toAV _ = some _).trans (congrArg some (by (rw [hjn, List.take_length]; show _ = GSpan.av (njS s); simp only [GSpan.av, njS, List.map_map]; rfl)))⟩, trivial⟩

set_option maxHeartbeats 400000 in
theorem named_c (l : List GA) (t : ByteArray) (hr : risA none l) (hl : l.length ≤ 10000000) : PCall Tryd.prog Γ0 35 [(.sl 7 (l.map avA)), sv t] [.sl 7 ((namedM l t).map avA)] := by
  refine pcall_of Tryd.func35 rfl Tryd.ntmps35 (by kernel_rfl) rfl fun w0 I0 G0 => ?_
  refine aw_seq ?_
  refine aw_region ?_
  refine g_u (s_as_imm rfl rfl) ?_
  refine g_nil ?_
  refine normal_thn ?_
  refine aw_seq ?_
  refine aw_seq ?_
  refine aw_region ?_
  refine g_u (s_mv_imm rfl rfl) ?_
  refine g_u (s_eqS rfl rfl rfl) ?_
  refine g_nil ?_
  refine normal_thn ?_
  refine aw_cond rfl (fun hb1 => ?_) (fun hb1 => ?_)
  · skip
    have q : t = ⟨#[]⟩ := by have e := hb1; rw [str_beq] at e; exact of_decide_eq_true e
    refine aw_seq ?_
    refine aw_region ?_
    refine g_u (s_mv_imm rfl rfl) ?_
    refine g_u (s_buildSlice (X0 := z9) rfl Tryd.underlying78 tS9 tZ9 rfl rfl rfl rfl rfl rfl rfl rfl) ?_
    refine g_u (s_call1 (drop_c l [skey] hl (by decide)) rfl rfl) ?_
    refine g_u (s_as_imm rfl rfl) ?_
    refine g_nil ?_
    refine normal_thn ?_
    refine aw_ret ?_
    refine ret_thn ?_
    exact ⟨⟨(rfl : toAV (Al.look _ _) = some _).trans (congrArg some (by (exact congrArg (fun x : List GA => AV.sl 7 (x.map avA)) (by unfold namedM; first | rw [if_pos q] | (rw [if_neg q]; done) | rw [if_neg q, into_drop hr])))), rfl⟩, trivial⟩
  · skip
    have q : ¬ t = ⟨#[]⟩ := by have e := hb1; rw [str_beq] at e; exact of_decide_eq_false e
    refine aw_skip ?_
    refine normal_thn ?_
    refine aw_seq ?_
    refine aw_region ?_
    refine g_u (s_mv_imm rfl rfl) ?_
    refine g_u (s_mv_imm rfl rfl) ?_
    refine g_u (s_build rfl tU67 us67 pl67 rfl rfl rfl rfl) ?_
    refine g_u (s_call1 (putA_c l skey (tv t) hr hl) rfl rfl) ?_
    refine g_u (s_as_imm rfl rfl) ?_
    refine g_nil ?_
    refine normal_thn ?_
    refine aw_ret ?_
    exact ⟨⟨(rfl : toAV (Al.look _ _) = some _).trans (congrArg some (by (exact congrArg (fun x : List GA => AV.sl 7 (x.map avA)) (by unfold namedM; first | rw [if_pos q] | (rw [if_neg q]; done) | rw [if_neg q, into_drop hr])))), rfl⟩, trivial⟩

set_option maxHeartbeats 400000 in
theorem rnamed_c (l : List GA) (t : ByteArray) (hr : risA none l) (hl : l.length ≤ 10000000) : PCall Tryd.prog Γ0 36 [(.sl 7 (l.map avA)), sv t] [.sl 7 ((namedM l t).map avA)] := by
  have hdl := dropA_len [skey] l
  refine pcall_of Tryd.func36 rfl Tryd.ntmps36 (by kernel_rfl) rfl fun w0 I0 G0 => ?_
  refine aw_seq ?_
  refine aw_region ?_
  refine g_u (s_as_imm rfl rfl) ?_
  refine g_nil ?_
  refine normal_thn ?_
  refine aw_seq ?_
  refine aw_region ?_
  refine g_u (s_mv_imm rfl rfl) ?_
  refine g_u (s_buildSlice (X0 := z9) rfl Tryd.underlying78 tS9 tZ9 rfl rfl rfl rfl rfl rfl rfl rfl) ?_
  refine g_u (s_call1 (rdrop_c l [skey] hl (by decide)) rfl rfl) ?_
  refine g_u (s_as_imm rfl rfl) ?_
  refine g_nil ?_
  refine normal_thn ?_
  refine aw_seq ?_
  refine aw_seq ?_
  refine aw_region ?_
  refine g_u (s_mv_imm rfl rfl) ?_
  refine g_u (s_eqS rfl rfl rfl) ?_
  refine g_nil ?_
  refine normal_thn ?_
  refine aw_cond rfl (fun hb1 => ?_) (fun hb1 => ?_)
  · skip
    have q : t = ⟨#[]⟩ := by have e := hb1; rw [str_beq] at e; exact of_decide_eq_true e
    refine aw_seq ?_
    refine aw_region ?_
    refine g_u (s_mv_imm rfl rfl) ?_
    refine g_u (s_as_imm rfl rfl) ?_
    refine g_nil ?_
    refine normal_thn ?_
    refine aw_ret ?_
    refine ret_thn ?_
    exact ⟨⟨(rfl : toAV (Al.look _ _) = some _).trans (congrArg some (by (exact congrArg (fun x : List GA => AV.sl 7 (x.map avA)) (by unfold namedM; first | rw [if_pos q] | (rw [if_neg q]; done) | rw [if_neg q, into_drop hr])))), rfl⟩, trivial⟩
  · skip
    have q : ¬ t = ⟨#[]⟩ := by have e := hb1; rw [str_beq] at e; exact of_decide_eq_false e
    refine aw_skip ?_
    refine normal_thn ?_
    refine aw_seq ?_
    refine aw_region ?_
    refine g_u (s_mv_imm rfl rfl) ?_
    refine g_u (s_mv_imm rfl rfl) ?_
    refine g_u (s_build rfl tU67 us67 pl67 rfl rfl rfl rfl) ?_
    refine g_u (s_build rfl tU76 us76 pl76 rfl rfl rfl rfl) ?_
    refine g_u (s_call1 (into_c (dropA [skey] l) (.mk skey (tv t)) (by omega)) rfl rfl) ?_
    refine g_u (s_as_imm rfl rfl) ?_
    refine g_nil ?_
    refine normal_thn ?_
    refine aw_ret ?_
    exact ⟨⟨(rfl : toAV (Al.look _ _) = some _).trans (congrArg some (by (exact congrArg (fun x : List GA => AV.sl 7 (x.map avA)) (by unfold namedM; first | rw [if_pos q] | (rw [if_neg q]; done) | rw [if_neg q, into_drop hr])))), rfl⟩, trivial⟩

set_option maxHeartbeats 4000000 in
theorem njR_c (r : GRes) (ho : r.ok) (hw : r.wt ≤ 9000000) (hr : risA none r.attrs) : PCall Tryd.prog Γ0 74 [r.av] [(njR r).av] := by
  have qw : r.wt = 1 + wtAs r.attrs + sumBy GScope.wt r.scopes := rfl
  have qc := sumBy_len GScope.wt (fun e => by unfold GScope.wt; omega) r.scopes
  have qa := len_wtAs r.attrs
  have hkr := ris_kept [] hr
  have hkl : (keptA [] r.attrs).length ≤ r.attrs.length := by unfold keptA; have := dropA_len [] (r.attrs.map (plainA nJ)); rw [List.length_map] at this; exact this
  have qsp := spansOf_len r.scopes
  refine pcall_of Tryd.func74 rfl Tryd.ntmps74 (by kernel_rfl) rfl fun w0 I0 G0 => ?_
  refine aw_seq ?_
  refine aw_region ?_
  refine g_uG (s_box_imm 1001 rfl rfl rfl rfl) rfl ?_
  refine g_uG (s_alloc' 1002 rfl rfl rfl tZ47) rfl ?_
  refine g_nil ?_
  refine normal_thn ?_
  refine aw_seq ?_
  refine aw_draw mixed ?_
  refine g_u (s_fieldAddr rfl rfl fa47_0 rfl) ?_
  refine g_u (s_load_imm rfl rfl rfl tA30 tS30 rfl rfl) ?_
  refine g_u (s_call1 (nil2nd (n := 1) (kept_c r.attrs [] ho.1 (by omega) (by decide))) rfl rfl) ?_
  refine g_u (s_load_imm rfl rfl rfl tA47 tS47 rfl rfl) ?_
  refine g_u (s_call1 (service_c r ho.1 (by omega) hr) rfl rfl) ?_
  refine g_u (s_call1 (named_c (keptA [] r.attrs) (serviceM r) hkr (by omega)) rfl rfl) ?_
  refine g_u (s_build rfl tU47 us47 pl47 rfl rfl rfl rfl) ?_
  refine g_uG (s_alloc' 1003 rfl rfl rfl tZ47) rfl ?_
  refine g_u (s_store_imm rfl rfl rfl tS47 rfl rfl) ?_
  refine g_nil ⟨by kernel_rfl, ?_⟩
  refine normal_thn ?_
  refine aw_seq ?_
  refine aw_region ?_
  refine g_u (s_as_imm rfl rfl) ?_
  refine g_nil ?_
  refine normal_thn ?_
  refine aw_seq ?_
  refine aw_seq ?_
  refine aw_newtok 3004 4 42 rfl rfl rfl rfl ?_
  refine aw_region ?_
  refine g_u (s_fieldAddr rfl rfl fa47_1 rfl) ?_
  refine g_u (s_load_imm rfl rfl rfl tA45 tS45 rfl rfl) ?_
  refine g_u (s_lenL rfl rfl Tryd.underlying45) ?_
  refine g_u (s_mv_imm rfl rfl) ?_
  refine g_nil ?_
  refine normal_thn ?_
  refine aw_block ?_
  refine aw_loop' (fun i : Nat => [(2, .ptr 1002 0), (1002, .box 47 (.imm z47)), (3, .ptr 1003 0), (1003, .box 47 (.imm (.agg [.sl 7 ((namedM (keptA [] r.attrs) (serviceM r)).map avA), .sl 3 []]))), (17, .imm (.sl 3 (r.scopes.map GScope.av))), (18, .imm (iv (r.scopes.length : Int))), (4, .slg 3004 42 ((spansOf (r.scopes.take i)).map fun x => (njS x).av)), (3004, .tok 42 ((spansOf (r.scopes.take i)).map fun x => (njS x).av)), (19, .imm (iv (i : Int)))]) (fun i => i ≤ r.scopes.length) (fun i => r.scopes.length - i) (0) ?_ ⟨rfl, rfl, rfl, rfl, rfl, look_int rfl (by rw [List.length_map]), rfl, rfl, rfl, trivial⟩ ?_
  · exact Nat.zero_le _
  · rintro i h1; have h1 : i ≤ r.scopes.length := h1
    refine aw_seq ?_
    refine aw_region ?_
    refine g_u (s_ltI rfl rfl rfl) ?_
    refine g_nil ?_
    refine normal_thn ?_
    refine aw_seq ?_
    refine aw_cond rfl (fun hb1 => ?_) (fun hb1 => ?_)
    · skip
      have hi : i < r.scopes.length := by have := of_decide_eq_true hb1; (try simp only [List.length_map] at this); omega
      have hcx := sumBy_mem GScope.wt (nthC_mem hi)
      have hcq : (nthC r.scopes i).wt = 1 + (nthC r.scopes i).name.size + (nthC r.scopes i).version.size + sumBy GSpan.wt (nthC r.scopes i).spans := rfl
      have hco := ho.2 _ (nthC_mem hi)
      have hcl := sumBy_len GSpan.wt (fun e => by unfold GSpan.wt; omega) (nthC r.scopes i).spans
      have hst : (spansOf (r.scopes.take i)).length + (nthC r.scopes i).spans.length ≤ (spansOf r.scopes).length := by have := congrArg List.length (spansOf_take hi); rw [List.length_append] at this; have h3 := spansOf_append (r.scopes.take (i + 1)) (r.scopes.drop (i + 1)); rw [List.take_append_drop] at h3; have h4 := congrArg List.length h3; rw [List.length_append] at h4; omega
      refine aw_skip ?_
      refine normal_thn ?_
      refine aw_seq ?_
      refine aw_block ?_
      refine aw_seq ?_
      refine aw_region ?_
      refine g_u (s_indexAddr rfl rfl rfl Tryd.underlying45 tS52 (by omega) (ixC hi)) ?_
      refine g_u (s_load_cp rfl rfl tA52 tS52 rfl rfl) ?_
      refine g_uG (s_alloc' 1006 rfl rfl rfl tZ52) rfl ?_
      refine g_u (s_store_imm rfl rfl rfl tS52 rfl rfl) ?_
      refine g_nil ?_
      refine normal_thn ?_
      refine aw_seq ?_
      refine aw_region ?_
      refine g_u (s_fieldAddr rfl rfl fa52_2 rfl) ?_
      refine g_u (s_load_imm rfl rfl rfl tA50 tS50 rfl rfl) ?_
      refine g_u (s_lenL rfl rfl Tryd.underlying50) ?_
      refine g_u (s_mv_imm rfl rfl) ?_
      refine g_nil ?_
      refine normal_thn ?_
      refine aw_block ?_
      refine aw_loop' (fun j : Nat => [(2, .ptr 1002 0), (1002, .box 47 (.imm z47)), (3, .ptr 1003 0), (1003, .box 47 (.imm (.agg [.sl 7 ((namedM (keptA [] r.attrs) (serviceM r)).map avA), .sl 3 []]))), (17, .imm (.sl 3 (r.scopes.map GScope.av))), (18, .imm (iv (r.scopes.length : Int))), (4, .slg 3004 42 (((spansOf (r.scopes.take i)).map fun x => (njS x).av) ++ (((nthC r.scopes i).spans.take j).map fun x => (njS x).av))), (3004, .tok 42 (((spansOf (r.scopes.take i)).map fun x => (njS x).av) ++ (((nthC r.scopes i).spans.take j).map fun x => (njS x).av))), (19, .imm (iv (i : Int))), (24, .imm (.sl 42 ((nthC r.scopes i).spans.map GSpan.av))), (25, .imm (iv ((nthC r.scopes i).spans.length : Int))), (26, .imm (iv (j : Int)))]) (fun j => j ≤ (nthC r.scopes i).spans.length) (fun j => (nthC r.scopes i).spans.length - j) (0) ?_ ⟨rfl, rfl, rfl, rfl, rfl, rfl, look_slg rfl (by simp), look_tok rfl (by simp), rfl, rfl, look_int rfl (by rw [List.length_map]), rfl, trivial⟩ ?_
      · exact Nat.zero_le _
      · rintro j g1; have g1 : j ≤ (nthC r.scopes i).spans.length := g1
        refine aw_seq ?_
        refine aw_region ?_
        refine g_u (s_ltI rfl rfl rfl) ?_
        refine g_nil ?_
        refine normal_thn ?_
        refine aw_seq ?_
        refine aw_cond rfl (fun hb2 => ?_) (fun hb2 => ?_)
        · skip
          have hj : j < (nthC r.scopes i).spans.length := by have := of_decide_eq_true hb2; (try simp only [List.length_map] at this); omega
          have hsx := sumBy_mem GSpan.wt (nthS_mem hj)
          have hso := hco.2.2 _ (nthS_mem hj)
          refine aw_skip ?_
          refine normal_thn ?_
          refine aw_seq ?_
          refine aw_block ?_
          refine aw_seq ?_
          refine aw_region ?_
          refine g_u (s_indexAddr rfl rfl rfl Tryd.underlying50 tS36 (by omega) (ixS hj)) ?_
          refine g_u (s_load_cp rfl rfl tA36 tS36 rfl (by first | exact getS_w (GSpan.width _) rfl | rfl)) ?_
          refine g_uG (s_alloc' 1008 rfl rfl rfl tZ36) rfl ?_
          refine g_u (s_store_imm rfl rfl rfl tS36 (by first | exact beqW (GSpan.width _) | rfl) (by first | exact setS_w (z36_w.trans (GSpan.width _).symm) rfl | rfl)) ?_
          refine g_nil ?_
          refine normal_thn ?_
          refine aw_region ?_
          refine g_u (s_mv_slg rfl rfl) ?_
          refine g_u (s_load_imm rfl rfl rfl tA36 tS36 rfl (by first | exact getS_w (GSpan.width _) rfl | rfl)) ?_
          refine g_u (s_call1 (njS_c _ hso (by omega)) rfl rfl) ?_
          refine g_u (s_buildSlice (X0 := z36) rfl Tryd.underlying50 tS36 tZ36 rfl rfl rfl rfl rfl rfl rfl rfl) ?_
          refine g_u (s_append rfl rfl rfl rfl rfl Tryd.underlying50 Tryd.underlying50 tS36 zv36 rfl (by decide) by36 (by (try dsimp only); simp only [List.length_append, List.length_cons, List.length_nil, List.length_map, List.length_take, List.length_drop]; omega) (by (try dsimp only); simp only [List.length_append, List.length_cons, List.length_nil, List.length_map, List.length_take, List.length_drop]; omega)) ?_
          refine g_u (s_as_slg rfl rfl) ?_
          refine g_nil ?_
          refine normal_blk ?_
          refine normal_thn ?_
          refine aw_region ?_
          refine g_u (s_add rfl rfl rfl) ?_
          refine g_u (s_mv_imm rfl rfl) ?_
          refine g_nil ?_
          refine normal_thn ?_
          have et : (((spansOf (r.scopes.take i)).map fun x => (njS x).av) ++ (((nthC r.scopes i).spans.take (j + 1)).map fun x => (njS x).av)) = (((spansOf (r.scopes.take i)).map fun x => (njS x).av) ++ (((nthC r.scopes i).spans.take j).map fun x => (njS x).av)) ++ [(njS (nthS (nthC r.scopes i).spans j)).av] := by rw [take_snoc (nth_get (d := gs0) hj), List.map_append, List.append_assoc]; rfl
          refine ⟨j + 1, hj, ⟨rfl, rfl, rfl, rfl, rfl, rfl, look_slg rfl et.symm, look_tok rfl et.symm, rfl, rfl, rfl, look_int rfl (by rw [wrap64 (by omega) (by omega)]; rfl), trivial⟩, by (try dsimp only); omega⟩
        · skip
          have hjn : j = (nthC r.scopes i).spans.length := by have := of_decide_eq_false hb2; (try simp only [List.length_map] at this); omega
          refine aw_exit ?_
          refine exit_thn ?_
          refine exit_thn ?_
          refine exit_blk ?_
          refine normal_blk ?_
          refine normal_thn ?_
          refine aw_region ?_
          refine g_u (s_add rfl rfl rfl) ?_
          refine g_u (s_mv_imm rfl rfl) ?_
          refine g_nil ?_
          refine normal_thn ?_
          have et : ((spansOf (r.scopes.take (i + 1))).map fun x => (njS x).av) = (((spansOf (r.scopes.take i)).map fun x => (njS x).av) ++ (((nthC r.scopes i).spans.take j).map fun x => (njS x).av)) := by rw [spansOf_take hi, List.map_append, hjn, List.take_length]
          refine ⟨i + 1, hi, ⟨rfl, rfl, rfl, rfl, rfl, rfl, look_slg rfl et.symm, look_tok rfl et.symm, look_int rfl (by rw [wrap64 (by omega) (by omega)]; rfl), trivial⟩, by (try dsimp only); omega⟩
    · skip
      have hin : i = r.scopes.length := by have := of_decide_eq_false hb1; (try simp only [List.length_map] at this); omega
      refine aw_exit ?_
      refine exit_thn ?_
      refine exit_thn ?_
      refine exit_blk ?_
      refine normal_thn ?_
      refine aw_seq ?_
      refine aw_seq ?_
      refine aw_region ?_
      refine g_u (s_mv_slg rfl rfl) ?_
      refine g_u (s_lenL rfl rfl Tryd.underlying50) ?_
      refine g_u (s_gtI rfl rfl rfl) ?_
      refine g_nil ?_
      refine normal_thn ?_
      refine aw_cond rfl (fun hb3 => ?_) (fun hb3 => ?_)
      · skip
        have q : ((spansOf (r.scopes.take i)).length : Int) > 0 := by have e := of_decide_eq_true hb3; simp only [List.length_map] at e; omega
        refine aw_region ?_
        refine g_u (s_mv_slg rfl rfl) ?_
        refine g_u (s_build rfl tU52 us52 pl52 rfl rfl rfl rfl) ?_
        refine g_u (s_buildSlice (X0 := z52) rfl Tryd.underlying45 tS52 tZ52 rfl rfl rfl rfl rfl rfl rfl rfl) ?_
        refine g_u (s_fieldAddr rfl rfl fa47_1 rfl) ?_
        refine g_u (s_store rfl rfl rfl rfl tS45 rfl rfl) ?_
        refine g_nil ?_
        refine normal_thn ?_
        refine aw_seq ?_
        refine aw_region ?_
        refine g_u (s_load_agg rfl rfl rfl tA47 tS47 rfl rfl) ?_
        refine g_u (s_store_imm rfl rfl rfl tS47 rfl rfl) ?_
        refine g_nil ?_
        refine normal_thn ?_
        refine aw_ret ?_
        exact ⟨⟨_, _, _, _, _, _, _, rfl, rfl, tA47, tS47, rfl, rfl, (rfl : toAV _ = some _).trans (congrArg some (by (rw [hin, List.take_length] at *; show _ = GRes.av (njR r); unfold njR scopeJ; first | (rw [if_pos (by rw [List.length_map]; omega)]; simp only [GRes.av, GScope.av, List.map_cons, List.map_nil, List.map_map]; rfl) | (rw [if_neg (by rw [List.length_map]; omega)]; rfl))))⟩, trivial⟩
      · skip
        have q : ¬ ((spansOf (r.scopes.take i)).length : Int) > 0 := by have e := of_decide_eq_false hb3; simp only [List.length_map] at e; omega
        refine aw_skip ?_
        refine normal_thn ?_
        refine aw_seq ?_
        refine aw_region ?_
        refine g_u (s_load_imm rfl rfl rfl tA47 tS47 rfl rfl) ?_
        refine g_u (s_store_imm rfl rfl rfl tS47 rfl rfl) ?_
        refine g_nil ?_
        refine normal_thn ?_
        refine aw_ret ?_
        exact ⟨⟨_, _, _, _, _, _, _, rfl, rfl, tA47, tS47, rfl, rfl, (rfl : toAV _ = some _).trans (congrArg some (by (rw [hin, List.take_length] at *; show _ = GRes.av (njR r); unfold njR scopeJ; first | (rw [if_pos (by rw [List.length_map]; omega)]; simp only [GRes.av, GScope.av, List.map_cons, List.map_nil, List.map_map]; rfl) | (rw [if_neg (by rw [List.length_map]; omega)]; rfl))))⟩, trivial⟩

end Go.Proofs

namespace Go.Proofs
open Go Go.Al

/-! ### What Jaeger's format keeps: sizes, ranges, and that it stays -/
theorem wholeN_rg (n : Int) : u64 (wholeN n) := by have := nano_rg (microM n); unfold u64 wholeN; omega
theorem ofR_rg (b l : Int) : u64 (ofR b l).lo ∧ u64 (ofR b l).hi := by
  have h := nano_rg b
  unfold ofR
  split
  · unfold u64; simp
  · refine ⟨by unfold u64; dsimp only; omega, ?_⟩
    unfold u64
    dsimp only
    simp only [IntKind.wrap, IntKind.bits, IntKind.signed, Bool.false_and, Bool.false_eq_true, if_false]
    omega
theorem wholeN_idem {n : Int} (h : u64 n) : wholeN (wholeN n) = wholeN n := by
  have h1 := micro_eq h.1 h.2
  have hr := wholeN_rg n
  have h2 := micro_eq hr.1 hr.2
  unfold wholeN at h2 ⊢
  rw [h2]
  rw [h1]
  rcases Int.lt_or_le 9223372036854775 (n / 1000) with h3 | h3
  · rw [(nano_bad (.inr h3)).1]; exact (nano_ok (by decide) (by decide)).1
  · have h0 : 0 ≤ n / 1000 := by have := h.1; omega
    rw [(nano_ok h0 h3).1, show n / 1000 * 1000 / 1000 = n / 1000 by omega, (nano_ok h0 h3).1]
theorem wholeM_idem {s e : Int} (hs : u64 s) (he : u64 e) : wholeM ⟨(wholeM ⟨s, e⟩).lo, (wholeM ⟨s, e⟩).hi⟩ = wholeM ⟨s, e⟩ := by
  cases hf : rFine s e
  · rw [whole_bad hf]
    rw [whole_fine (s := 0) (e := 0) (by decide) (by decide)]; rfl
  · rw [whole_fine hs.1 hf]
    have h2 := (fine_iff s e).1 hf
    have h0 := hs.1
    rw [whole_fine (by dsimp only; omega) ((fine_iff _ _).2 ⟨by dsimp only; omega, by dsimp only; omega⟩)]
    dsimp only
    rw [show s / 1000 * 1000 / 1000 * 1000 = s / 1000 * 1000 by omega, show (s / 1000 * 1000 + (e - s) / 1000 * 1000 - s / 1000 * 1000) / 1000 * 1000 = (e - s) / 1000 * 1000 by omega]
theorem mapP_idem (ks : List Int) (l : List GA) : (l.map (plainA ks)).map (plainA ks) = l.map (plainA ks) := by
  rw [List.map_map]; exact List.map_congr_left fun a _ => plainA_idem ks a
theorem keptA_idem (but : List ByteArray) (l : List GA) : keptA but (keptA but l) = keptA but l := by
  unfold keptA
  rw [← drop_plain nJ but (l.map (plainA nJ)), mapP_idem, dropA_idem]
theorem njE_idem {e : GE} (h : e.ok) : njE (njE e) = njE e := by
  unfold njE; dsimp only
  rw [wholeN_idem h.1, keptA_idem]
theorem njS_idem {s : GSpan} (h : s.ok) : njS (njS s) = njS s := by
  have hw := wholeM_idem h.2.2.1.2.1 h.2.2.1.2.2.1
  refine GSpan.ext' rfl rfl rfl rfl rfl rfl ?_ ?_ ?_ ?_ ?_ rfl rfl
  · show (wholeM ⟨(wholeM ⟨s.start, s.fin⟩).lo, (wholeM ⟨s.start, s.fin⟩).hi⟩).lo = _; rw [hw]; rfl
  · show (wholeM ⟨(wholeM ⟨s.start, s.fin⟩).lo, (wholeM ⟨s.start, s.fin⟩).hi⟩).hi = _; rw [hw]; rfl
  · exact keptA_idem k4 s.attrs
  · show (s.events.map njE).map njE = s.events.map njE
    rw [List.map_map]; exact List.map_congr_left fun e he => njE_idem (h.2.2.2.2.1 e he)
  · show (s.links.map njL).map njL = s.links.map njL
    rw [List.map_map]; rfl
theorem intoA_idem : ∀ (l : List GA) (a : GA), intoA (intoA l a) a = intoA l a
  | [], a => by simp [intoA, ltB_irrefl]
  | x :: l, a => by
    by_cases h1 : ltB x.key a.key = true
    · rw [intoA, if_pos h1, intoA, if_pos h1, intoA_idem l a]
    · by_cases h2 : x.key = a.key
      · rw [intoA, if_neg h1, if_pos h2, intoA, if_neg (by rw [ltB_irrefl]; decide), if_pos rfl]
      · rw [intoA, if_neg h1, if_neg h2, intoA, if_neg (by rw [ltB_irrefl]; decide), if_pos rfl]
theorem map_into (ks : List Int) (a : GA) : ∀ l : List GA, (intoA l a).map (plainA ks) = intoA (l.map (plainA ks)) (plainA ks a)
  | [] => rfl
  | x :: l => by
    rw [intoA, List.map_cons, intoA, plainA_key, plainA_key]
    split
    · rw [List.map_cons, map_into ks a l]
    · split <;> rfl
theorem getA_dropped (k : ByteArray) : ∀ l : List GA, getA (dropA [k] l) k = none
  | [] => rfl
  | x :: l => by
    rw [dropA]
    split
    · exact getA_dropped k l
    · rename_i h
      rw [getA, if_neg (by rintro rfl; simp at h), getA_dropped k l]
theorem textM_zero : textM zeroV = ⟨#[]⟩ := by rw [textE (by decide), simp6 (by decide)]; rfl
theorem textM_tv (t : ByteArray) : textM (tv t) = t := by rw [textE (v := tv t) (by rintro (h | h) <;> cases h), simp1 (v := tv t) rfl]; rfl
theorem plainA_tv (k t : ByteArray) : plainA nJ (.mk k (tv t)) = .mk k (tv t) := by unfold plainA; rw [if_neg]; show ¬ (nJ.any fun x => x == (1 : Int)) = true; decide
theorem spansOf_scopeJ (l : List GSpan) : spansOf (scopeJ l) = l := by
  unfold scopeJ; split
  · simp [spansOf]
  · rename_i h; have : l = [] := List.eq_nil_of_length_eq_zero (by omega); rw [this]; rfl
theorem kept_none (l : List GA) : keptA [] l = l.map (plainA nJ) := dropA_nil _
theorem named_stays {l : List GA} (hr : risA none l) (t : ByteArray) : keptA [] (namedM (keptA [] l) t) = namedM (keptA [] l) t ∧ textA (namedM (keptA [] l) t) skey = t := by
  have hk := ris_kept [] hr
  rw [kept_none (namedM _ _), kept_none l]
  rw [kept_none] at hk
  unfold namedM
  split
  · rename_i ht
    exact ⟨by rw [← drop_plain, mapP_idem], by unfold textA; rw [getA_dropped, Option.getD_none, textM_zero, ht]⟩
  · exact ⟨by rw [map_into, plainA_tv, mapP_idem], by unfold textA; rw [getA_into _ _ _ none hk, Option.getD_some, textM_tv]⟩
theorem namedM_idem (l : List GA) (t : ByteArray) : namedM (namedM l t) t = namedM l t := by
  unfold namedM; split
  · exact dropA_idem _ _
  · exact intoA_idem _ _
theorem njR_idem {r : GRes} (ho : r.ok) (hr : risA none r.attrs) : njR (njR r) = njR r := by
  have h := named_stays hr (serviceM r)
  refine GRes.ext' ?_ ?_
  · show namedM (keptA [] (namedM (keptA [] r.attrs) (serviceM r))) (textA (namedM (keptA [] r.attrs) (serviceM r)) skey) = namedM (keptA [] r.attrs) (serviceM r)
    rw [h.1, h.2, namedM_idem]
  · show scopeJ ((spansOf (scopeJ ((spansOf r.scopes).map njS))).map njS) = scopeJ ((spansOf r.scopes).map njS)
    rw [spansOf_scopeJ, List.map_map]
    congr 1
    refine List.map_congr_left fun s hs => ?_
    obtain ⟨c, hc, hs⟩ := spansOf_mem hs
    exact njS_idem ((ho.2 c hc).2.2 s hs)
theorem njB_idem {b : List GRes} (ho : okB b) (hr : ∀ r ∈ b, risA none r.attrs) : njB (njB b) = njB b := by
  unfold njB; rw [List.map_map]; exact List.map_congr_left fun r h => njR_idem (ho r h) (hr r h)
theorem njB_ris {b : List GRes} (hr : ∀ r ∈ b, risA none r.attrs) : ∀ r ∈ njB b, risA none r.attrs := fun r h => by
  obtain ⟨x, hx, rfl⟩ := List.mem_map.1 h; exact ris_named (ris_kept [] (hr x hx)) _

theorem e0_ok : (⟨#[]⟩ : ByteArray).size ≤ maxLen := by decide
theorem skey_ok : skey.size ≤ maxLen := by decide
theorem tv_ok {t : ByteArray} (ht : t.size ≤ maxLen) : (tv t).ok := by
  rw [GV.ok_iff]
  exact ⟨by show (0 : Int) ≤ 1 ∧ (1 : Int) < 256; decide, ht, by show (-9223372036854775808 : Int) ≤ 0 ∧ (0 : Int) < 9223372036854775808; decide, by show (0 : Int) ≤ 0 ∧ (0 : Int) < 18446744073709551616; decide, (fun x h => by cases h), (fun x h => by cases h)⟩
theorem keptA_ok (but : List ByteArray) {l : List GA} (ho : ∀ a ∈ l, a.ok) (hw : wtAs l ≤ 1000000) : ∀ a ∈ keptA but l, a.ok := fun a h => by
  obtain ⟨x, hx, rfl⟩ := List.mem_map.1 (dropA_mem h).1
  exact plainA_ok (ho x hx) (Nat.le_trans (wtAs_mem hx) hw)
theorem namedM_ok {l : List GA} {t : ByteArray} (ho : ∀ a ∈ l, a.ok) (ht : t.size ≤ maxLen) : ∀ a ∈ namedM l t, a.ok := fun a h => by
  unfold namedM at h
  split at h
  · exact ho a (dropA_mem h).1
  · rcases mem_intoA h with rfl | h
    · exact (GA.ok_iff _).2 ⟨skey_ok, tv_ok ht⟩
    · exact ho a h
theorem njE_ok {e : GE} (h : e.ok) (hw : e.wt ≤ 1000000) : (njE e).ok := ⟨wholeN_rg _, h.2.1, keptA_ok _ h.2.2 (by have : e.wt = 1 + e.name.size + wtAs e.attrs := rfl; omega)⟩
theorem njS_ok {s : GSpan} (h : s.ok) (hw : s.wt ≤ 1000000) : (njS s).ok := by
  have qw : s.wt = 1 + s.state.size + s.name.size + s.note.size + wtAs s.attrs + sumBy GE.wt s.events + sumBy GL.wt s.links := rfl
  have hr := ofR_rg (BegunM ⟨s.start, s.fin⟩) (LastsM ⟨s.start, s.fin⟩)
  refine ⟨h.1, ⟨e0_ok, h.2.1.2.1, h.2.1.2.2⟩, ⟨h.2.2.1.1, hr.1, hr.2, h.2.2.1.2.2.2⟩, keptA_ok _ h.2.2.2.1 (by omega), fun e he => ?_, fun e he => ?_⟩
  · obtain ⟨x, hx, rfl⟩ := List.mem_map.1 he
    exact njE_ok (h.2.2.2.2.1 x hx) (by have := sumBy_mem GE.wt hx; omega)
  · obtain ⟨x, hx, rfl⟩ := List.mem_map.1 he
    have := h.2.2.2.2.2 x hx
    exact ⟨this.1, this.2.1, e0_ok, fun a ha => by cases ha⟩
theorem njR_ok {r : GRes} (h : r.ok) (hw : r.wt ≤ 1000000) : (njR r).ok := by
  have qw : r.wt = 1 + wtAs r.attrs + sumBy GScope.wt r.scopes := rfl
  have hs := serviceM_le r
  refine ⟨namedM_ok (keptA_ok _ h.1 (by omega)) (by unfold maxLen; omega), fun c hc => ?_⟩
  have hc : c ∈ scopeJ ((spansOf r.scopes).map njS) := hc
  unfold scopeJ at hc
  split at hc
  · cases List.mem_singleton.1 hc
    refine ⟨e0_ok, e0_ok, fun x hx => ?_⟩
    obtain ⟨s, hs, rfl⟩ := List.mem_map.1 hx
    obtain ⟨c, hc, hs⟩ := spansOf_mem hs
    have h1 := sumBy_mem GScope.wt hc
    have h2 : c.wt = 1 + c.name.size + c.version.size + sumBy GSpan.wt c.spans := rfl
    have h3 := sumBy_mem GSpan.wt hs
    exact njS_ok ((h.2 c hc).2.2 s hs) (by omega)
  · cases hc
theorem njB_ok {b : List GRes} (h : okB b) (hw : wtB b ≤ 1000000) : okB (njB b) := fun r hr => by
  obtain ⟨x, hx, rfl⟩ := List.mem_map.1 hr
  exact njR_ok (h x hx) (by have := sumBy_mem GRes.wt hx; unfold wtB at hw; omega)
theorem sumBy_map_le2 {α : Type} {f : α → α} {g : α → Nat} (k : Nat) (h : ∀ x, g (f x) ≤ k * g x) : ∀ l : List α, sumBy g (l.map f) ≤ k * sumBy g l
  | [] => by simp [sumBy]
  | x :: l => by simp only [List.map_cons, sumBy, Nat.mul_add]; have := h x; have := sumBy_map_le2 k h l; omega
theorem njS_wt (s : GSpan) : (njS s).wt ≤ 151 * s.wt := by
  have h1 := keptA_wt k4 s.attrs
  have h2 := sumBy_map_le2 (f := njE) (g := GE.wt) 151 (fun e => by
    have q : e.wt = 1 + e.name.size + wtAs e.attrs := rfl
    have q2 : (njE e).wt = 1 + e.name.size + wtAs (keptA [k_event] e.attrs) := rfl
    have := keptA_wt [k_event] e.attrs; omega) s.events
  have h3 := sumBy_map_le2 (f := njL) (g := GL.wt) 151 (fun e => by
    have q : e.wt = 1 + e.state.size + wtAs e.attrs := rfl
    have q2 : (njL e).wt = 1 := rfl
    omega) s.links
  have q1 : (njS s).wt = 1 + 0 + s.name.size + s.note.size + wtAs (keptA k4 s.attrs) + sumBy GE.wt (s.events.map njE) + sumBy GL.wt (s.links.map njL) := rfl
  have q2 : s.wt = 1 + s.state.size + s.name.size + s.note.size + wtAs s.attrs + sumBy GE.wt s.events + sumBy GL.wt s.links := rfl
  omega
theorem spansOf_wt : ∀ l : List GScope, sumBy GSpan.wt (spansOf l) ≤ sumBy GScope.wt l
  | [] => Nat.le_refl _
  | c :: l => by
    rw [spansOf, sumBy_append, sumBy]
    have := spansOf_wt l
    have h3 : c.wt = 1 + c.name.size + c.version.size + sumBy GSpan.wt c.spans := rfl
    omega
theorem namedM_wt (l : List GA) (t : ByteArray) : wtAs (namedM l t) ≤ wtAs l + 13 + t.size := by
  unfold namedM; split
  · have := dropA_wt [skey] l; omega
  · have h1 := wt_intoA l (.mk skey (tv t))
    have h2 : (GA.mk skey (tv t)).wt = 12 + (1 + t.size + 0 + 0) := by rw [GA.wt_eq, GV.wt_eq]; rfl
    omega
theorem njR_wt (r : GRes) : (njR r).wt ≤ 400 * r.wt := by
  have h1 := namedM_wt (keptA [] r.attrs) (serviceM r)
  have h2 := keptA_wt [] r.attrs
  have h3 := serviceM_le r
  have h4 := sumBy_map_le2 (f := njS) (g := GSpan.wt) 151 njS_wt (spansOf r.scopes)
  have h5 := spansOf_wt r.scopes
  have q1 : (njR r).wt = 1 + wtAs (namedM (keptA [] r.attrs) (serviceM r)) + sumBy GScope.wt (scopeJ ((spansOf r.scopes).map njS)) := rfl
  have q2 : r.wt = 1 + wtAs r.attrs + sumBy GScope.wt r.scopes := rfl
  have h6 : sumBy GScope.wt (scopeJ ((spansOf r.scopes).map njS)) ≤ 1 + sumBy GSpan.wt ((spansOf r.scopes).map njS) := by
    unfold scopeJ; split
    · simp only [sumBy, GScope.wt]
      show 1 + 0 + 0 + _ + 0 ≤ _
      omega
    · exact Nat.zero_le _
  omega
theorem njB_wt (b : List GRes) : wtB (njB b) ≤ 400 * wtB b := sumBy_map_le2 400 njR_wt b
end Go.Proofs

namespace Go.Proofs
open Go Go.Al
set_option maxRecDepth 10000
set_option maxHeartbeats 4000000 in
theorem njB_c (b : List GRes) (ho : okB b) (hw : wtB b ≤ 9000000) (hr : ∀ r ∈ b, risA none r.attrs) : PCall Tryd.prog Γ0 29 [batchAv b] [batchAv (njB b)] := by
  have ql := sumBy_len GRes.wt (fun e => by unfold GRes.wt; omega) b
  have qw : wtB b = sumBy GRes.wt b := rfl
  refine pcall_of Tryd.func29 rfl Tryd.ntmps29 (by kernel_rfl) rfl fun w0 I0 G0 => ?_
  refine aw_seq ?_
  refine aw_region ?_
  refine g_uG (s_box_imm 1001 rfl rfl rfl rfl) rfl ?_
  refine g_uG (s_alloc' 1002 rfl rfl rfl tZ24) rfl ?_
  refine g_nil ?_
  refine normal_thn ?_
  refine aw_seq ?_
  refine aw_region ?_
  refine g_uG (s_alloc' 1003 rfl rfl rfl tZ24) rfl ?_
  refine g_nil ?_
  refine normal_thn ?_
  refine aw_seq ?_
  refine aw_seq ?_
  refine aw_newtokB 3099 1003 2 0 rfl rfl rfl rfl rfl rfl rfl ?_
  refine aw_region ?_
  refine g_u (s_fieldAddr rfl rfl fa24_0 rfl) ?_
  refine g_u (s_load_imm rfl rfl rfl tA22 tS22 rfl rfl) ?_
  refine g_u (s_lenL rfl rfl Tryd.underlying22) ?_
  refine g_u (s_mv_imm rfl rfl) ?_
  refine g_nil ?_
  refine normal_thn ?_
  refine aw_block ?_
  refine aw_loop' (fun i : Nat => [(2, .ptr 1002 0), (1002, .box 24 (.imm z24)), (3, .ptr 1003 0), (1003, .box 24 (.agg [.slg 3099 2 ((b.take i).map fun r => (njR r).av)])), (3099, .tok 2 ((b.take i).map fun r => (njR r).av)), (7, .imm (.sl 2 (b.map GRes.av))), (8, .imm (iv (b.length : Int))), (9, .imm (iv (i : Int)))]) (fun i => i ≤ b.length) (fun i => b.length - i) (0) ?_ ⟨rfl, rfl, rfl, rfl, rfl, rfl, look_int rfl (by rw [List.length_map]), rfl, trivial⟩ ?_
  · exact Nat.zero_le _
  · rintro i h1; have h1 : i ≤ b.length := h1
    refine aw_seq ?_
    refine aw_region ?_
    refine g_u (s_ltI rfl rfl rfl) ?_
    refine g_nil ?_
    refine normal_thn ?_
    refine aw_seq ?_
    refine aw_cond rfl (fun hb1 => ?_) (fun hb1 => ?_)
    · skip
      have hi : i < b.length := by have := of_decide_eq_true hb1; (try simp only [List.length_map] at this); omega
      have hrx := sumBy_mem GRes.wt (nthR_mem hi)
      have hro := ho _ (nthR_mem hi)
      have hrr := hr _ (nthR_mem hi)
      refine aw_skip ?_
      refine normal_thn ?_
      refine aw_seq ?_
      refine aw_block ?_
      refine aw_seq ?_
      refine aw_region ?_
      refine g_u (s_indexAddr rfl rfl rfl Tryd.underlying22 tS47 (by omega) (ixR hi)) ?_
      refine g_u (s_load_cp rfl rfl tA47 tS47 rfl rfl) ?_
      refine g_uG (s_alloc' 1005 rfl rfl rfl tZ47) rfl ?_
      refine g_u (s_store_imm rfl rfl rfl tS47 rfl rfl) ?_
      refine g_nil ?_
      refine normal_thn ?_
      refine aw_draw mixed ?_
      refine g_u (s_fieldAddr rfl rfl fa24_0 rfl) ?_
      refine g_u (s_load_slg rfl rfl rfl tA22 tS22 rfl rfl) ?_
      refine g_u (s_load_agg rfl rfl rfl tA47 tS47 rfl rfl) ?_
      refine g_u (s_call1 (njR_c (nthR b i) hro (by omega) hrr) rfl rfl) ?_
      refine g_u (s_buildSlice (X0 := z47) rfl Tryd.underlying22 tS47 tZ47 rfl rfl rfl rfl rfl rfl rfl rfl) ?_
      refine g_u (s_append rfl rfl rfl rfl rfl Tryd.underlying22 Tryd.underlying22 tS47 zv47 rfl (by decide) by47 (by (try dsimp only); simp only [List.length_append, List.length_cons, List.length_nil, List.length_map, List.length_take, List.length_drop]; omega) (by (try dsimp only); simp only [List.length_append, List.length_cons, List.length_nil, List.length_map, List.length_take, List.length_drop]; omega)) ?_
      refine g_u (s_fieldAddr rfl rfl fa24_0 rfl) ?_
      refine g_u (s_store rfl rfl rfl rfl tS22 rfl rfl) ?_
      refine g_nil ⟨by kernel_rfl, ?_⟩
      refine normal_blk ?_
      refine normal_thn ?_
      refine aw_region ?_
      refine g_u (s_add rfl rfl rfl) ?_
      refine g_u (s_mv_imm rfl rfl) ?_
      refine g_nil ?_
      refine normal_thn ?_
      have et : ((b.take (i + 1)).map fun r => (njR r).av) = ((b.take i).map fun r => (njR r).av) ++ [(njR (nthR b i)).av] := by rw [take_snoc (nth_get (d := gr0) hi), List.map_append]; rfl
      refine ⟨i + 1, hi, ⟨rfl, rfl, rfl, (by rw [et]; rfl), look_tok rfl et.symm, rfl, rfl, look_int rfl (by rw [wrap64 (by omega) (by omega)]; rfl), trivial⟩, by (try dsimp only); omega⟩
    · skip
      have hin : i = b.length := by have := of_decide_eq_false hb1; (try simp only [List.length_map] at this); omega
      refine aw_exit ?_
      refine exit_thn ?_
      refine exit_thn ?_
      refine exit_blk ?_
      refine normal_thn ?_
      refine aw_seq ?_
      refine aw_region ?_
      refine g_u (s_load_agg rfl rfl rfl tA24 tS24 rfl rfl) ?_
      refine g_u (s_store_imm rfl rfl rfl tS24 rfl rfl) ?_
      refine g_nil ?_
      refine normal_thn ?_
      refine aw_ret ?_
      exact ⟨⟨_, _, _, _, _, _, _, rfl, rfl, tA24, tS24, rfl, rfl, (rfl : toAV _ = some _).trans (congrArg some (by (rw [hin, List.take_length]; show AV.agg [.sl 2 _] = AV.agg [.sl 2 ((b.map njR).map GRes.av)]; rw [List.map_map]; rfl)))⟩, trivial⟩

set_option maxHeartbeats 8000000 in
theorem rnjS_c (s : GSpan) (ho : s.ok) (hw : s.wt ≤ 9000000) : PCall Tryd.prog Γ0 33 [s.av] [(njS s).av] := by
  have qw : s.wt = 1 + s.state.size + s.name.size + s.note.size + wtAs s.attrs + sumBy GE.wt s.events + sumBy GL.wt s.links := rfl
  have ql := sumBy_len GE.wt (fun e => by unfold GE.wt; omega) s.events
  have qm := sumBy_len GL.wt (fun e => by unfold GL.wt; omega) s.links
  refine pcall_of Tryd.func33 rfl Tryd.ntmps33 (by kernel_rfl) rfl fun w0 I0 G0 => ?_
  refine aw_seq ?_
  refine aw_region ?_
  refine g_uG (s_box_imm 1001 rfl rfl rfl rfl) rfl ?_
  refine g_uG (s_alloc' 1002 rfl rfl rfl tZ36) rfl ?_
  refine g_nil ?_
  refine normal_thn ?_
  refine aw_seq ?_
  refine aw_region ?_
  refine g_u (s_fieldAddr rfl rfl fa36_0 rfl) ?_
  refine g_u (s_load_imm rfl rfl rfl tA26 tS26 rfl rfl) ?_
  refine g_u (s_fieldAddr rfl rfl fa36_1 rfl) ?_
  refine g_u (s_load_imm rfl rfl rfl tA28 tS28 rfl rfl) ?_
  refine g_u (s_fieldAddr rfl rfl fa36_2 rfl) ?_
  refine g_u (s_load_imm rfl rfl rfl tA28 tS28 rfl rfl) ?_
  refine g_u (s_fieldAddr rfl rfl fa36_4 rfl) ?_
  refine g_u (s_load_imm rfl rfl rfl tA9 tS9 rfl rfl) ?_
  refine g_u (s_fieldAddr rfl rfl fa36_5 rfl) ?_
  refine g_u (s_load_imm rfl rfl rfl tA3 tS3 rfl rfl) ?_
  refine g_u (s_fieldAddr rfl rfl fa36_11 rfl) ?_
  refine g_u (s_load_imm rfl rfl rfl tA34 tS34 rfl rfl) ?_
  refine g_u (s_build rfl tZ36 us36 pl36 rfl rfl rfl rfl) ?_
  refine g_uG (s_alloc' 1003 rfl rfl rfl tZ36) rfl ?_
  refine g_u (s_store_imm rfl rfl rfl tS36 (by first | exact beqW (GSpan.width _) | rfl) (by first | exact setS_w (z36_w.trans (GSpan.width _).symm) rfl | rfl)) ?_
  refine g_nil ?_
  refine normal_thn ?_
  refine aw_seq ?_
  refine aw_region ?_
  refine g_u (s_fieldAddr rfl rfl fa36_6 rfl) ?_
  refine g_u (s_load_imm rfl rfl rfl tA29 tS29 rfl rfl) ?_
  refine g_u (s_fieldAddr rfl rfl fa36_7 rfl) ?_
  refine g_u (s_load_imm rfl rfl rfl tA29 tS29 rfl rfl) ?_
  refine g_u (s_call2 ((show PCall Tryd.prog Γ0 80 [uv s.start, uv s.fin] [uv (wholeM ⟨s.start, s.fin⟩).lo, uv (wholeM ⟨s.start, s.fin⟩).hi] from by rw [(tells5 _ _).1, (tells5 _ _).2]; exact rwhole_c _ _)) rfl rfl) ?_
  refine g_u (s_mv_tup rfl rfl) ?_
  refine g_u (s_extract rfl rfl rfl rfl) ?_
  refine g_u (s_extract rfl rfl rfl rfl) ?_
  refine g_u (s_fieldAddr rfl rfl fa36_6 rfl) ?_
  refine g_u (s_store_imm rfl rfl rfl tS29 rfl rfl) ?_
  refine g_u (s_fieldAddr rfl rfl fa36_7 rfl) ?_
  refine g_u (s_store_imm rfl rfl rfl tS29 rfl rfl) ?_
  refine g_nil ?_
  refine normal_thn ?_
  refine aw_seq ?_
  refine aw_region ?_
  refine g_u (s_fieldAddr rfl rfl fa36_8 rfl) ?_
  refine g_u (s_load_imm rfl rfl rfl tA30 tS30 rfl rfl) ?_
  refine g_u (s_buildSlice (X0 := z9) rfl Tryd.underlying78 tS9 tZ9 rfl rfl rfl rfl rfl rfl rfl rfl) ?_
  refine g_u (s_call1 (rkept_c s.attrs k4 ho.2.2.2.1 (by omega) (by decide)) rfl rfl) ?_
  refine g_u (s_fieldAddr rfl rfl fa36_8 rfl) ?_
  refine g_u (s_store_imm rfl rfl rfl tS30 rfl rfl) ?_
  refine g_nil ?_
  refine normal_thn ?_
  refine aw_seq ?_
  refine aw_seq ?_
  refine aw_newtokB 3009 1003 3 38 rfl rfl rfl rfl rfl rfl rfl ?_
  refine aw_region ?_
  refine g_u (s_as_imm rfl rfl) ?_
  refine g_nil ?_
  refine normal_thn ?_
  refine aw_block ?_
  refine aw_loop' (fun i : Nat => [(1, .ptr 1001 0), (1001, .box 36 (.imm s.av)), (2, .ptr 1002 0), (1002, .box 36 (.imm z36)), (3, .ptr 1003 0), (1003, .box 36 (.agg [.imm (.arr 16 s.trace), .imm (.arr 8 s.id), .imm (.arr 8 s.parent), .imm (sv ⟨#[]⟩), .imm (sv s.name), .imm (iv s.kind), .imm (uv (wholeM ⟨s.start, s.fin⟩).lo), .imm (uv (wholeM ⟨s.start, s.fin⟩).hi), .imm (.sl 7 ((keptA k4 s.attrs).map avA)), .slg 3009 3 ((s.events.take i).map fun e => (njE e).av), .imm (.v (.slice none 0 0)), .imm (.agg [iv s.code, sv s.note])])), (3009, .tok 3 ((s.events.take i).map fun e => (njE e).av)), (4, .imm (iv (i : Int)))]) (fun i => i ≤ s.events.length) (fun i => s.events.length - i) (0) ?_ ⟨rfl, rfl, rfl, rfl, rfl, rfl, rfl, rfl, trivial⟩ ?_
  · exact Nat.zero_le _
  · rintro i h1; have h1 : i ≤ s.events.length := h1
    refine aw_seq ?_
    refine aw_seq ?_
    refine aw_region ?_
    refine g_u (s_mv_imm rfl rfl) ?_
    refine g_u (s_fieldAddr rfl rfl fa36_9 rfl) ?_
    refine g_u (s_load_imm rfl rfl rfl tA31 tS31 rfl rfl) ?_
    refine g_u (s_lenL rfl rfl Tryd.underlying31) ?_
    refine g_u (s_ltI rfl rfl rfl) ?_
    refine g_nil ?_
    refine normal_thn ?_
    refine aw_cond rfl (fun hb1 => ?_) (fun hb1 => ?_)
    · skip
      have hi : i < s.events.length := by have := of_decide_eq_true hb1; (try simp only [List.length_map] at this); omega
      have hex := sumBy_mem GE.wt (nthE_mem hi)
      have heq : (nthE s.events i).wt = 1 + (nthE s.events i).name.size + wtAs (nthE s.events i).attrs := rfl
      have heo := ho.2.2.2.2.1 _ (nthE_mem hi)
      refine aw_skip ?_
      refine normal_thn ?_
      refine aw_seq ?_
      refine aw_block ?_
      refine aw_seq ?_
      refine aw_region ?_
      refine g_u (s_fieldAddr rfl rfl fa36_9 rfl) ?_
      refine g_u (s_load_imm rfl rfl rfl tA31 tS31 rfl rfl) ?_
      refine g_u (s_mv_imm rfl rfl) ?_
      refine g_u (s_indexAddr rfl rfl rfl Tryd.underlying31 tS86 (by omega) (ixE hi)) ?_
      refine g_u (s_load_cp rfl rfl tA86 tS86 rfl rfl) ?_
      refine g_uG (s_alloc' 1005 rfl rfl rfl tZ86) rfl ?_
      refine g_u (s_store_imm rfl rfl rfl tS86 rfl rfl) ?_
      refine g_nil ?_
      refine normal_thn ?_
      refine aw_draw mixed ?_
      refine g_u (s_fieldAddr rfl rfl fa36_9 rfl) ?_
      refine g_u (s_load_slg rfl rfl rfl tA31 tS31 rfl rfl) ?_
      refine g_u (s_fieldAddr rfl rfl fa86_0 rfl) ?_
      refine g_u (s_load_imm rfl rfl rfl tA29 tS29 rfl rfl) ?_
      refine g_u (s_call1 (rwholeN_c _) rfl rfl) ?_
      refine g_u (s_fieldAddr rfl rfl fa86_1 rfl) ?_
      refine g_u (s_load_imm rfl rfl rfl tA9 tS9 rfl rfl) ?_
      refine g_u (s_fieldAddr rfl rfl fa86_2 rfl) ?_
      refine g_u (s_load_imm rfl rfl rfl tA30 tS30 rfl rfl) ?_
      refine g_u (s_buildSlice (X0 := z9) rfl Tryd.underlying78 tS9 tZ9 rfl rfl rfl rfl rfl rfl rfl rfl) ?_
      refine g_u (s_call1 (rkept_c (nthE s.events i).attrs [k_event] heo.2.2 (by omega) (by decide)) rfl rfl) ?_
      refine g_u (s_build rfl tU86 us86 pl86 rfl rfl rfl rfl) ?_
      refine g_u (s_buildSlice (X0 := z86) rfl Tryd.underlying31 tS86 tZ86 rfl rfl rfl rfl rfl rfl rfl rfl) ?_
      refine g_u (s_append rfl rfl rfl rfl rfl Tryd.underlying31 Tryd.underlying31 tS86 zv86 rfl (by decide) by86 (by (try dsimp only); simp only [List.length_append, List.length_cons, List.length_nil, List.length_map, List.length_take, List.length_drop]; omega) (by (try dsimp only); simp only [List.length_append, List.length_cons, List.length_nil, List.length_map, List.length_take, List.length_drop]; omega)) ?_
      refine g_u (s_fieldAddr rfl rfl fa36_9 rfl) ?_
      refine g_u (s_store rfl rfl rfl rfl tS31 rfl rfl) ?_
      refine g_nil ⟨by kernel_rfl, ?_⟩
      refine normal_blk ?_
      refine normal_thn ?_
      refine aw_region ?_
      refine g_u (s_mv_imm rfl rfl) ?_
      refine g_u (s_add rfl rfl rfl) ?_
      refine g_u (s_as_imm rfl rfl) ?_
      refine g_nil ?_
      refine normal_thn ?_
      have et : ((s.events.take (i + 1)).map fun e => (njE e).av) = ((s.events.take i).map fun e => (njE e).av) ++ [(njE (nthE s.events i)).av] := by rw [take_snoc (nth_get (d := ge0) hi), List.map_append]; rfl
      refine ⟨i + 1, hi, ⟨rfl, rfl, rfl, rfl, rfl, (by rw [et]; rfl), look_tok rfl et.symm, look_int rfl (by rw [wrap64 (by omega) (by omega)]; rfl), trivial⟩, by (try dsimp only); omega⟩
    · skip
      have hin : i = s.events.length := by have := of_decide_eq_false hb1; (try simp only [List.length_map] at this); omega
      refine aw_exit ?_
      refine exit_thn ?_
      refine exit_thn ?_
      refine exit_blk ?_
      refine normal_thn ?_
      refine aw_seq ?_
      refine aw_seq ?_
      refine aw_newtokB 3010 1003 26 39 rfl rfl rfl rfl rfl rfl rfl ?_
      refine aw_region ?_
      refine g_u (s_as_imm rfl rfl) ?_
      refine g_nil ?_
      refine normal_thn ?_
      refine aw_block ?_
      refine aw_loop' (fun j : Nat => [(1, .ptr 1001 0), (1001, .box 36 (.imm s.av)), (2, .ptr 1002 0), (1002, .box 36 (.imm z36)), (3, .ptr 1003 0), (1003, .box 36 (.agg [.imm (.arr 16 s.trace), .imm (.arr 8 s.id), .imm (.arr 8 s.parent), .imm (sv ⟨#[]⟩), .imm (sv s.name), .imm (iv s.kind), .imm (uv (wholeM ⟨s.start, s.fin⟩).lo), .imm (uv (wholeM ⟨s.start, s.fin⟩).hi), .imm (.sl 7 ((keptA k4 s.attrs).map avA)), .slg 3009 3 (s.events.map fun e => (njE e).av), .slg 3010 26 ((s.links.take j).map fun e => (njL e).av), .imm (.agg [iv s.code, sv s.note])])), (3010, .tok 26 ((s.links.take j).map fun e => (njL e).av)), (6, .imm (iv (j : Int)))]) (fun j => j ≤ s.links.length) (fun j => s.links.length - j) (0) ?_ ⟨rfl, rfl, rfl, rfl, rfl, (by rw [hin, List.take_length]; rfl), rfl, rfl, trivial⟩ ?_
      · exact Nat.zero_le _
      · rintro j h1; have h1 : j ≤ s.links.length := h1
        refine aw_seq ?_
        refine aw_seq ?_
        refine aw_region ?_
        refine g_u (s_mv_imm rfl rfl) ?_
        refine g_u (s_fieldAddr rfl rfl fa36_10 rfl) ?_
        refine g_u (s_load_imm rfl rfl rfl tA32 tS32 rfl rfl) ?_
        refine g_u (s_lenL rfl rfl Tryd.underlying32) ?_
        refine g_u (s_ltI rfl rfl rfl) ?_
        refine g_nil ?_
        refine normal_thn ?_
        refine aw_cond rfl (fun hb2 => ?_) (fun hb2 => ?_)
        · skip
          have hj : j < s.links.length := by have := of_decide_eq_true hb2; (try simp only [List.length_map] at this); omega
          refine aw_skip ?_
          refine normal_thn ?_
          refine aw_seq ?_
          refine aw_block ?_
          refine aw_draw mixed ?_
          refine g_u (s_fieldAddr rfl rfl fa36_10 rfl) ?_
          refine g_u (s_load_slg rfl rfl rfl tA32 tS32 rfl rfl) ?_
          refine g_u (s_fieldAddr rfl rfl fa36_10 rfl) ?_
          refine g_u (s_load_imm rfl rfl rfl tA32 tS32 rfl rfl) ?_
          refine g_u (s_mv_imm rfl rfl) ?_
          refine g_u (s_indexAddr rfl rfl rfl Tryd.underlying32 tS88 (by omega) (ixL hj)) ?_
          refine g_u (s_fieldAddr_cp rfl rfl fa88_0 rfl rfl) ?_
          refine g_u (s_load_cp rfl rfl tA26 tS26 rfl rfl) ?_
          refine g_u (s_fieldAddr rfl rfl fa36_10 rfl) ?_
          refine g_u (s_load_imm rfl rfl rfl tA32 tS32 rfl rfl) ?_
          refine g_u (s_mv_imm rfl rfl) ?_
          refine g_u (s_indexAddr rfl rfl rfl Tryd.underlying32 tS88 (by omega) (ixL hj)) ?_
          refine g_u (s_fieldAddr_cp rfl rfl fa88_1 rfl rfl) ?_
          refine g_u (s_load_cp rfl rfl tA28 tS28 rfl rfl) ?_
          refine g_u (s_build rfl tU88 us88 pl88 rfl rfl rfl rfl) ?_
          refine g_u (s_buildSlice (X0 := z88) rfl Tryd.underlying32 tS88 tZ88 rfl rfl rfl rfl rfl rfl rfl rfl) ?_
          refine g_u (s_append rfl rfl rfl rfl rfl Tryd.underlying32 Tryd.underlying32 tS88 zv88 rfl (by decide) by88 (by (try dsimp only); simp only [List.length_append, List.length_cons, List.length_nil, List.length_map, List.length_take, List.length_drop]; omega) (by (try dsimp only); simp only [List.length_append, List.length_cons, List.length_nil, List.length_map, List.length_take, List.length_drop]; omega)) ?_
          refine g_u (s_fieldAddr rfl rfl fa36_10 rfl) ?_
          refine g_u (s_store rfl rfl rfl rfl tS32 rfl rfl) ?_
          refine g_nil ⟨by kernel_rfl, ?_⟩
          refine normal_blk ?_
          refine normal_thn ?_
          refine aw_region ?_
          refine g_u (s_mv_imm rfl rfl) ?_
          refine g_u (s_add rfl rfl rfl) ?_
          refine g_u (s_as_imm rfl rfl) ?_
          refine g_nil ?_
          refine normal_thn ?_
          have et : ((s.links.take (j + 1)).map fun e => (njL e).av) = ((s.links.take j).map fun e => (njL e).av) ++ [(njL (nthL s.links j)).av] := by rw [take_snoc (nth_get (d := gl0) hj), List.map_append]; rfl
          refine ⟨j + 1, hj, ⟨rfl, rfl, rfl, rfl, rfl, (by rw [et]; rfl), look_tok rfl et.symm, look_int rfl (by rw [wrap64 (by omega) (by omega)]; rfl), trivial⟩, by (try dsimp only); omega⟩
        · skip
          have hjn : j = s.links.length := by have := of_decide_eq_false hb2; (try simp only [List.length_map] at this); omega
          refine aw_exit ?_
          refine exit_thn ?_
          refine exit_thn ?_
          refine exit_blk ?_
          refine normal_thn ?_
          refine aw_seq ?_
          refine aw_region ?_
          refine g_u (s_load_agg rfl rfl rfl tA36 tS36 rfl rfl) ?_
          refine g_u (s_store_imm rfl rfl rfl tS36 (by first | exact beqW (GSpan.width _) | rfl) (by first | exact setS_w (z36_w.trans (GSpan.width _).symm) rfl | rfl)) ?_
          refine g_nil ?_
          refine normal_thn ?_
          refine aw_ret ?_
          exact ⟨⟨_, _, _, _, _, _, _, rfl, rfl, tA36, tS36, rfl, rfl, (rfl : toAV _ = some _).trans (congrArg some (by (rw [hjn, List.take_length]; show _ = GSpan.av (njS s); simp only [GSpan.av, njS, List.map_map]; rfl)))⟩, trivial⟩

theorem plR_len : ∀ (i : Nat) (l : List GRes), (plR i l).length ≤ sumBy GRes.wt l
  | _, [] => Nat.le_refl _
  | i, r :: l => by
    rw [plR, List.length_append, plC_len, sumBy]
    have h1 := plR_len (i + 1) l
    have h2 := spansOf_len r.scopes
    have h3 : r.wt = 1 + wtAs r.attrs + sumBy GScope.wt r.scopes := rfl
    omega
def p00 : Nat × Nat × Nat := (0, 0, 0)
def nthP (l : List (Nat × Nat × Nat)) (i : Nat) : Nat × Nat × Nat := nth l i p00
theorem ixP {l : List (Nat × Nat × Nat)} {i : Nat} (h : i < l.length) : (l.map plav)[((i : Nat) : Int).toNat]? = some (plav (nthP l i)) := nth_map (d := p00) h
theorem nthP_mem {l : List (Nat × Nat × Nat)} {i : Nat} (h : i < l.length) : nthP l i ∈ l := nth_mem h

set_option maxHeartbeats 2000000 in
theorem places_c (b : List GRes) (hw : wtB b ≤ 9000000) : PCall Tryd.prog Γ0 75 [batchAv b] [.sl 3 ((plR 0 b).map plav)] := by
  have ql := sumBy_len GRes.wt (fun e => by unfold GRes.wt; omega) b
  have qw : wtB b = sumBy GRes.wt b := rfl
  refine pcall_of Tryd.func75 rfl Tryd.ntmps75 (by kernel_rfl) rfl fun w0 I0 G0 => ?_
  refine aw_seq ?_
  refine aw_region ?_
  refine g_uG (s_box_imm 1001 rfl rfl rfl rfl) rfl ?_
  refine g_u (s_as_imm rfl rfl) ?_
  refine g_nil ?_
  refine normal_thn ?_
  refine aw_seq ?_
  refine aw_region ?_
  refine g_u (s_as_imm rfl rfl) ?_
  refine g_nil ?_
  refine normal_thn ?_
  refine aw_seq ?_
  refine aw_seq ?_
  refine aw_newtok 3003 3 3 rfl rfl rfl rfl ?_
  refine aw_region ?_
  refine g_u (s_as_imm rfl rfl) ?_
  refine g_nil ?_
  refine normal_thn ?_
  refine aw_block ?_
  refine aw_loop' (fun i : Nat => [(1, .ptr 1001 0), (1001, .box 24 (.imm (batchAv b))), (3, .slg 3003 3 (((plR 0 (b.take i))).map plav)), (3003, .tok 3 (((plR 0 (b.take i))).map plav)), (4, .imm (iv (i : Int)))]) (fun i => i ≤ b.length) (fun i => b.length - i) (0) ?_ ⟨rfl, rfl, rfl, rfl, rfl, trivial⟩ ?_
  · exact Nat.zero_le _
  · rintro i h1; have h1 : i ≤ b.length := h1
    refine aw_seq ?_
    refine aw_seq ?_
    refine aw_region ?_
    refine g_u (s_mv_imm rfl rfl) ?_
    refine g_u (s_fieldAddr rfl rfl fa24_0 rfl) ?_
    refine g_u (s_load_imm rfl rfl rfl tA22 tS22 rfl rfl) ?_
    refine g_u (s_lenL rfl rfl Tryd.underlying22) ?_
    refine g_u (s_ltI rfl rfl rfl) ?_
    refine g_nil ?_
    refine normal_thn ?_
    refine aw_cond rfl (fun hb1 => ?_) (fun hb1 => ?_)
    · skip
      have hi : i < b.length := by have := of_decide_eq_true hb1; (try simp only [List.length_map] at this); omega
      have hrx := sumBy_mem GRes.wt (nthR_mem hi)
      have hrq : (nthR b i).wt = 1 + wtAs (nthR b i).attrs + sumBy GScope.wt (nthR b i).scopes := rfl
      have hcl := sumBy_len GScope.wt (fun e => by unfold GScope.wt; omega) (nthR b i).scopes
      have hl1 : (plR 0 (b.take i)).length ≤ 9000000 := by have h1 := plR_len 0 (b.take i); have h2 := sumBy_take GRes.wt b i; omega
      refine aw_skip ?_
      refine normal_thn ?_
      refine aw_seq ?_
      refine aw_block ?_
      refine aw_seq ?_
      refine aw_region ?_
      refine g_u (s_as_imm rfl rfl) ?_
      refine g_nil ?_
      refine normal_thn ?_
      refine aw_block ?_
      refine aw_loop' (fun k : Nat => [(1, .ptr 1001 0), (1001, .box 24 (.imm (batchAv b))), (3, .slg 3003 3 (((plR 0 (b.take i)) ++ (plC i 0 ((nthR b i).scopes.take k))).map plav)), (3003, .tok 3 (((plR 0 (b.take i)) ++ (plC i 0 ((nthR b i).scopes.take k))).map plav)), (4, .imm (iv (i : Int))), (5, .imm (iv (k : Int)))]) (fun k => k ≤ (nthR b i).scopes.length) (fun k => (nthR b i).scopes.length - k) (0) ?_ ⟨rfl, rfl, look_slg rfl (by simp [plC]), look_tok rfl (by simp [plC]), rfl, rfl, trivial⟩ ?_
      · exact Nat.zero_le _
      · rintro k g1; have g1 : k ≤ (nthR b i).scopes.length := g1
        refine aw_seq ?_
        refine aw_seq ?_
        refine aw_region ?_
        refine g_u (s_mv_imm rfl rfl) ?_
        refine g_u (s_fieldAddr rfl rfl fa24_0 rfl) ?_
        refine g_u (s_load_imm rfl rfl rfl tA22 tS22 rfl rfl) ?_
        refine g_u (s_mv_imm rfl rfl) ?_
        refine g_u (s_indexAddr rfl rfl rfl Tryd.underlying22 tS47 (by omega) (ixR hi)) ?_
        refine g_u (s_fieldAddr_cp rfl rfl fa47_1 rfl rfl) ?_
        refine g_u (s_load_cp rfl rfl tA45 tS45 rfl rfl) ?_
        refine g_u (s_lenL rfl rfl Tryd.underlying45) ?_
        refine g_u (s_ltI rfl rfl rfl) ?_
        refine g_nil ?_
        refine normal_thn ?_
        refine aw_cond rfl (fun hb2 => ?_) (fun hb2 => ?_)
        · skip
          have hk : k < (nthR b i).scopes.length := by have := of_decide_eq_true hb2; (try simp only [List.length_map] at this); omega
          have hcx := sumBy_mem GScope.wt (nthC_mem hk)
          have hcq : (nthC (nthR b i).scopes k).wt = 1 + (nthC (nthR b i).scopes k).name.size + (nthC (nthR b i).scopes k).version.size + sumBy GSpan.wt (nthC (nthR b i).scopes k).spans := rfl
          have hsl := sumBy_len GSpan.wt (fun e => by unfold GSpan.wt; omega) (nthC (nthR b i).scopes k).spans
          have hl2 : (plC i 0 ((nthR b i).scopes.take k)).length ≤ 9000000 := by have h1 := plC_len i 0 ((nthR b i).scopes.take k); have h2 := spansOf_len ((nthR b i).scopes.take k); have h3 := sumBy_take GScope.wt (nthR b i).scopes k; omega
          refine aw_skip ?_
          refine normal_thn ?_
          refine aw_seq ?_
          refine aw_block ?_
          refine aw_seq ?_
          refine aw_region ?_
          refine g_u (s_as_imm rfl rfl) ?_
          refine g_nil ?_
          refine normal_thn ?_
          refine aw_block ?_
          refine aw_loop' (fun m : Nat => [(1, .ptr 1001 0), (1001, .box 24 (.imm (batchAv b))), (3, .slg 3003 3 (((plR 0 (b.take i)) ++ (plC i 0 ((nthR b i).scopes.take k)) ++ ((List.range m).map fun m => (i, k, m))).map plav)), (3003, .tok 3 (((plR 0 (b.take i)) ++ (plC i 0 ((nthR b i).scopes.take k)) ++ ((List.range m).map fun m => (i, k, m))).map plav)), (4, .imm (iv (i : Int))), (5, .imm (iv (k : Int))), (6, .imm (iv (m : Int)))]) (fun m => m ≤ (nthC (nthR b i).scopes k).spans.length) (fun m => (nthC (nthR b i).scopes k).spans.length - m) (0) ?_ ⟨rfl, rfl, look_slg rfl (by simp), look_tok rfl (by simp), rfl, rfl, rfl, trivial⟩ ?_
          · exact Nat.zero_le _
          · rintro m f1; have f1 : m ≤ (nthC (nthR b i).scopes k).spans.length := f1
            refine aw_seq ?_
            refine aw_seq ?_
            refine aw_region ?_
            refine g_u (s_mv_imm rfl rfl) ?_
            refine g_u (s_fieldAddr rfl rfl fa24_0 rfl) ?_
            refine g_u (s_load_imm rfl rfl rfl tA22 tS22 rfl rfl) ?_
            refine g_u (s_mv_imm rfl rfl) ?_
            refine g_u (s_indexAddr rfl rfl rfl Tryd.underlying22 tS47 (by omega) (ixR hi)) ?_
            refine g_u (s_fieldAddr_cp rfl rfl fa47_1 rfl rfl) ?_
            refine g_u (s_load_cp rfl rfl tA45 tS45 rfl rfl) ?_
            refine g_u (s_mv_imm rfl rfl) ?_
            refine g_u (s_indexAddr rfl rfl rfl Tryd.underlying45 tS52 (by omega) (ixC hk)) ?_
            refine g_u (s_fieldAddr_cp rfl rfl fa52_2 rfl rfl) ?_
            refine g_u (s_load_cp rfl rfl tA50 tS50 rfl rfl) ?_
            refine g_u (s_lenL rfl rfl Tryd.underlying50) ?_
            refine g_u (s_ltI rfl rfl rfl) ?_
            refine g_nil ?_
            refine normal_thn ?_
            refine aw_cond rfl (fun hb3 => ?_) (fun hb3 => ?_)
            · skip
              have hm : m < (nthC (nthR b i).scopes k).spans.length := by have := of_decide_eq_true hb3; (try simp only [List.length_map] at this); omega
              refine aw_skip ?_
              refine normal_thn ?_
              refine aw_seq ?_
              refine aw_block ?_
              refine aw_region ?_
              refine g_u (s_mv_slg rfl rfl) ?_
              refine g_u (s_mv_imm rfl rfl) ?_
              refine g_u (s_mv_imm rfl rfl) ?_
              refine g_u (s_mv_imm rfl rfl) ?_
              refine g_u (s_build rfl tU108 us108 pl108 rfl rfl rfl rfl) ?_
              refine g_u (s_buildSlice (X0 := z108) rfl Tryd.underlying105 tS108 tZ108 rfl rfl rfl rfl rfl rfl rfl rfl) ?_
              refine g_u (s_append rfl rfl rfl rfl rfl Tryd.underlying105 Tryd.underlying105 tS108 zv108 rfl (by decide) by108 (by (try dsimp only); simp only [List.length_append, List.length_cons, List.length_nil, List.length_map, List.length_range]; omega) (by (try dsimp only); simp only [List.length_append, List.length_cons, List.length_nil, List.length_map, List.length_range]; omega)) ?_
              refine g_u (s_as_slg rfl rfl) ?_
              refine g_nil ?_
              refine normal_blk ?_
              refine normal_thn ?_
              refine aw_region ?_
              refine g_u (s_mv_imm rfl rfl) ?_
              refine g_u (s_add rfl rfl rfl) ?_
              refine g_u (s_as_imm rfl rfl) ?_
              refine g_nil ?_
              refine normal_thn ?_
              have et : (((plR 0 (b.take i)) ++ (plC i 0 ((nthR b i).scopes.take k)) ++ ((List.range (m + 1)).map fun m => (i, k, m))).map plav) = (((plR 0 (b.take i)) ++ (plC i 0 ((nthR b i).scopes.take k)) ++ ((List.range m).map fun m => (i, k, m))).map plav) ++ [plav (i, k, m)] := by rw [range_snoc, ← List.append_assoc, List.map_append]; rfl
              refine ⟨m + 1, hm, ⟨rfl, rfl, look_slg rfl et.symm, look_tok rfl et.symm, rfl, rfl, look_int rfl (by rw [wrap64 (by omega) (by omega)]; rfl), trivial⟩, by (try dsimp only); omega⟩
            · skip
              have hmn : m = (nthC (nthR b i).scopes k).spans.length := by have := of_decide_eq_false hb3; (try simp only [List.length_map] at this); omega
              refine aw_exit ?_
              refine exit_thn ?_
              refine exit_thn ?_
              refine exit_blk ?_
              refine normal_blk ?_
              refine normal_thn ?_
              refine aw_region ?_
              refine g_u (s_mv_imm rfl rfl) ?_
              refine g_u (s_add rfl rfl rfl) ?_
              refine g_u (s_as_imm rfl rfl) ?_
              refine g_nil ?_
              refine normal_thn ?_
              have et : (((plR 0 (b.take i)) ++ (plC i 0 ((nthR b i).scopes.take (k + 1)))).map plav) = (((plR 0 (b.take i)) ++ (plC i 0 ((nthR b i).scopes.take k)) ++ ((List.range m).map fun m => (i, k, m))).map plav) := by rw [plC_take hk, hmn, List.append_assoc]
              refine ⟨k + 1, hk, ⟨rfl, rfl, look_slg rfl et.symm, look_tok rfl et.symm, rfl, look_int rfl (by rw [wrap64 (by omega) (by omega)]; rfl), trivial⟩, by (try dsimp only); omega⟩
        · skip
          have hkn : k = (nthR b i).scopes.length := by have := of_decide_eq_false hb2; (try simp only [List.length_map] at this); omega
          refine aw_exit ?_
          refine exit_thn ?_
          refine exit_thn ?_
          refine exit_blk ?_
          refine normal_blk ?_
          refine normal_thn ?_
          refine aw_region ?_
          refine g_u (s_mv_imm rfl rfl) ?_
          refine g_u (s_add rfl rfl rfl) ?_
          refine g_u (s_as_imm rfl rfl) ?_
          refine g_nil ?_
          refine normal_thn ?_
          have et : ((plR 0 (b.take (i + 1))).map plav) = (((plR 0 (b.take i)) ++ (plC i 0 ((nthR b i).scopes.take k))).map plav) := by rw [plR_take hi, hkn, List.take_length]
          refine ⟨i + 1, hi, ⟨rfl, rfl, look_slg rfl et.symm, look_tok rfl et.symm, look_int rfl (by rw [wrap64 (by omega) (by omega)]; rfl), trivial⟩, by (try dsimp only); omega⟩
    · skip
      have hin : i = b.length := by have := of_decide_eq_false hb1; (try simp only [List.length_map] at this); omega
      refine aw_exit ?_
      refine exit_thn ?_
      refine exit_thn ?_
      refine exit_blk ?_
      refine normal_thn ?_
      refine aw_seq ?_
      refine aw_region ?_
      refine g_u (s_mv_slg rfl rfl) ?_
      refine g_u (s_as_slg rfl rfl) ?_
      refine g_nil ?_
      refine normal_thn ?_
      refine aw_ret ?_
      exact ⟨⟨(rfl : toAV (Al.look _ _) = some _).trans (congrArg some (by (rw [hin, List.take_length]))), rfl⟩, trivial⟩

set_option maxHeartbeats 8000000 in
theorem rnjB_c (b : List GRes) (ho : okB b) (hw : wtB b ≤ 9000000) (hr : ∀ r ∈ b, risA none r.attrs) : PCall Tryd.prog Γ0 30 [batchAv b] [batchAv (njB b)] := by
  have ql := sumBy_len GRes.wt (fun e => by unfold GRes.wt; omega) b
  have qw : wtB b = sumBy GRes.wt b := rfl
  refine pcall_of Tryd.func30 rfl Tryd.ntmps30 (by kernel_rfl) rfl fun w0 I0 G0 => ?_
  refine aw_seq ?_
  refine aw_region ?_
  refine g_uG (s_box_imm 1001 rfl rfl rfl rfl) rfl ?_
  refine g_uG (s_alloc' 1002 rfl rfl rfl tZ24) rfl ?_
  refine g_nil ?_
  refine normal_thn ?_
  refine aw_seq ?_
  refine aw_region ?_
  refine g_uG (s_alloc' 1003 rfl rfl rfl tZ24) rfl ?_
  refine g_nil ?_
  refine normal_thn ?_
  refine aw_seq ?_
  refine aw_seq ?_
  refine aw_newtokB 3099 1003 2 0 rfl rfl rfl rfl rfl rfl rfl ?_
  refine aw_region ?_
  refine g_u (s_as_imm rfl rfl) ?_
  refine g_nil ?_
  refine normal_thn ?_
  refine aw_block ?_
  refine aw_loop' (fun i : Nat => [(1, .ptr 1001 0), (1001, .box 24 (.imm (batchAv b))), (2, .ptr 1002 0), (1002, .box 24 (.imm z24)), (3, .ptr 1003 0), (1003, .box 24 (.agg [.slg 3099 2 ((b.take i).map fun r => (njR r).av)])), (3099, .tok 2 ((b.take i).map fun r => (njR r).av)), (4, .imm (iv (i : Int)))]) (fun i => i ≤ b.length) (fun i => b.length - i) (0) ?_ ⟨rfl, rfl, rfl, rfl, rfl, rfl, rfl, rfl, trivial⟩ ?_
  · exact Nat.zero_le _
  · rintro i h1; have h1 : i ≤ b.length := h1
    refine aw_seq ?_
    refine aw_seq ?_
    refine aw_region ?_
    refine g_u (s_mv_imm rfl rfl) ?_
    refine g_u (s_fieldAddr rfl rfl fa24_0 rfl) ?_
    refine g_u (s_load_imm rfl rfl rfl tA22 tS22 rfl rfl) ?_
    refine g_u (s_lenL rfl rfl Tryd.underlying22) ?_
    refine g_u (s_ltI rfl rfl rfl) ?_
    refine g_nil ?_
    refine normal_thn ?_
    refine aw_cond rfl (fun hb1 => ?_) (fun hb1 => ?_)
    · skip
      have hi : i < b.length := by have := of_decide_eq_true hb1; (try simp only [List.length_map] at this); omega
      have hrx := sumBy_mem GRes.wt (nthR_mem hi)
      have hro := ho _ (nthR_mem hi)
      have hrr := hr _ (nthR_mem hi)
      have hrq : (nthR b i).wt = 1 + wtAs (nthR b i).attrs + sumBy GScope.wt (nthR b i).scopes := rfl
      have hkr := ris_kept [] hrr
      have hkl : (keptA [] (nthR b i).attrs).length ≤ (nthR b i).attrs.length := by unfold keptA; have := dropA_len [] ((nthR b i).attrs.map (plainA nJ)); rw [List.length_map] at this; exact this
      have qa := len_wtAs (nthR b i).attrs
      have qsp := spansOf_len (nthR b i).scopes
      have hpl : (plR 0 [(nthR b i)]).length = (spansOf (nthR b i).scopes).length := by rw [plR_one, plC_len]
      have hps : ((plR 0 [(nthR b i)]).map fun p => (njS (nthS (nthC (nthR b i).scopes p.2.1).spans p.2.2)).av) = ((spansOf (nthR b i).scopes).map njS).map GSpan.av := by rw [plR_one, List.map_map, ← plC_spans 0 (nthR b i).scopes [], List.map_map]; rfl
      have hw1 : wtB [(nthR b i)] ≤ 9000000 := by show sumBy GRes.wt [(nthR b i)] ≤ _; simp only [sumBy]; omega
      refine aw_skip ?_
      refine normal_thn ?_
      refine aw_seq ?_
      refine aw_block ?_
      refine aw_seq ?_
      refine aw_region ?_
      refine g_u (s_fieldAddr rfl rfl fa24_0 rfl) ?_
      refine g_u (s_load_imm rfl rfl rfl tA22 tS22 rfl rfl) ?_
      refine g_u (s_mv_imm rfl rfl) ?_
      refine g_u (s_indexAddr rfl rfl rfl Tryd.underlying22 tS47 (by omega) (ixR hi)) ?_
      refine g_u (s_load_cp rfl rfl tA47 tS47 rfl rfl) ?_
      refine g_uG (s_alloc' 1005 rfl rfl rfl tZ47) rfl ?_
      refine g_u (s_store_imm rfl rfl rfl tS47 rfl rfl) ?_
      refine g_nil ?_
      refine normal_thn ?_
      refine aw_seq ?_
      refine aw_region ?_
      refine g_u (s_load_agg rfl rfl rfl tA47 tS47 rfl rfl) ?_
      refine g_u (s_buildSlice (X0 := z47) rfl Tryd.underlying22 tS47 tZ47 rfl rfl rfl rfl rfl rfl rfl rfl) ?_
      refine g_u (s_build rfl tU24 us24 pl24 rfl rfl rfl rfl) ?_
      refine g_u (s_call1 (places_c [(nthR b i)] hw1) rfl rfl) ?_
      refine g_u (s_as_imm rfl rfl) ?_
      refine g_nil ?_
      refine normal_thn ?_
      refine aw_seq ?_
      refine aw_draw mixed ?_
      refine g_u (s_fieldAddr rfl rfl fa47_0 rfl) ?_
      refine g_u (s_load_imm rfl rfl rfl tA30 tS30 rfl rfl) ?_
      refine g_u (s_call1 (nil2nd (n := 1) (rkept_c (nthR b i).attrs [] hro.1 (by omega) (by decide))) rfl rfl) ?_
      refine g_u (s_load_agg rfl rfl rfl tA47 tS47 rfl rfl) ?_
      refine g_u (s_call1 (rservice_c (nthR b i) hro.1 (by omega)) rfl rfl) ?_
      refine g_u (s_call1 (rnamed_c (keptA [] (nthR b i).attrs) (serviceM (nthR b i)) hkr (by omega)) rfl rfl) ?_
      refine g_u (s_build rfl tU47 us47 pl47 rfl rfl rfl rfl) ?_
      refine g_uG (s_alloc' 1007 rfl rfl rfl tZ47) rfl ?_
      refine g_u (s_store_imm rfl rfl rfl tS47 rfl rfl) ?_
      refine g_nil ⟨by kernel_rfl, ?_⟩
      refine normal_thn ?_
      refine aw_seq ?_
      refine aw_region ?_
      refine g_u (s_as_imm rfl rfl) ?_
      refine g_nil ?_
      refine normal_thn ?_
      refine aw_seq ?_
      refine aw_seq ?_
      refine aw_newtok 3008 8 42 rfl rfl rfl rfl ?_
      refine aw_region ?_
      refine g_u (s_as_imm rfl rfl) ?_
      refine g_nil ?_
      refine normal_thn ?_
      refine aw_block ?_
      refine aw_loop' (fun k : Nat => [(1, .ptr 1001 0), (1001, .box 24 (.imm (batchAv b))), (2, .ptr 1002 0), (1002, .box 24 (.imm z24)), (3, .ptr 1003 0), (1003, .box 24 (.agg [.slg 3099 2 ((b.take i).map fun r => (njR r).av)])), (3099, .tok 2 ((b.take i).map fun r => (njR r).av)), (4, .imm (iv (i : Int))), (5, .ptr 1005 0), (1005, .box 47 (.imm (nthR b i).av)), (6, .imm (.sl 3 ((plR 0 [(nthR b i)]).map plav))), (7, .ptr 1007 0), (1007, .box 47 (.imm (.agg [.sl 7 ((namedM (keptA [] (nthR b i).attrs) (serviceM (nthR b i))).map avA), .sl 3 []]))), (8, .slg 3008 42 (((plR 0 [(nthR b i)]).take k).map fun p => (njS (nthS (nthC (nthR b i).scopes p.2.1).spans p.2.2)).av)), (3008, .tok 42 (((plR 0 [(nthR b i)]).take k).map fun p => (njS (nthS (nthC (nthR b i).scopes p.2.1).spans p.2.2)).av)), (9, .imm (iv (k : Int)))]) (fun k => k ≤ (plR 0 [(nthR b i)]).length) (fun k => (plR 0 [(nthR b i)]).length - k) (0) ?_ ⟨rfl, rfl, rfl, rfl, rfl, rfl, rfl, rfl, rfl, rfl, rfl, rfl, rfl, rfl, rfl, rfl, trivial⟩ ?_
      · exact Nat.zero_le _
      · rintro k g1; have g1 : k ≤ (plR 0 [(nthR b i)]).length := g1
        refine aw_seq ?_
        refine aw_seq ?_
        refine aw_region ?_
        refine g_u (s_mv_imm rfl rfl) ?_
        refine g_u (s_mv_imm rfl rfl) ?_
        refine g_u (s_lenL rfl rfl Tryd.underlying105) ?_
        refine g_u (s_ltI rfl rfl rfl) ?_
        refine g_nil ?_
        refine normal_thn ?_
        refine aw_cond rfl (fun hb2 => ?_) (fun hb2 => ?_)
        · skip
          have hk : k < (plR 0 [(nthR b i)]).length := by have := of_decide_eq_true hb2; (try simp only [List.length_map] at this); omega
          have hkm : (nthP (plR 0 [(nthR b i)]) k) ∈ plC 0 ([] : List GScope).length (nthR b i).scopes := by have := nthP_mem hk; rw [plR_one] at this ⊢; exact this
          have hk1 : (nthP (plR 0 [(nthR b i)]) k).2.1 < (nthR b i).scopes.length := (plC_mem hkm).1
          have hk2 : (nthP (plR 0 [(nthR b i)]) k).2.2 < (nthC (nthR b i).scopes (nthP (plR 0 [(nthR b i)]) k).2.1).spans.length := (plC_mem hkm).2
          have hcx := sumBy_mem GScope.wt (nthC_mem hk1)
          have hcq : (nthC (nthR b i).scopes (nthP (plR 0 [(nthR b i)]) k).2.1).wt = 1 + (nthC (nthR b i).scopes (nthP (plR 0 [(nthR b i)]) k).2.1).name.size + (nthC (nthR b i).scopes (nthP (plR 0 [(nthR b i)]) k).2.1).version.size + sumBy GSpan.wt (nthC (nthR b i).scopes (nthP (plR 0 [(nthR b i)]) k).2.1).spans := rfl
          have hsx := sumBy_mem GSpan.wt (nthS_mem hk2)
          have hso := (hro.2 _ (nthC_mem hk1)).2.2 _ (nthS_mem hk2)
          refine aw_skip ?_
          refine normal_thn ?_
          refine aw_seq ?_
          refine aw_block ?_
          refine aw_draw mixed ?_
          refine g_u (s_mv_slg rfl rfl) ?_
          refine g_u (s_fieldAddr rfl rfl fa47_1 rfl) ?_
          refine g_u (s_load_imm rfl rfl rfl tA45 tS45 rfl rfl) ?_
          refine g_u (s_mv_imm rfl rfl) ?_
          refine g_u (s_mv_imm rfl rfl) ?_
          refine g_u (s_indexAddr rfl rfl rfl Tryd.underlying105 tS108 (by omega) (ixP hk)) ?_
          refine g_u (s_fieldAddr_cp rfl rfl fa108_1 rfl rfl) ?_
          refine g_u (s_load_cp rfl rfl tA3 tS3 rfl rfl) ?_
          refine g_u (s_indexAddr rfl rfl rfl Tryd.underlying45 tS52 (by omega) (ixC hk1)) ?_
          refine g_u (s_fieldAddr_cp rfl rfl fa52_2 rfl rfl) ?_
          refine g_u (s_load_cp rfl rfl tA50 tS50 rfl rfl) ?_
          refine g_u (s_mv_imm rfl rfl) ?_
          refine g_u (s_mv_imm rfl rfl) ?_
          refine g_u (s_indexAddr rfl rfl rfl Tryd.underlying105 tS108 (by omega) (ixP hk)) ?_
          refine g_u (s_fieldAddr_cp rfl rfl fa108_2 rfl rfl) ?_
          refine g_u (s_load_cp rfl rfl tA3 tS3 rfl rfl) ?_
          refine g_u (s_indexAddr rfl rfl rfl Tryd.underlying50 tS36 (by omega) (ixS hk2)) ?_
          refine g_u (s_load_cp rfl rfl tA36 tS36 rfl (by first | exact getS_w (GSpan.width _) rfl | rfl)) ?_
          refine g_u (s_call1 (rnjS_c _ hso (by omega)) rfl rfl) ?_
          refine g_u (s_buildSlice (X0 := z36) rfl Tryd.underlying50 tS36 tZ36 rfl rfl rfl rfl rfl rfl rfl rfl) ?_
          refine g_u (s_append rfl rfl rfl rfl rfl Tryd.underlying50 Tryd.underlying50 tS36 zv36 rfl (by decide) by36 (by (try dsimp only); simp only [List.length_append, List.length_cons, List.length_nil, List.length_map, List.length_take, List.length_drop]; omega) (by (try dsimp only); simp only [List.length_append, List.length_cons, List.length_nil, List.length_map, List.length_take, List.length_drop]; omega)) ?_
          refine g_u (s_as_slg rfl rfl) ?_
          refine g_nil ⟨by kernel_rfl, ?_⟩
          refine normal_blk ?_
          refine normal_thn ?_
          refine aw_region ?_
          refine g_u (s_mv_imm rfl rfl) ?_
          refine g_u (s_add rfl rfl rfl) ?_
          refine g_u (s_as_imm rfl rfl) ?_
          refine g_nil ?_
          refine normal_thn ?_
          have eu : (((plR 0 [(nthR b i)]).take (k + 1)).map fun p => (njS (nthS (nthC (nthR b i).scopes p.2.1).spans p.2.2)).av) = (((plR 0 [(nthR b i)]).take k).map fun p => (njS (nthS (nthC (nthR b i).scopes p.2.1).spans p.2.2)).av) ++ [(njS (nthS (nthC (nthR b i).scopes (nthP (plR 0 [(nthR b i)]) k).2.1).spans (nthP (plR 0 [(nthR b i)]) k).2.2)).av] := by rw [take_snoc (nth_get (d := p00) hk), List.map_append]; rfl
          refine ⟨k + 1, hk, ⟨rfl, rfl, rfl, rfl, rfl, rfl, rfl, rfl, rfl, rfl, rfl, rfl, rfl, look_slg rfl eu.symm, look_tok rfl eu.symm, look_int rfl (by rw [wrap64 (by omega) (by omega)]; rfl), trivial⟩, by (try dsimp only); omega⟩
        · skip
          have hkn : k = (plR 0 [(nthR b i)]).length := by have := of_decide_eq_false hb2; (try simp only [List.length_map] at this); omega
          refine aw_exit ?_
          refine exit_thn ?_
          refine exit_thn ?_
          refine exit_blk ?_
          refine normal_thn ?_
          refine aw_seq ?_
          refine aw_seq ?_
          refine aw_region ?_
          refine g_u (s_mv_slg rfl rfl) ?_
          refine g_u (s_lenL rfl rfl Tryd.underlying50) ?_
          refine g_u (s_gtI rfl rfl rfl) ?_
          refine g_nil ?_
          refine normal_thn ?_
          refine aw_cond rfl (fun hb3 => ?_) (fun hb3 => ?_)
          · skip
            have hfull : (((plR 0 [(nthR b i)]).take k).map fun p => (njS (nthS (nthC (nthR b i).scopes p.2.1).spans p.2.2)).av) = ((spansOf (nthR b i).scopes).map njS).map GSpan.av := by rw [hkn, List.take_length]; exact hps
            have et : ((b.take (i + 1)).map fun r => (njR r).av) = ((b.take i).map fun r => (njR r).av) ++ [.agg [.sl 7 ((namedM (keptA [] (nthR b i).attrs) (serviceM (nthR b i))).map avA), .sl 3 [.agg [sv ⟨#[]⟩, sv ⟨#[]⟩, .sl 42 (((plR 0 [(nthR b i)]).take k).map fun p => (njS (nthS (nthC (nthR b i).scopes p.2.1).spans p.2.2)).av)]]]] := by rw [take_snoc (nth_get (d := gr0) hi), List.map_append]; refine congrArg (_ ++ ·) ?_; show [(njR (nthR b i)).av] = _; unfold njR scopeJ; rw [if_pos (by have e := of_decide_eq_true hb3; simp only [List.length_map, List.length_take] at e ⊢; omega)]; rw [hfull]; rfl
            refine aw_region ?_
            refine g_u (s_mv_slg rfl rfl) ?_
            refine g_u (s_build rfl tU52 us52 pl52 rfl rfl rfl rfl) ?_
            refine g_u (s_buildSlice (X0 := z52) rfl Tryd.underlying45 tS52 tZ52 rfl rfl rfl rfl rfl rfl rfl rfl) ?_
            refine g_u (s_fieldAddr rfl rfl fa47_1 rfl) ?_
            refine g_u (s_store rfl rfl rfl rfl tS45 rfl rfl) ?_
            refine g_nil ?_
            refine normal_thn ?_
            refine aw_region ?_
            refine g_u (s_fieldAddr rfl rfl fa24_0 rfl) ?_
            refine g_u (s_load_slg rfl rfl rfl tA22 tS22 rfl rfl) ?_
            refine g_u (s_load_agg rfl rfl rfl tA47 tS47 rfl rfl) ?_
            refine g_u (s_buildSlice (X0 := z47) rfl Tryd.underlying22 tS47 tZ47 rfl rfl rfl rfl rfl rfl rfl rfl) ?_
            refine g_u (s_append rfl rfl rfl rfl rfl Tryd.underlying22 Tryd.underlying22 tS47 zv47 rfl (by decide) by47 (by (try dsimp only); simp only [List.length_append, List.length_cons, List.length_nil, List.length_map, List.length_take, List.length_drop]; omega) (by (try dsimp only); simp only [List.length_append, List.length_cons, List.length_nil, List.length_map, List.length_take, List.length_drop]; omega)) ?_
            refine g_u (s_fieldAddr rfl rfl fa24_0 rfl) ?_
            refine g_u (s_store rfl rfl rfl rfl tS22 rfl rfl) ?_
            refine g_nil ?_
            refine normal_blk ?_
            refine normal_thn ?_
            refine aw_region ?_
            refine g_u (s_mv_imm rfl rfl) ?_
            refine g_u (s_add rfl rfl rfl) ?_
            refine g_u (s_as_imm rfl rfl) ?_
            refine g_nil ?_
            refine normal_thn ?_
            refine ⟨i + 1, hi, ⟨rfl, rfl, rfl, rfl, rfl, (by rw [et]; rfl), look_tok rfl et.symm, look_int rfl (by rw [wrap64 (by omega) (by omega)]; rfl), trivial⟩, by (try dsimp only); omega⟩
          · skip
            have et : ((b.take (i + 1)).map fun r => (njR r).av) = ((b.take i).map fun r => (njR r).av) ++ [.agg [.sl 7 ((namedM (keptA [] (nthR b i).attrs) (serviceM (nthR b i))).map avA), .sl 3 []]] := by rw [take_snoc (nth_get (d := gr0) hi), List.map_append]; refine congrArg (_ ++ ·) ?_; show [(njR (nthR b i)).av] = _; unfold njR scopeJ; rw [if_neg (by have e := of_decide_eq_false hb3; simp only [List.length_map, List.length_take] at e ⊢; omega)]; rfl
            refine aw_skip ?_
            refine normal_thn ?_
            refine aw_region ?_
            refine g_u (s_fieldAddr rfl rfl fa24_0 rfl) ?_
            refine g_u (s_load_slg rfl rfl rfl tA22 tS22 rfl rfl) ?_
            refine g_u (s_load_imm rfl rfl rfl tA47 tS47 rfl rfl) ?_
            refine g_u (s_buildSlice (X0 := z47) rfl Tryd.underlying22 tS47 tZ47 rfl rfl rfl rfl rfl rfl rfl rfl) ?_
            refine g_u (s_append rfl rfl rfl rfl rfl Tryd.underlying22 Tryd.underlying22 tS47 zv47 rfl (by decide) by47 (by (try dsimp only); simp only [List.length_append, List.length_cons, List.length_nil, List.length_map, List.length_take, List.length_drop]; omega) (by (try dsimp only); simp only [List.length_append, List.length_cons, List.length_nil, List.length_map, List.length_take, List.length_drop]; omega)) ?_
            refine g_u (s_fieldAddr rfl rfl fa24_0 rfl) ?_
            refine g_u (s_store rfl rfl rfl rfl tS22 rfl rfl) ?_
            refine g_nil ?_
            refine normal_blk ?_
            refine normal_thn ?_
            refine aw_region ?_
            refine g_u (s_mv_imm rfl rfl) ?_
            refine g_u (s_add rfl rfl rfl) ?_
            refine g_u (s_as_imm rfl rfl) ?_
            refine g_nil ?_
            refine normal_thn ?_
            refine ⟨i + 1, hi, ⟨rfl, rfl, rfl, rfl, rfl, (by rw [et]; rfl), look_tok rfl et.symm, look_int rfl (by rw [wrap64 (by omega) (by omega)]; rfl), trivial⟩, by (try dsimp only); omega⟩
    · skip
      have hin : i = b.length := by have := of_decide_eq_false hb1; (try simp only [List.length_map] at this); omega
      refine aw_exit ?_
      refine exit_thn ?_
      refine exit_thn ?_
      refine exit_blk ?_
      refine normal_thn ?_
      refine aw_seq ?_
      refine aw_region ?_
      refine g_u (s_load_agg rfl rfl rfl tA24 tS24 rfl rfl) ?_
      refine g_u (s_store_imm rfl rfl rfl tS24 rfl rfl) ?_
      refine g_nil ?_
      refine normal_thn ?_
      refine aw_ret ?_
      exact ⟨⟨_, _, _, _, _, _, _, rfl, rfl, tA24, tS24, rfl, rfl, (rfl : toAV _ = some _).trans (congrArg some (by (rw [hin, List.take_length]; show AV.agg [.sl 2 _] = AV.agg [.sl 2 ((b.map njR).map GRes.av)]; rw [List.map_map]; rfl)))⟩, trivial⟩

end Go.Proofs

namespace Go.Proofs
open Go Go.Al
set_option maxRecDepth 10000
theorem eq26 (a b : List UInt8) : eqV Tryd.prog 100 26 (.arr 16 a) (.arr 16 b) = some (a == b) := by kernel_rfl
theorem eq28 (a b : List UInt8) : eqV Tryd.prog 100 28 (.arr 8 a) (.arr 8 b) = some (a == b) := by kernel_rfl
theorem eq34 (c d : Int) (m n : ByteArray) : eqV Tryd.prog 100 34 (.agg [iv c, sv m]) (.agg [iv d, sv n]) = some ((c == d) && ((m.toList == n.toList) && true)) := by kernel_rfl

set_option maxHeartbeats 4000000 in
theorem rsameS_c (a b : GSpan) (hw : a.wt ≤ 1000000000) : PCall Tryd.prog Γ0 31 [a.av, b.av] [bv (decide (a = b))] := by
  have qw : a.wt = 1 + a.state.size + a.name.size + a.note.size + wtAs a.attrs + sumBy GE.wt a.events + sumBy GL.wt a.links := rfl
  have ql := sumBy_len GE.wt (fun e => by unfold GE.wt; omega) a.events
  have qm := sumBy_len GL.wt (fun e => by unfold GL.wt; omega) a.links
  refine pcall_of Tryd.func31 rfl Tryd.ntmps31 (by kernel_rfl) rfl fun w0 I0 G0 => ?_
  refine aw_seq ?_
  refine aw_region ?_
  refine g_uG (s_box_imm 1002 rfl rfl rfl rfl) rfl ?_
  refine g_uG (s_box_imm 1003 rfl rfl rfl rfl) rfl ?_
  refine g_u (s_as_imm rfl rfl) ?_
  refine g_nil ?_
  refine normal_thn ?_
  refine aw_seq ?_
  refine aw_seq ?_
  refine aw_region ?_
  refine g_u (s_fieldAddr rfl rfl fa36_0 rfl) ?_
  refine g_u (s_load_imm rfl rfl rfl tA26 tS26 rfl rfl) ?_
  refine g_u (s_fieldAddr rfl rfl fa36_0 rfl) ?_
  refine g_u (s_load_imm rfl rfl rfl tA26 tS26 rfl rfl) ?_
  refine g_u (s_neA rfl rfl rfl eg26 rfl rfl (eq26 _ _)) ?_
  refine g_u (s_mv_imm rfl rfl) ?_
  refine g_case (t := 16) rfl ?_
  rintro (hb1 | hb1)
  · rw [hb1]
    have q : ¬ a.trace = b.trace := by have e := hb1; simpa using e
    refine g_skip rfl rfl rfl ?_
    refine g_skip rfl rfl rfl ?_
    refine g_skip rfl rfl rfl ?_
    refine g_skip rfl rfl rfl ?_
    refine g_skip rfl rfl rfl ?_
    refine g_u (s_pick_t rfl rfl rfl) ?_
    refine g_u (s_mv_imm rfl rfl) ?_
    refine g_skip rfl rfl rfl ?_
    refine g_skip rfl rfl rfl ?_
    refine g_skip rfl rfl rfl ?_
    refine g_skip rfl rfl rfl ?_
    refine g_skip rfl rfl rfl ?_
    refine g_u (s_pick_t rfl rfl rfl) ?_
    refine g_u (s_mv_imm rfl rfl) ?_
    refine g_skip rfl rfl rfl ?_
    refine g_skip rfl rfl rfl ?_
    refine g_skip rfl rfl rfl ?_
    refine g_skip rfl rfl rfl ?_
    refine g_skip rfl rfl rfl ?_
    refine g_u (s_pick_t rfl rfl rfl) ?_
    refine g_u (s_mv_imm rfl rfl) ?_
    refine g_skip rfl rfl rfl ?_
    refine g_skip rfl rfl rfl ?_
    refine g_skip rfl rfl rfl ?_
    refine g_skip rfl rfl rfl ?_
    refine g_skip rfl rfl rfl ?_
    refine g_u (s_pick_t rfl rfl rfl) ?_
    refine g_u (s_mv_imm rfl rfl) ?_
    refine g_skip rfl rfl rfl ?_
    refine g_skip rfl rfl rfl ?_
    refine g_skip rfl rfl rfl ?_
    refine g_skip rfl rfl rfl ?_
    refine g_skip rfl rfl rfl ?_
    refine g_u (s_pick_t rfl rfl rfl) ?_
    refine g_u (s_mv_imm rfl rfl) ?_
    refine g_skip rfl rfl rfl ?_
    refine g_skip rfl rfl rfl ?_
    refine g_skip rfl rfl rfl ?_
    refine g_skip rfl rfl rfl ?_
    refine g_skip rfl rfl rfl ?_
    refine g_u (s_pick_t rfl rfl rfl) ?_
    refine g_u (s_mv_imm rfl rfl) ?_
    refine g_skip rfl rfl rfl ?_
    refine g_skip rfl rfl rfl ?_
    refine g_skip rfl rfl rfl ?_
    refine g_skip rfl rfl rfl ?_
    refine g_skip rfl rfl rfl ?_
    refine g_u (s_pick_t rfl rfl rfl) ?_
    refine g_u (s_mv_imm rfl rfl) ?_
    refine g_skip rfl rfl rfl ?_
    refine g_skip rfl rfl rfl ?_
    refine g_skip rfl rfl rfl ?_
    refine g_skip rfl rfl rfl ?_
    refine g_skip rfl rfl rfl ?_
    refine g_u (s_pick_t rfl rfl rfl) ?_
    refine g_nil ?_
    refine normal_thn ?_
    refine aw_cond_true rfl ?_
    refine aw_seq ?_
    refine aw_region ?_
    refine g_u (s_as_imm rfl rfl) ?_
    refine g_nil ?_
    refine normal_thn ?_
    refine aw_ret ?_
    refine ret_thn ?_
    exact ⟨⟨(rfl : toAV (Al.look _ _) = some _).trans (congrArg some (by (exact congrArg bv (by first | exact (decide_eq_false (fun e => q ⟨congrArg GSpan.code e, congrArg GSpan.note e⟩)).symm | exact (decide_eq_false (fun e => q (by rw [e]))).symm | exact (decide_eq_true (GSpan.ext' e0 e1 e2 e3 e4 e5 e6 e7 e9 (ext_nth ge0 e10 (fun j hj => hev j (by omega))) (ext_nth gl0 e11 (fun j hj => h4 j (by omega))) e8.1 e8.2)).symm)))), rfl⟩, trivial⟩
  · rw [hb1]
    have e0 : a.trace = b.trace := by have e := hb1; simpa using e
    refine g_run rfl rfl (s_fieldAddr rfl rfl fa36_1 rfl) ?_
    refine g_run rfl rfl (s_load_imm rfl rfl rfl tA28 tS28 rfl rfl) ?_
    refine g_run rfl rfl (s_fieldAddr rfl rfl fa36_1 rfl) ?_
    refine g_run rfl rfl (s_load_imm rfl rfl rfl tA28 tS28 rfl rfl) ?_
    refine g_run rfl rfl (s_neA rfl rfl rfl eg28 rfl rfl (eq28 _ _)) ?_
    refine g_u (s_pick_f rfl rfl rfl) ?_
    refine g_u (s_mv_imm rfl rfl) ?_
    refine g_case (t := 23) rfl ?_
    rintro (hb2 | hb2)
    · rw [hb2]
      have q : ¬ a.id = b.id := by have e := hb2; simpa using e
      refine g_skip rfl rfl rfl ?_
      refine g_skip rfl rfl rfl ?_
      refine g_skip rfl rfl rfl ?_
      refine g_skip rfl rfl rfl ?_
      refine g_skip rfl rfl rfl ?_
      refine g_u (s_pick_t rfl rfl rfl) ?_
      refine g_u (s_mv_imm rfl rfl) ?_
      refine g_skip rfl rfl rfl ?_
      refine g_skip rfl rfl rfl ?_
      refine g_skip rfl rfl rfl ?_
      refine g_skip rfl rfl rfl ?_
      refine g_skip rfl rfl rfl ?_
      refine g_u (s_pick_t rfl rfl rfl) ?_
      refine g_u (s_mv_imm rfl rfl) ?_
      refine g_skip rfl rfl rfl ?_
      refine g_skip rfl rfl rfl ?_
      refine g_skip rfl rfl rfl ?_
      refine g_skip rfl rfl rfl ?_
      refine g_skip rfl rfl rfl ?_
      refine g_u (s_pick_t rfl rfl rfl) ?_
      refine g_u (s_mv_imm rfl rfl) ?_
      refine g_skip rfl rfl rfl ?_
      refine g_skip rfl rfl rfl ?_
      refine g_skip rfl rfl rfl ?_
      refine g_skip rfl rfl rfl ?_
      refine g_skip rfl rfl rfl ?_
      refine g_u (s_pick_t rfl rfl rfl) ?_
      refine g_u (s_mv_imm rfl rfl) ?_
      refine g_skip rfl rfl rfl ?_
      refine g_skip rfl rfl rfl ?_
      refine g_skip rfl rfl rfl ?_
      refine g_skip rfl rfl rfl ?_
      refine g_skip rfl rfl rfl ?_
      refine g_u (s_pick_t rfl rfl rfl) ?_
      refine g_u (s_mv_imm rfl rfl) ?_
      refine g_skip rfl rfl rfl ?_
      refine g_skip rfl rfl rfl ?_
      refine g_skip rfl rfl rfl ?_
      refine g_skip rfl rfl rfl ?_
      refine g_skip rfl rfl rfl ?_
      refine g_u (s_pick_t rfl rfl rfl) ?_
      refine g_u (s_mv_imm rfl rfl) ?_
      refine g_skip rfl rfl rfl ?_
      refine g_skip rfl rfl rfl ?_
      refine g_skip rfl rfl rfl ?_
      refine g_skip rfl rfl rfl ?_
      refine g_skip rfl rfl rfl ?_
      refine g_u (s_pick_t rfl rfl rfl) ?_
      refine g_nil ?_
      refine normal_thn ?_
      refine aw_cond_true rfl ?_
      refine aw_seq ?_
      refine aw_region ?_
      refine g_u (s_as_imm rfl rfl) ?_
      refine g_nil ?_
      refine normal_thn ?_
      refine aw_ret ?_
      refine ret_thn ?_
      exact ⟨⟨(rfl : toAV (Al.look _ _) = some _).trans (congrArg some (by (exact congrArg bv (by first | exact (decide_eq_false (fun e => q ⟨congrArg GSpan.code e, congrArg GSpan.note e⟩)).symm | exact (decide_eq_false (fun e => q (by rw [e]))).symm | exact (decide_eq_true (GSpan.ext' e0 e1 e2 e3 e4 e5 e6 e7 e9 (ext_nth ge0 e10 (fun j hj => hev j (by omega))) (ext_nth gl0 e11 (fun j hj => h4 j (by omega))) e8.1 e8.2)).symm)))), rfl⟩, trivial⟩
    · rw [hb2]
      have e1 : a.id = b.id := by have e := hb2; simpa using e
      refine g_run rfl rfl (s_fieldAddr rfl rfl fa36_2 rfl) ?_
      refine g_run rfl rfl (s_load_imm rfl rfl rfl tA28 tS28 rfl rfl) ?_
      refine g_run rfl rfl (s_fieldAddr rfl rfl fa36_2 rfl) ?_
      refine g_run rfl rfl (s_load_imm rfl rfl rfl tA28 tS28 rfl rfl) ?_
      refine g_run rfl rfl (s_neA rfl rfl rfl eg28 rfl rfl (eq28 _ _)) ?_
      refine g_u (s_pick_f rfl rfl rfl) ?_
      refine g_u (s_mv_imm rfl rfl) ?_
      refine g_case (t := 30) rfl ?_
      rintro (hb3 | hb3)
      · rw [hb3]
        have q : ¬ a.parent = b.parent := by have e := hb3; simpa using e
        refine g_skip rfl rfl rfl ?_
        refine g_skip rfl rfl rfl ?_
        refine g_skip rfl rfl rfl ?_
        refine g_skip rfl rfl rfl ?_
        refine g_skip rfl rfl rfl ?_
        refine g_u (s_pick_t rfl rfl rfl) ?_
        refine g_u (s_mv_imm rfl rfl) ?_
        refine g_skip rfl rfl rfl ?_
        refine g_skip rfl rfl rfl ?_
        refine g_skip rfl rfl rfl ?_
        refine g_skip rfl rfl rfl ?_
        refine g_skip rfl rfl rfl ?_
        refine g_u (s_pick_t rfl rfl rfl) ?_
        refine g_u (s_mv_imm rfl rfl) ?_
        refine g_skip rfl rfl rfl ?_
        refine g_skip rfl rfl rfl ?_
        refine g_skip rfl rfl rfl ?_
        refine g_skip rfl rfl rfl ?_
        refine g_skip rfl rfl rfl ?_
        refine g_u (s_pick_t rfl rfl rfl) ?_
        refine g_u (s_mv_imm rfl rfl) ?_
        refine g_skip rfl rfl rfl ?_
        refine g_skip rfl rfl rfl ?_
        refine g_skip rfl rfl rfl ?_
        refine g_skip rfl rfl rfl ?_
        refine g_skip rfl rfl rfl ?_
        refine g_u (s_pick_t rfl rfl rfl) ?_
        refine g_u (s_mv_imm rfl rfl) ?_
        refine g_skip rfl rfl rfl ?_
        refine g_skip rfl rfl rfl ?_
        refine g_skip rfl rfl rfl ?_
        refine g_skip rfl rfl rfl ?_
        refine g_skip rfl rfl rfl ?_
        refine g_u (s_pick_t rfl rfl rfl) ?_
        refine g_u (s_mv_imm rfl rfl) ?_
        refine g_skip rfl rfl rfl ?_
        refine g_skip rfl rfl rfl ?_
        refine g_skip rfl rfl rfl ?_
        refine g_skip rfl rfl rfl ?_
        refine g_skip rfl rfl rfl ?_
        refine g_u (s_pick_t rfl rfl rfl) ?_
        refine g_nil ?_
        refine normal_thn ?_
        refine aw_cond_true rfl ?_
        refine aw_seq ?_
        refine aw_region ?_
        refine g_u (s_as_imm rfl rfl) ?_
        refine g_nil ?_
        refine normal_thn ?_
        refine aw_ret ?_
        refine ret_thn ?_
        exact ⟨⟨(rfl : toAV (Al.look _ _) = some _).trans (congrArg some (by (exact congrArg bv (by first | exact (decide_eq_false (fun e => q ⟨congrArg GSpan.code e, congrArg GSpan.note e⟩)).symm | exact (decide_eq_false (fun e => q (by rw [e]))).symm | exact (decide_eq_true (GSpan.ext' e0 e1 e2 e3 e4 e5 e6 e7 e9 (ext_nth ge0 e10 (fun j hj => hev j (by omega))) (ext_nth gl0 e11 (fun j hj => h4 j (by omega))) e8.1 e8.2)).symm)))), rfl⟩, trivial⟩
      · rw [hb3]
        have e2 : a.parent = b.parent := by have e := hb3; simpa using e
        refine g_run rfl rfl (s_fieldAddr rfl rfl fa36_3 rfl) ?_
        refine g_run rfl rfl (s_load_imm rfl rfl rfl tA9 tS9 rfl rfl) ?_
        refine g_run rfl rfl (s_fieldAddr rfl rfl fa36_3 rfl) ?_
        refine g_run rfl rfl (s_load_imm rfl rfl rfl tA9 tS9 rfl rfl) ?_
        refine g_run rfl rfl (s_neS rfl rfl rfl) ?_
        refine g_u (s_pick_f rfl rfl rfl) ?_
        refine g_u (s_mv_imm rfl rfl) ?_
        refine g_case (t := 37) rfl ?_
        rintro (hb4 | hb4)
        · rw [hb4]
          have q : ¬ a.state = b.state := by have e := hb4; rw [str_beq] at e; simpa using e
          refine g_skip rfl rfl rfl ?_
          refine g_skip rfl rfl rfl ?_
          refine g_skip rfl rfl rfl ?_
          refine g_skip rfl rfl rfl ?_
          refine g_skip rfl rfl rfl ?_
          refine g_u (s_pick_t rfl rfl rfl) ?_
          refine g_u (s_mv_imm rfl rfl) ?_
          refine g_skip rfl rfl rfl ?_
          refine g_skip rfl rfl rfl ?_
          refine g_skip rfl rfl rfl ?_
          refine g_skip rfl rfl rfl ?_
          refine g_skip rfl rfl rfl ?_
          refine g_u (s_pick_t rfl rfl rfl) ?_
          refine g_u (s_mv_imm rfl rfl) ?_
          refine g_skip rfl rfl rfl ?_
          refine g_skip rfl rfl rfl ?_
          refine g_skip rfl rfl rfl ?_
          refine g_skip rfl rfl rfl ?_
          refine g_skip rfl rfl rfl ?_
          refine g_u (s_pick_t rfl rfl rfl) ?_
          refine g_u (s_mv_imm rfl rfl) ?_
          refine g_skip rfl rfl rfl ?_
          refine g_skip rfl rfl rfl ?_
          refine g_skip rfl rfl rfl ?_
          refine g_skip rfl rfl rfl ?_
          refine g_skip rfl rfl rfl ?_
          refine g_u (s_pick_t rfl rfl rfl) ?_
          refine g_u (s_mv_imm rfl rfl) ?_
          refine g_skip rfl rfl rfl ?_
          refine g_skip rfl rfl rfl ?_
          refine g_skip rfl rfl rfl ?_
          refine g_skip rfl rfl rfl ?_
          refine g_skip rfl rfl rfl ?_
          refine g_u (s_pick_t rfl rfl rfl) ?_
          refine g_nil ?_
          refine normal_thn ?_
          refine aw_cond_true rfl ?_
          refine aw_seq ?_
          refine aw_region ?_
          refine g_u (s_as_imm rfl rfl) ?_
          refine g_nil ?_
          refine normal_thn ?_
          refine aw_ret ?_
          refine ret_thn ?_
          exact ⟨⟨(rfl : toAV (Al.look _ _) = some _).trans (congrArg some (by (exact congrArg bv (by first | exact (decide_eq_false (fun e => q ⟨congrArg GSpan.code e, congrArg GSpan.note e⟩)).symm | exact (decide_eq_false (fun e => q (by rw [e]))).symm | exact (decide_eq_true (GSpan.ext' e0 e1 e2 e3 e4 e5 e6 e7 e9 (ext_nth ge0 e10 (fun j hj => hev j (by omega))) (ext_nth gl0 e11 (fun j hj => h4 j (by omega))) e8.1 e8.2)).symm)))), rfl⟩, trivial⟩
        · rw [hb4]
          have e3 : a.state = b.state := by have e := hb4; rw [str_beq] at e; simpa using e
          refine g_run rfl rfl (s_fieldAddr rfl rfl fa36_4 rfl) ?_
          refine g_run rfl rfl (s_load_imm rfl rfl rfl tA9 tS9 rfl rfl) ?_
          refine g_run rfl rfl (s_fieldAddr rfl rfl fa36_4 rfl) ?_
          refine g_run rfl rfl (s_load_imm rfl rfl rfl tA9 tS9 rfl rfl) ?_
          refine g_run rfl rfl (s_neS rfl rfl rfl) ?_
          refine g_u (s_pick_f rfl rfl rfl) ?_
          refine g_u (s_mv_imm rfl rfl) ?_
          refine g_case (t := 44) rfl ?_
          rintro (hb5 | hb5)
          · rw [hb5]
            have q : ¬ a.name = b.name := by have e := hb5; rw [str_beq] at e; simpa using e
            refine g_skip rfl rfl rfl ?_
            refine g_skip rfl rfl rfl ?_
            refine g_skip rfl rfl rfl ?_
            refine g_skip rfl rfl rfl ?_
            refine g_skip rfl rfl rfl ?_
            refine g_u (s_pick_t rfl rfl rfl) ?_
            refine g_u (s_mv_imm rfl rfl) ?_
            refine g_skip rfl rfl rfl ?_
            refine g_skip rfl rfl rfl ?_
            refine g_skip rfl rfl rfl ?_
            refine g_skip rfl rfl rfl ?_
            refine g_skip rfl rfl rfl ?_
            refine g_u (s_pick_t rfl rfl rfl) ?_
            refine g_u (s_mv_imm rfl rfl) ?_
            refine g_skip rfl rfl rfl ?_
            refine g_skip rfl rfl rfl ?_
            refine g_skip rfl rfl rfl ?_
            refine g_skip rfl rfl rfl ?_
            refine g_skip rfl rfl rfl ?_
            refine g_u (s_pick_t rfl rfl rfl) ?_
            refine g_u (s_mv_imm rfl rfl) ?_
            refine g_skip rfl rfl rfl ?_
            refine g_skip rfl rfl rfl ?_
            refine g_skip rfl rfl rfl ?_
            refine g_skip rfl rfl rfl ?_
            refine g_skip rfl rfl rfl ?_
            refine g_u (s_pick_t rfl rfl rfl) ?_
            refine g_nil ?_
            refine normal_thn ?_
            refine aw_cond_true rfl ?_
            refine aw_seq ?_
            refine aw_region ?_
            refine g_u (s_as_imm rfl rfl) ?_
            refine g_nil ?_
            refine normal_thn ?_
            refine aw_ret ?_
            refine ret_thn ?_
            exact ⟨⟨(rfl : toAV (Al.look _ _) = some _).trans (congrArg some (by (exact congrArg bv (by first | exact (decide_eq_false (fun e => q ⟨congrArg GSpan.code e, congrArg GSpan.note e⟩)).symm | exact (decide_eq_false (fun e => q (by rw [e]))).symm | exact (decide_eq_true (GSpan.ext' e0 e1 e2 e3 e4 e5 e6 e7 e9 (ext_nth ge0 e10 (fun j hj => hev j (by omega))) (ext_nth gl0 e11 (fun j hj => h4 j (by omega))) e8.1 e8.2)).symm)))), rfl⟩, trivial⟩
          · rw [hb5]
            have e4 : a.name = b.name := by have e := hb5; rw [str_beq] at e; simpa using e
            refine g_run rfl rfl (s_fieldAddr rfl rfl fa36_5 rfl) ?_
            refine g_run rfl rfl (s_load_imm rfl rfl rfl tA3 tS3 rfl rfl) ?_
            refine g_run rfl rfl (s_fieldAddr rfl rfl fa36_5 rfl) ?_
            refine g_run rfl rfl (s_load_imm rfl rfl rfl tA3 tS3 rfl rfl) ?_
            refine g_run rfl rfl (s_neI rfl rfl rfl) ?_
            refine g_u (s_pick_f rfl rfl rfl) ?_
            refine g_u (s_mv_imm rfl rfl) ?_
            refine g_case (t := 51) rfl ?_
            rintro (hb6 | hb6)
            · rw [hb6]
              have q : ¬ a.kind = b.kind := bne_iff_ne.1 hb6
              refine g_skip rfl rfl rfl ?_
              refine g_skip rfl rfl rfl ?_
              refine g_skip rfl rfl rfl ?_
              refine g_skip rfl rfl rfl ?_
              refine g_skip rfl rfl rfl ?_
              refine g_u (s_pick_t rfl rfl rfl) ?_
              refine g_u (s_mv_imm rfl rfl) ?_
              refine g_skip rfl rfl rfl ?_
              refine g_skip rfl rfl rfl ?_
              refine g_skip rfl rfl rfl ?_
              refine g_skip rfl rfl rfl ?_
              refine g_skip rfl rfl rfl ?_
              refine g_u (s_pick_t rfl rfl rfl) ?_
              refine g_u (s_mv_imm rfl rfl) ?_
              refine g_skip rfl rfl rfl ?_
              refine g_skip rfl rfl rfl ?_
              refine g_skip rfl rfl rfl ?_
              refine g_skip rfl rfl rfl ?_
              refine g_skip rfl rfl rfl ?_
              refine g_u (s_pick_t rfl rfl rfl) ?_
              refine g_nil ?_
              refine normal_thn ?_
              refine aw_cond_true rfl ?_
              refine aw_seq ?_
              refine aw_region ?_
              refine g_u (s_as_imm rfl rfl) ?_
              refine g_nil ?_
              refine normal_thn ?_
              refine aw_ret ?_
              refine ret_thn ?_
              exact ⟨⟨(rfl : toAV (Al.look _ _) = some _).trans (congrArg some (by (exact congrArg bv (by first | exact (decide_eq_false (fun e => q ⟨congrArg GSpan.code e, congrArg GSpan.note e⟩)).symm | exact (decide_eq_false (fun e => q (by rw [e]))).symm | exact (decide_eq_true (GSpan.ext' e0 e1 e2 e3 e4 e5 e6 e7 e9 (ext_nth ge0 e10 (fun j hj => hev j (by omega))) (ext_nth gl0 e11 (fun j hj => h4 j (by omega))) e8.1 e8.2)).symm)))), rfl⟩, trivial⟩
            · rw [hb6]
              have e5 : a.kind = b.kind := bne_eq_false_iff_eq.1 hb6
              refine g_run rfl rfl (s_fieldAddr rfl rfl fa36_6 rfl) ?_
              refine g_run rfl rfl (s_load_imm rfl rfl rfl tA29 tS29 rfl rfl) ?_
              refine g_run rfl rfl (s_fieldAddr rfl rfl fa36_6 rfl) ?_
              refine g_run rfl rfl (s_load_imm rfl rfl rfl tA29 tS29 rfl rfl) ?_
              refine g_run rfl rfl (s_neI rfl rfl rfl) ?_
              refine g_u (s_pick_f rfl rfl rfl) ?_
              refine g_u (s_mv_imm rfl rfl) ?_
              refine g_case (t := 58) rfl ?_
              rintro (hb7 | hb7)
              · rw [hb7]
                have q : ¬ a.start = b.start := bne_iff_ne.1 hb7
                refine g_skip rfl rfl rfl ?_
                refine g_skip rfl rfl rfl ?_
                refine g_skip rfl rfl rfl ?_
                refine g_skip rfl rfl rfl ?_
                refine g_skip rfl rfl rfl ?_
                refine g_u (s_pick_t rfl rfl rfl) ?_
                refine g_u (s_mv_imm rfl rfl) ?_
                refine g_skip rfl rfl rfl ?_
                refine g_skip rfl rfl rfl ?_
                refine g_skip rfl rfl rfl ?_
                refine g_skip rfl rfl rfl ?_
                refine g_skip rfl rfl rfl ?_
                refine g_u (s_pick_t rfl rfl rfl) ?_
                refine g_nil ?_
                refine normal_thn ?_
                refine aw_cond_true rfl ?_
                refine aw_seq ?_
                refine aw_region ?_
                refine g_u (s_as_imm rfl rfl) ?_
                refine g_nil ?_
                refine normal_thn ?_
                refine aw_ret ?_
                refine ret_thn ?_
                exact ⟨⟨(rfl : toAV (Al.look _ _) = some _).trans (congrArg some (by (exact congrArg bv (by first | exact (decide_eq_false (fun e => q ⟨congrArg GSpan.code e, congrArg GSpan.note e⟩)).symm | exact (decide_eq_false (fun e => q (by rw [e]))).symm | exact (decide_eq_true (GSpan.ext' e0 e1 e2 e3 e4 e5 e6 e7 e9 (ext_nth ge0 e10 (fun j hj => hev j (by omega))) (ext_nth gl0 e11 (fun j hj => h4 j (by omega))) e8.1 e8.2)).symm)))), rfl⟩, trivial⟩
              · rw [hb7]
                have e6 : a.start = b.start := bne_eq_false_iff_eq.1 hb7
                refine g_run rfl rfl (s_fieldAddr rfl rfl fa36_7 rfl) ?_
                refine g_run rfl rfl (s_load_imm rfl rfl rfl tA29 tS29 rfl rfl) ?_
                refine g_run rfl rfl (s_fieldAddr rfl rfl fa36_7 rfl) ?_
                refine g_run rfl rfl (s_load_imm rfl rfl rfl tA29 tS29 rfl rfl) ?_
                refine g_run rfl rfl (s_neI rfl rfl rfl) ?_
                refine g_u (s_pick_f rfl rfl rfl) ?_
                refine g_u (s_mv_imm rfl rfl) ?_
                refine g_case (t := 65) rfl ?_
                rintro (hb8 | hb8)
                · rw [hb8]
                  have q : ¬ a.fin = b.fin := bne_iff_ne.1 hb8
                  refine g_skip rfl rfl rfl ?_
                  refine g_skip rfl rfl rfl ?_
                  refine g_skip rfl rfl rfl ?_
                  refine g_skip rfl rfl rfl ?_
                  refine g_skip rfl rfl rfl ?_
                  refine g_u (s_pick_t rfl rfl rfl) ?_
                  refine g_nil ?_
                  refine normal_thn ?_
                  refine aw_cond_true rfl ?_
                  refine aw_seq ?_
                  refine aw_region ?_
                  refine g_u (s_as_imm rfl rfl) ?_
                  refine g_nil ?_
                  refine normal_thn ?_
                  refine aw_ret ?_
                  refine ret_thn ?_
                  exact ⟨⟨(rfl : toAV (Al.look _ _) = some _).trans (congrArg some (by (exact congrArg bv (by first | exact (decide_eq_false (fun e => q ⟨congrArg GSpan.code e, congrArg GSpan.note e⟩)).symm | exact (decide_eq_false (fun e => q (by rw [e]))).symm | exact (decide_eq_true (GSpan.ext' e0 e1 e2 e3 e4 e5 e6 e7 e9 (ext_nth ge0 e10 (fun j hj => hev j (by omega))) (ext_nth gl0 e11 (fun j hj => h4 j (by omega))) e8.1 e8.2)).symm)))), rfl⟩, trivial⟩
                · rw [hb8]
                  have e7 : a.fin = b.fin := bne_eq_false_iff_eq.1 hb8
                  refine g_run rfl rfl (s_fieldAddr rfl rfl fa36_11 rfl) ?_
                  refine g_run rfl rfl (s_load_imm rfl rfl rfl tA34 tS34 rfl rfl) ?_
                  refine g_run rfl rfl (s_fieldAddr rfl rfl fa36_11 rfl) ?_
                  refine g_run rfl rfl (s_load_imm rfl rfl rfl tA34 tS34 rfl rfl) ?_
                  refine g_run rfl rfl (s_neA rfl rfl rfl eg34 rfl rfl (eq34 _ _ _ _)) ?_
                  refine g_u (s_pick_f rfl rfl rfl) ?_
                  refine g_nil ?_
                  refine normal_thn ?_
                  refine aw_cond rfl (fun hb9 => ?_) (fun hb9 => ?_)
                  · skip
                    have q : ¬ (a.code = b.code ∧ a.note = b.note) := fun h => by have e := hb9; rw [str_beq, h.1, h.2] at e; simp at e
                    refine aw_seq ?_
                    refine aw_region ?_
                    refine g_u (s_as_imm rfl rfl) ?_
                    refine g_nil ?_
                    refine normal_thn ?_
                    refine aw_ret ?_
                    refine ret_thn ?_
                    exact ⟨⟨(rfl : toAV (Al.look _ _) = some _).trans (congrArg some (by (exact congrArg bv (by first | exact (decide_eq_false (fun e => q ⟨congrArg GSpan.code e, congrArg GSpan.note e⟩)).symm | exact (decide_eq_false (fun e => q (by rw [e]))).symm | exact (decide_eq_true (GSpan.ext' e0 e1 e2 e3 e4 e5 e6 e7 e9 (ext_nth ge0 e10 (fun j hj => hev j (by omega))) (ext_nth gl0 e11 (fun j hj => h4 j (by omega))) e8.1 e8.2)).symm)))), rfl⟩, trivial⟩
                  · skip
                    have e8 : a.code = b.code ∧ a.note = b.note := by have e := hb9; rw [str_beq] at e; simpa using e
                    refine aw_skip ?_
                    refine normal_thn ?_
                    refine aw_seq ?_
                    refine aw_seq ?_
                    refine aw_region ?_
                    refine g_u (s_fieldAddr rfl rfl fa36_8 rfl) ?_
                    refine g_u (s_load_imm rfl rfl rfl tA30 tS30 rfl rfl) ?_
                    refine g_u (s_fieldAddr rfl rfl fa36_8 rfl) ?_
                    refine g_u (s_load_imm rfl rfl rfl tA30 tS30 rfl rfl) ?_
                    refine g_u (s_call1 (rsameAs_c _ _ (by omega)) rfl rfl) ?_
                    refine g_u (s_not rfl rfl) ?_
                    refine g_u (s_mv_imm rfl rfl) ?_
                    refine g_case (t := 78) rfl ?_
                    rintro (hb10 | hb10)
                    · rw [hb10]
                      have q : ¬ a.attrs = b.attrs := fun h => by have e := hb10; rw [h, sameAs_refl] at e; cases e
                      refine g_skip rfl rfl rfl ?_
                      refine g_skip rfl rfl rfl ?_
                      refine g_skip rfl rfl rfl ?_
                      refine g_skip rfl rfl rfl ?_
                      refine g_skip rfl rfl rfl ?_
                      refine g_skip rfl rfl rfl ?_
                      refine g_skip rfl rfl rfl ?_
                      refine g_u (s_pick_t rfl rfl rfl) ?_
                      refine g_u (s_mv_imm rfl rfl) ?_
                      refine g_skip rfl rfl rfl ?_
                      refine g_skip rfl rfl rfl ?_
                      refine g_skip rfl rfl rfl ?_
                      refine g_skip rfl rfl rfl ?_
                      refine g_skip rfl rfl rfl ?_
                      refine g_skip rfl rfl rfl ?_
                      refine g_skip rfl rfl rfl ?_
                      refine g_u (s_pick_t rfl rfl rfl) ?_
                      refine g_nil ?_
                      refine normal_thn ?_
                      refine aw_cond_true rfl ?_
                      refine aw_seq ?_
                      refine aw_region ?_
                      refine g_u (s_as_imm rfl rfl) ?_
                      refine g_nil ?_
                      refine normal_thn ?_
                      refine aw_ret ?_
                      refine ret_thn ?_
                      exact ⟨⟨(rfl : toAV (Al.look _ _) = some _).trans (congrArg some (by (exact congrArg bv (by first | exact (decide_eq_false (fun e => q ⟨congrArg GSpan.code e, congrArg GSpan.note e⟩)).symm | exact (decide_eq_false (fun e => q (by rw [e]))).symm | exact (decide_eq_true (GSpan.ext' e0 e1 e2 e3 e4 e5 e6 e7 e9 (ext_nth ge0 e10 (fun j hj => hev j (by omega))) (ext_nth gl0 e11 (fun j hj => h4 j (by omega))) e8.1 e8.2)).symm)))), rfl⟩, trivial⟩
                    · rw [hb10]
                      have e9 : a.attrs = b.attrs := (sameAs_iff _ _).1 (by have e := hb10; simpa using e)
                      refine g_run rfl rfl (s_fieldAddr rfl rfl fa36_9 rfl) ?_
                      refine g_run rfl rfl (s_load_imm rfl rfl rfl tA31 tS31 rfl rfl) ?_
                      refine g_run rfl rfl (s_lenL rfl rfl Tryd.underlying31) ?_
                      refine g_run rfl rfl (s_fieldAddr rfl rfl fa36_9 rfl) ?_
                      refine g_run rfl rfl (s_load_imm rfl rfl rfl tA31 tS31 rfl rfl) ?_
                      refine g_run rfl rfl (s_lenL rfl rfl Tryd.underlying31) ?_
                      refine g_run rfl rfl (s_neI rfl rfl rfl) ?_
                      refine g_u (s_pick_f rfl rfl rfl) ?_
                      refine g_u (s_mv_imm rfl rfl) ?_
                      refine g_case (t := 87) rfl ?_
                      rintro (hb11 | hb11)
                      · rw [hb11]
                        have q : ¬ a.events.length = b.events.length := by have e := bne_iff_ne.1 hb11; simp only [List.length_map] at e; omega
                        refine g_skip rfl rfl rfl ?_
                        refine g_skip rfl rfl rfl ?_
                        refine g_skip rfl rfl rfl ?_
                        refine g_skip rfl rfl rfl ?_
                        refine g_skip rfl rfl rfl ?_
                        refine g_skip rfl rfl rfl ?_
                        refine g_skip rfl rfl rfl ?_
                        refine g_u (s_pick_t rfl rfl rfl) ?_
                        refine g_nil ?_
                        refine normal_thn ?_
                        refine aw_cond_true rfl ?_
                        refine aw_seq ?_
                        refine aw_region ?_
                        refine g_u (s_as_imm rfl rfl) ?_
                        refine g_nil ?_
                        refine normal_thn ?_
                        refine aw_ret ?_
                        refine ret_thn ?_
                        exact ⟨⟨(rfl : toAV (Al.look _ _) = some _).trans (congrArg some (by (exact congrArg bv (by first | exact (decide_eq_false (fun e => q ⟨congrArg GSpan.code e, congrArg GSpan.note e⟩)).symm | exact (decide_eq_false (fun e => q (by rw [e]))).symm | exact (decide_eq_true (GSpan.ext' e0 e1 e2 e3 e4 e5 e6 e7 e9 (ext_nth ge0 e10 (fun j hj => hev j (by omega))) (ext_nth gl0 e11 (fun j hj => h4 j (by omega))) e8.1 e8.2)).symm)))), rfl⟩, trivial⟩
                      · rw [hb11]
                        have e10 : a.events.length = b.events.length := by have e := bne_eq_false_iff_eq.1 hb11; simp only [List.length_map] at e; omega
                        refine g_run rfl rfl (s_fieldAddr rfl rfl fa36_10 rfl) ?_
                        refine g_run rfl rfl (s_load_imm rfl rfl rfl tA32 tS32 rfl rfl) ?_
                        refine g_run rfl rfl (s_lenL rfl rfl Tryd.underlying32) ?_
                        refine g_run rfl rfl (s_fieldAddr rfl rfl fa36_10 rfl) ?_
                        refine g_run rfl rfl (s_load_imm rfl rfl rfl tA32 tS32 rfl rfl) ?_
                        refine g_run rfl rfl (s_lenL rfl rfl Tryd.underlying32) ?_
                        refine g_run rfl rfl (s_neI rfl rfl rfl) ?_
                        refine g_u (s_pick_f rfl rfl rfl) ?_
                        refine g_nil ?_
                        refine normal_thn ?_
                        refine aw_cond rfl (fun hb12 => ?_) (fun hb12 => ?_)
                        · skip
                          have q : ¬ a.links.length = b.links.length := by have e := bne_iff_ne.1 hb12; simp only [List.length_map] at e; omega
                          refine aw_seq ?_
                          refine aw_region ?_
                          refine g_u (s_as_imm rfl rfl) ?_
                          refine g_nil ?_
                          refine normal_thn ?_
                          refine aw_ret ?_
                          refine ret_thn ?_
                          exact ⟨⟨(rfl : toAV (Al.look _ _) = some _).trans (congrArg some (by (exact congrArg bv (by first | exact (decide_eq_false (fun e => q ⟨congrArg GSpan.code e, congrArg GSpan.note e⟩)).symm | exact (decide_eq_false (fun e => q (by rw [e]))).symm | exact (decide_eq_true (GSpan.ext' e0 e1 e2 e3 e4 e5 e6 e7 e9 (ext_nth ge0 e10 (fun j hj => hev j (by omega))) (ext_nth gl0 e11 (fun j hj => h4 j (by omega))) e8.1 e8.2)).symm)))), rfl⟩, trivial⟩
                        · skip
                          have e11 : a.links.length = b.links.length := by have e := bne_eq_false_iff_eq.1 hb12; simp only [List.length_map] at e; omega
                          refine aw_skip ?_
                          refine normal_thn ?_
                          refine aw_seq ?_
                          refine aw_seq ?_
                          refine aw_region ?_
                          refine g_u (s_as_imm rfl rfl) ?_
                          refine g_nil ?_
                          refine normal_thn ?_
                          refine aw_block ?_
                          refine aw_loop' (fun i : Nat => [(2, .ptr 1002 0), (1002, .box 36 (.imm a.av)), (3, .ptr 1003 0), (1003, .box 36 (.imm b.av)), (5, .imm (iv (i : Int)))]) (fun i => (i ≤ a.events.length ∧ ∀ p, p < i → nth a.events p ge0 = nth b.events p ge0)) (fun i => a.events.length - i) (0) ?_ ⟨rfl, rfl, rfl, rfl, rfl, trivial⟩ ?_
                          · exact ⟨Nat.zero_le _, fun j h => absurd h (Nat.not_lt_zero _)⟩
                          · rintro i ⟨h1, h2⟩; (try dsimp only at h1 h2)
                            refine aw_seq ?_
                            refine aw_seq ?_
                            refine aw_region ?_
                            refine g_u (s_mv_imm rfl rfl) ?_
                            refine g_u (s_fieldAddr rfl rfl fa36_9 rfl) ?_
                            refine g_u (s_load_imm rfl rfl rfl tA31 tS31 rfl rfl) ?_
                            refine g_u (s_lenL rfl rfl Tryd.underlying31) ?_
                            refine g_u (s_ltI rfl rfl rfl) ?_
                            refine g_nil ?_
                            refine normal_thn ?_
                            refine aw_cond rfl (fun hb13 => ?_) (fun hb13 => ?_)
                            · skip
                              have hi : i < a.events.length := by have := of_decide_eq_true hb13; (try simp only [List.length_map] at this); omega
                              have hib : i < b.events.length := by omega
                              have hex := sumBy_mem GE.wt (nthE_mem hi)
                              have heq : (nthE a.events i).wt = 1 + (nthE a.events i).name.size + wtAs (nthE a.events i).attrs := rfl
                              refine aw_skip ?_
                              refine normal_thn ?_
                              refine aw_seq ?_
                              refine aw_block ?_
                              refine aw_seq ?_
                              refine aw_draw mixed ?_
                              refine g_u (s_fieldAddr rfl rfl fa36_9 rfl) ?_
                              refine g_u (s_load_imm rfl rfl rfl tA31 tS31 rfl rfl) ?_
                              refine g_u (s_mv_imm rfl rfl) ?_
                              refine g_u (s_indexAddr rfl rfl rfl Tryd.underlying31 tS86 (by omega) (ixE hi)) ?_
                              refine g_u (s_load_cp rfl rfl tA86 tS86 rfl rfl) ?_
                              refine g_u (s_fieldAddr rfl rfl fa36_9 rfl) ?_
                              refine g_u (s_load_imm rfl rfl rfl tA31 tS31 rfl rfl) ?_
                              refine g_u (s_mv_imm rfl rfl) ?_
                              refine g_u (s_indexAddr rfl rfl rfl Tryd.underlying31 tS86 (by omega) (ixE hib)) ?_
                              refine g_u (s_load_cp rfl rfl tA86 tS86 rfl rfl) ?_
                              refine g_uG (s_alloc' 1006 rfl rfl rfl tZ86) rfl ?_
                              refine g_uG (s_alloc' 1007 rfl rfl rfl tZ86) rfl ?_
                              refine g_u (s_store_imm rfl rfl rfl tS86 rfl rfl) ?_
                              refine g_u (s_store_imm rfl rfl rfl tS86 rfl rfl) ?_
                              refine g_nil ⟨by kernel_rfl, ?_⟩
                              refine normal_thn ?_
                              refine aw_seq ?_
                              refine aw_region ?_
                              refine g_u (s_fieldAddr rfl rfl fa86_0 rfl) ?_
                              refine g_u (s_load_imm rfl rfl rfl tA29 tS29 rfl rfl) ?_
                              refine g_u (s_fieldAddr rfl rfl fa86_0 rfl) ?_
                              refine g_u (s_load_imm rfl rfl rfl tA29 tS29 rfl rfl) ?_
                              refine g_u (s_neI rfl rfl rfl) ?_
                              refine g_u (s_mv_imm rfl rfl) ?_
                              refine g_case (t := 118) rfl ?_
                              rintro (hb14 | hb14)
                              · rw [hb14]
                                have q : ¬ (nthE a.events i).time = (nthE b.events i).time := bne_iff_ne.1 hb14
                                refine g_skip rfl rfl rfl ?_
                                refine g_skip rfl rfl rfl ?_
                                refine g_skip rfl rfl rfl ?_
                                refine g_skip rfl rfl rfl ?_
                                refine g_skip rfl rfl rfl ?_
                                refine g_u (s_pick_t rfl rfl rfl) ?_
                                refine g_u (s_mv_imm rfl rfl) ?_
                                refine g_skip rfl rfl rfl ?_
                                refine g_skip rfl rfl rfl ?_
                                refine g_skip rfl rfl rfl ?_
                                refine g_skip rfl rfl rfl ?_
                                refine g_skip rfl rfl rfl ?_
                                refine g_skip rfl rfl rfl ?_
                                refine g_u (s_pick_t rfl rfl rfl) ?_
                                refine g_nil ?_
                                refine normal_thn ?_
                                refine aw_cond_true rfl ?_
                                refine aw_seq ?_
                                refine aw_region ?_
                                refine g_u (s_as_imm rfl rfl) ?_
                                refine g_nil ?_
                                refine normal_thn ?_
                                refine aw_ret ?_
                                refine ret_blk ?_
                                refine ret_thn ?_
                                refine ret_thn ?_
                                refine ret_blk ?_
                                refine ret_thn ?_
                                exact ⟨⟨(rfl : toAV (Al.look _ _) = some _).trans (congrArg some (by (exact congrArg bv (by first | exact (decide_eq_false (fun e => q ⟨congrArg GSpan.code e, congrArg GSpan.note e⟩)).symm | exact (decide_eq_false (fun e => q (by rw [e]))).symm | exact (decide_eq_true (GSpan.ext' e0 e1 e2 e3 e4 e5 e6 e7 e9 (ext_nth ge0 e10 (fun j hj => hev j (by omega))) (ext_nth gl0 e11 (fun j hj => h4 j (by omega))) e8.1 e8.2)).symm)))), rfl⟩, trivial⟩
                              · rw [hb14]
                                have f1 : (nthE a.events i).time = (nthE b.events i).time := bne_eq_false_iff_eq.1 hb14
                                refine g_run rfl rfl (s_fieldAddr rfl rfl fa86_1 rfl) ?_
                                refine g_run rfl rfl (s_load_imm rfl rfl rfl tA9 tS9 rfl rfl) ?_
                                refine g_run rfl rfl (s_fieldAddr rfl rfl fa86_1 rfl) ?_
                                refine g_run rfl rfl (s_load_imm rfl rfl rfl tA9 tS9 rfl rfl) ?_
                                refine g_run rfl rfl (s_neS rfl rfl rfl) ?_
                                refine g_u (s_pick_f rfl rfl rfl) ?_
                                refine g_u (s_mv_imm rfl rfl) ?_
                                refine g_case (t := 125) rfl ?_
                                rintro (hb15 | hb15)
                                · rw [hb15]
                                  have q : ¬ (nthE a.events i).name = (nthE b.events i).name := by have e := hb15; rw [str_beq] at e; simpa using e
                                  refine g_skip rfl rfl rfl ?_
                                  refine g_skip rfl rfl rfl ?_
                                  refine g_skip rfl rfl rfl ?_
                                  refine g_skip rfl rfl rfl ?_
                                  refine g_skip rfl rfl rfl ?_
                                  refine g_skip rfl rfl rfl ?_
                                  refine g_u (s_pick_t rfl rfl rfl) ?_
                                  refine g_nil ?_
                                  refine normal_thn ?_
                                  refine aw_cond_true rfl ?_
                                  refine aw_seq ?_
                                  refine aw_region ?_
                                  refine g_u (s_as_imm rfl rfl) ?_
                                  refine g_nil ?_
                                  refine normal_thn ?_
                                  refine aw_ret ?_
                                  refine ret_blk ?_
                                  refine ret_thn ?_
                                  refine ret_thn ?_
                                  refine ret_blk ?_
                                  refine ret_thn ?_
                                  exact ⟨⟨(rfl : toAV (Al.look _ _) = some _).trans (congrArg some (by (exact congrArg bv (by first | exact (decide_eq_false (fun e => q ⟨congrArg GSpan.code e, congrArg GSpan.note e⟩)).symm | exact (decide_eq_false (fun e => q (by rw [e]))).symm | exact (decide_eq_true (GSpan.ext' e0 e1 e2 e3 e4 e5 e6 e7 e9 (ext_nth ge0 e10 (fun j hj => hev j (by omega))) (ext_nth gl0 e11 (fun j hj => h4 j (by omega))) e8.1 e8.2)).symm)))), rfl⟩, trivial⟩
                                · rw [hb15]
                                  have f2 : (nthE a.events i).name = (nthE b.events i).name := by have e := hb15; rw [str_beq] at e; simpa using e
                                  refine g_run rfl rfl (s_fieldAddr rfl rfl fa86_2 rfl) ?_
                                  refine g_run rfl rfl (s_load_imm rfl rfl rfl tA30 tS30 rfl rfl) ?_
                                  refine g_run rfl rfl (s_fieldAddr rfl rfl fa86_2 rfl) ?_
                                  refine g_run rfl rfl (s_load_imm rfl rfl rfl tA30 tS30 rfl rfl) ?_
                                  refine g_run rfl rfl (s_call1 (rsameAs_c _ _ (by omega)) rfl rfl) ?_
                                  refine g_run rfl rfl (s_not rfl rfl) ?_
                                  refine g_u (s_pick_f rfl rfl rfl) ?_
                                  refine g_nil ?_
                                  refine normal_thn ?_
                                  refine aw_cond rfl (fun hb16 => ?_) (fun hb16 => ?_)
                                  · skip
                                    have q : ¬ (nthE a.events i).attrs = (nthE b.events i).attrs := fun h => by have e := hb16; rw [h, sameAs_refl] at e; cases e
                                    refine aw_seq ?_
                                    refine aw_region ?_
                                    refine g_u (s_as_imm rfl rfl) ?_
                                    refine g_nil ?_
                                    refine normal_thn ?_
                                    refine aw_ret ?_
                                    refine ret_blk ?_
                                    refine ret_thn ?_
                                    refine ret_thn ?_
                                    refine ret_blk ?_
                                    refine ret_thn ?_
                                    exact ⟨⟨(rfl : toAV (Al.look _ _) = some _).trans (congrArg some (by (exact congrArg bv (by first | exact (decide_eq_false (fun e => q ⟨congrArg GSpan.code e, congrArg GSpan.note e⟩)).symm | exact (decide_eq_false (fun e => q (by rw [e]))).symm | exact (decide_eq_true (GSpan.ext' e0 e1 e2 e3 e4 e5 e6 e7 e9 (ext_nth ge0 e10 (fun j hj => hev j (by omega))) (ext_nth gl0 e11 (fun j hj => h4 j (by omega))) e8.1 e8.2)).symm)))), rfl⟩, trivial⟩
                                  · skip
                                    have f3 : (nthE a.events i).attrs = (nthE b.events i).attrs := (sameAs_iff _ _).1 (by have e := hb16; simpa using e)
                                    refine aw_skip ?_
                                    refine normal_blk ?_
                                    refine normal_thn ?_
                                    refine aw_region ?_
                                    refine g_u (s_mv_imm rfl rfl) ?_
                                    refine g_u (s_add rfl rfl rfl) ?_
                                    refine g_u (s_as_imm rfl rfl) ?_
                                    refine g_nil ?_
                                    refine normal_thn ?_
                                    refine ⟨i + 1, ⟨hi, fun j hj => by rcases Nat.lt_or_ge j i with h | h; exact h2 j h; rw [show j = i by omega]; exact GE.ext' f1 f2 f3⟩, ⟨rfl, rfl, rfl, rfl, look_int rfl (by rw [wrap64 (by omega) (by omega)]; rfl), trivial⟩, by (try dsimp only); omega⟩
                            · skip
                              have hin : i = a.events.length := by have := of_decide_eq_false hb13; (try simp only [List.length_map] at this); omega
                              have hev : ∀ j, j < a.events.length → nth a.events j ge0 = nth b.events j ge0 := fun j hj => h2 j (by omega)
                              refine aw_exit ?_
                              refine exit_thn ?_
                              refine exit_thn ?_
                              refine exit_blk ?_
                              refine normal_thn ?_
                              refine aw_seq ?_
                              refine aw_seq ?_
                              refine aw_region ?_
                              refine g_u (s_as_imm rfl rfl) ?_
                              refine g_nil ?_
                              refine normal_thn ?_
                              refine aw_block ?_
                              refine aw_loop' (fun j : Nat => [(2, .ptr 1002 0), (1002, .box 36 (.imm a.av)), (3, .ptr 1003 0), (1003, .box 36 (.imm b.av)), (8, .imm (iv (j : Int)))]) (fun j => (j ≤ a.links.length ∧ ∀ p, p < j → nth a.links p gl0 = nth b.links p gl0)) (fun j => a.links.length - j) (0) ?_ ⟨rfl, rfl, rfl, rfl, rfl, trivial⟩ ?_
                              · exact ⟨Nat.zero_le _, fun j h => absurd h (Nat.not_lt_zero _)⟩
                              · rintro j ⟨h3, h4⟩; (try dsimp only at h3 h4)
                                refine aw_seq ?_
                                refine aw_seq ?_
                                refine aw_region ?_
                                refine g_u (s_mv_imm rfl rfl) ?_
                                refine g_u (s_fieldAddr rfl rfl fa36_10 rfl) ?_
                                refine g_u (s_load_imm rfl rfl rfl tA32 tS32 rfl rfl) ?_
                                refine g_u (s_lenL rfl rfl Tryd.underlying32) ?_
                                refine g_u (s_ltI rfl rfl rfl) ?_
                                refine g_nil ?_
                                refine normal_thn ?_
                                refine aw_cond rfl (fun hb17 => ?_) (fun hb17 => ?_)
                                · skip
                                  have hj : j < a.links.length := by have := of_decide_eq_true hb17; (try simp only [List.length_map] at this); omega
                                  have hjb : j < b.links.length := by omega
                                  have hlx := sumBy_mem GL.wt (nthL_mem hj)
                                  have hlq : (nthL a.links j).wt = 1 + (nthL a.links j).state.size + wtAs (nthL a.links j).attrs := rfl
                                  refine aw_skip ?_
                                  refine normal_thn ?_
                                  refine aw_seq ?_
                                  refine aw_block ?_
                                  refine aw_seq ?_
                                  refine aw_draw mixed ?_
                                  refine g_u (s_fieldAddr rfl rfl fa36_10 rfl) ?_
                                  refine g_u (s_load_imm rfl rfl rfl tA32 tS32 rfl rfl) ?_
                                  refine g_u (s_mv_imm rfl rfl) ?_
                                  refine g_u (s_indexAddr rfl rfl rfl Tryd.underlying32 tS88 (by omega) (ixL hj)) ?_
                                  refine g_u (s_load_cp rfl rfl tA88 tS88 rfl (by first | exact getS_w (GL.width _) rfl | rfl)) ?_
                                  refine g_u (s_fieldAddr rfl rfl fa36_10 rfl) ?_
                                  refine g_u (s_load_imm rfl rfl rfl tA32 tS32 rfl rfl) ?_
                                  refine g_u (s_mv_imm rfl rfl) ?_
                                  refine g_u (s_indexAddr rfl rfl rfl Tryd.underlying32 tS88 (by omega) (ixL hjb)) ?_
                                  refine g_u (s_load_cp rfl rfl tA88 tS88 rfl (by first | exact getS_w (GL.width _) rfl | rfl)) ?_
                                  refine g_uG (s_alloc' 1009 rfl rfl rfl tZ88) rfl ?_
                                  refine g_uG (s_alloc' 1010 rfl rfl rfl tZ88) rfl ?_
                                  refine g_u (s_store_imm rfl rfl rfl tS88 (by first | exact beqW (GL.width _) | rfl) (by first | exact setS_w (z88_w.trans (GL.width _).symm) rfl | rfl)) ?_
                                  refine g_u (s_store_imm rfl rfl rfl tS88 (by first | exact beqW (GL.width _) | rfl) (by first | exact setS_w (z88_w.trans (GL.width _).symm) rfl | rfl)) ?_
                                  refine g_nil ⟨by kernel_rfl, ?_⟩
                                  refine normal_thn ?_
                                  refine aw_seq ?_
                                  refine aw_region ?_
                                  refine g_u (s_fieldAddr rfl rfl fa88_0 rfl) ?_
                                  refine g_u (s_load_agg rfl rfl rfl tA26 tS26 rfl rfl) ?_
                                  refine g_u (s_fieldAddr rfl rfl fa88_0 rfl) ?_
                                  refine g_u (s_load_agg rfl rfl rfl tA26 tS26 rfl rfl) ?_
                                  refine g_u (s_neA rfl rfl rfl eg26 rfl rfl (eq26 _ _)) ?_
                                  refine g_u (s_mv_imm rfl rfl) ?_
                                  refine g_case (t := 155) rfl ?_
                                  rintro (hb18 | hb18)
                                  · rw [hb18]
                                    have q : ¬ (nthL a.links j).trace = (nthL b.links j).trace := by have e := hb18; simpa using e
                                    refine g_skip rfl rfl rfl ?_
                                    refine g_skip rfl rfl rfl ?_
                                    refine g_skip rfl rfl rfl ?_
                                    refine g_skip rfl rfl rfl ?_
                                    refine g_skip rfl rfl rfl ?_
                                    refine g_u (s_pick_t rfl rfl rfl) ?_
                                    refine g_u (s_mv_imm rfl rfl) ?_
                                    refine g_skip rfl rfl rfl ?_
                                    refine g_skip rfl rfl rfl ?_
                                    refine g_skip rfl rfl rfl ?_
                                    refine g_skip rfl rfl rfl ?_
                                    refine g_skip rfl rfl rfl ?_
                                    refine g_u (s_pick_t rfl rfl rfl) ?_
                                    refine g_u (s_mv_imm rfl rfl) ?_
                                    refine g_skip rfl rfl rfl ?_
                                    refine g_skip rfl rfl rfl ?_
                                    refine g_skip rfl rfl rfl ?_
                                    refine g_skip rfl rfl rfl ?_
                                    refine g_skip rfl rfl rfl ?_
                                    refine g_skip rfl rfl rfl ?_
                                    refine g_u (s_pick_t rfl rfl rfl) ?_
                                    refine g_nil ?_
                                    refine normal_thn ?_
                                    refine aw_cond_true rfl ?_
                                    refine aw_seq ?_
                                    refine aw_region ?_
                                    refine g_u (s_as_imm rfl rfl) ?_
                                    refine g_nil ?_
                                    refine normal_thn ?_
                                    refine aw_ret ?_
                                    refine ret_blk ?_
                                    refine ret_thn ?_
                                    refine ret_thn ?_
                                    refine ret_blk ?_
                                    refine ret_thn ?_
                                    exact ⟨⟨(rfl : toAV (Al.look _ _) = some _).trans (congrArg some (by (exact congrArg bv (by first | exact (decide_eq_false (fun e => q ⟨congrArg GSpan.code e, congrArg GSpan.note e⟩)).symm | exact (decide_eq_false (fun e => q (by rw [e]))).symm | exact (decide_eq_true (GSpan.ext' e0 e1 e2 e3 e4 e5 e6 e7 e9 (ext_nth ge0 e10 (fun j hj => hev j (by omega))) (ext_nth gl0 e11 (fun j hj => h4 j (by omega))) e8.1 e8.2)).symm)))), rfl⟩, trivial⟩
                                  · rw [hb18]
                                    have g1 : (nthL a.links j).trace = (nthL b.links j).trace := by have e := hb18; simpa using e
                                    refine g_run rfl rfl (s_fieldAddr rfl rfl fa88_1 rfl) ?_
                                    refine g_run rfl rfl (s_load_imm rfl rfl rfl tA28 tS28 rfl rfl) ?_
                                    refine g_run rfl rfl (s_fieldAddr rfl rfl fa88_1 rfl) ?_
                                    refine g_run rfl rfl (s_load_imm rfl rfl rfl tA28 tS28 rfl rfl) ?_
                                    refine g_run rfl rfl (s_neA rfl rfl rfl eg28 rfl rfl (eq28 _ _)) ?_
                                    refine g_u (s_pick_f rfl rfl rfl) ?_
                                    refine g_u (s_mv_imm rfl rfl) ?_
                                    refine g_case (t := 162) rfl ?_
                                    rintro (hb19 | hb19)
                                    · rw [hb19]
                                      have q : ¬ (nthL a.links j).span = (nthL b.links j).span := by have e := hb19; simpa using e
                                      refine g_skip rfl rfl rfl ?_
                                      refine g_skip rfl rfl rfl ?_
                                      refine g_skip rfl rfl rfl ?_
                                      refine g_skip rfl rfl rfl ?_
                                      refine g_skip rfl rfl rfl ?_
                                      refine g_u (s_pick_t rfl rfl rfl) ?_
                                      refine g_u (s_mv_imm rfl rfl) ?_
                                      refine g_skip rfl rfl rfl ?_
                                      refine g_skip rfl rfl rfl ?_
                                      refine g_skip rfl rfl rfl ?_
                                      refine g_skip rfl rfl rfl ?_
                                      refine g_skip rfl rfl rfl ?_
                                      refine g_skip rfl rfl rfl ?_
                                      refine g_u (s_pick_t rfl rfl rfl) ?_
                                      refine g_nil ?_
                                      refine normal_thn ?_
                                      refine aw_cond_true rfl ?_
                                      refine aw_seq ?_
                                      refine aw_region ?_
                                      refine g_u (s_as_imm rfl rfl) ?_
                                      refine g_nil ?_
                                      refine normal_thn ?_
                                      refine aw_ret ?_
                                      refine ret_blk ?_
                                      refine ret_thn ?_
                                      refine ret_thn ?_
                                      refine ret_blk ?_
                                      refine ret_thn ?_
                                      exact ⟨⟨(rfl : toAV (Al.look _ _) = some _).trans (congrArg some (by (exact congrArg bv (by first | exact (decide_eq_false (fun e => q ⟨congrArg GSpan.code e, congrArg GSpan.note e⟩)).symm | exact (decide_eq_false (fun e => q (by rw [e]))).symm | exact (decide_eq_true (GSpan.ext' e0 e1 e2 e3 e4 e5 e6 e7 e9 (ext_nth ge0 e10 (fun j hj => hev j (by omega))) (ext_nth gl0 e11 (fun j hj => h4 j (by omega))) e8.1 e8.2)).symm)))), rfl⟩, trivial⟩
                                    · rw [hb19]
                                      have g2 : (nthL a.links j).span = (nthL b.links j).span := by have e := hb19; simpa using e
                                      refine g_run rfl rfl (s_fieldAddr rfl rfl fa88_2 rfl) ?_
                                      refine g_run rfl rfl (s_load_imm rfl rfl rfl tA9 tS9 rfl rfl) ?_
                                      refine g_run rfl rfl (s_fieldAddr rfl rfl fa88_2 rfl) ?_
                                      refine g_run rfl rfl (s_load_imm rfl rfl rfl tA9 tS9 rfl rfl) ?_
                                      refine g_run rfl rfl (s_neS rfl rfl rfl) ?_
                                      refine g_u (s_pick_f rfl rfl rfl) ?_
                                      refine g_u (s_mv_imm rfl rfl) ?_
                                      refine g_case (t := 169) rfl ?_
                                      rintro (hb20 | hb20)
                                      · rw [hb20]
                                        have q : ¬ (nthL a.links j).state = (nthL b.links j).state := by have e := hb20; rw [str_beq] at e; simpa using e
                                        refine g_skip rfl rfl rfl ?_
                                        refine g_skip rfl rfl rfl ?_
                                        refine g_skip rfl rfl rfl ?_
                                        refine g_skip rfl rfl rfl ?_
                                        refine g_skip rfl rfl rfl ?_
                                        refine g_skip rfl rfl rfl ?_
                                        refine g_u (s_pick_t rfl rfl rfl) ?_
                                        refine g_nil ?_
                                        refine normal_thn ?_
                                        refine aw_cond_true rfl ?_
                                        refine aw_seq ?_
                                        refine aw_region ?_
                                        refine g_u (s_as_imm rfl rfl) ?_
                                        refine g_nil ?_
                                        refine normal_thn ?_
                                        refine aw_ret ?_
                                        refine ret_blk ?_
                                        refine ret_thn ?_
                                        refine ret_thn ?_
                                        refine ret_blk ?_
                                        refine ret_thn ?_
                                        exact ⟨⟨(rfl : toAV (Al.look _ _) = some _).trans (congrArg some (by (exact congrArg bv (by first | exact (decide_eq_false (fun e => q ⟨congrArg GSpan.code e, congrArg GSpan.note e⟩)).symm | exact (decide_eq_false (fun e => q (by rw [e]))).symm | exact (decide_eq_true (GSpan.ext' e0 e1 e2 e3 e4 e5 e6 e7 e9 (ext_nth ge0 e10 (fun j hj => hev j (by omega))) (ext_nth gl0 e11 (fun j hj => h4 j (by omega))) e8.1 e8.2)).symm)))), rfl⟩, trivial⟩
                                      · rw [hb20]
                                        have g3 : (nthL a.links j).state = (nthL b.links j).state := by have e := hb20; rw [str_beq] at e; simpa using e
                                        refine g_run rfl rfl (s_fieldAddr rfl rfl fa88_3 rfl) ?_
                                        refine g_run rfl rfl (s_load_imm rfl rfl rfl tA30 tS30 rfl rfl) ?_
                                        refine g_run rfl rfl (s_fieldAddr rfl rfl fa88_3 rfl) ?_
                                        refine g_run rfl rfl (s_load_imm rfl rfl rfl tA30 tS30 rfl rfl) ?_
                                        refine g_run rfl rfl (s_call1 (rsameAs_c _ _ (by omega)) rfl rfl) ?_
                                        refine g_run rfl rfl (s_not rfl rfl) ?_
                                        refine g_u (s_pick_f rfl rfl rfl) ?_
                                        refine g_nil ?_
                                        refine normal_thn ?_
                                        refine aw_cond rfl (fun hb21 => ?_) (fun hb21 => ?_)
                                        · skip
                                          have q : ¬ (nthL a.links j).attrs = (nthL b.links j).attrs := fun h => by have e := hb21; rw [h, sameAs_refl] at e; cases e
                                          refine aw_seq ?_
                                          refine aw_region ?_
                                          refine g_u (s_as_imm rfl rfl) ?_
                                          refine g_nil ?_
                                          refine normal_thn ?_
                                          refine aw_ret ?_
                                          refine ret_blk ?_
                                          refine ret_thn ?_
                                          refine ret_thn ?_
                                          refine ret_blk ?_
                                          refine ret_thn ?_
                                          exact ⟨⟨(rfl : toAV (Al.look _ _) = some _).trans (congrArg some (by (exact congrArg bv (by first | exact (decide_eq_false (fun e => q ⟨congrArg GSpan.code e, congrArg GSpan.note e⟩)).symm | exact (decide_eq_false (fun e => q (by rw [e]))).symm | exact (decide_eq_true (GSpan.ext' e0 e1 e2 e3 e4 e5 e6 e7 e9 (ext_nth ge0 e10 (fun j hj => hev j (by omega))) (ext_nth gl0 e11 (fun j hj => h4 j (by omega))) e8.1 e8.2)).symm)))), rfl⟩, trivial⟩
                                        · skip
                                          have g4 : (nthL a.links j).attrs = (nthL b.links j).attrs := (sameAs_iff _ _).1 (by have e := hb21; simpa using e)
                                          refine aw_skip ?_
                                          refine normal_blk ?_
                                          refine normal_thn ?_
                                          refine aw_region ?_
                                          refine g_u (s_mv_imm rfl rfl) ?_
                                          refine g_u (s_add rfl rfl rfl) ?_
                                          refine g_u (s_as_imm rfl rfl) ?_
                                          refine g_nil ?_
                                          refine normal_thn ?_
                                          refine ⟨j + 1, ⟨hj, fun p hp => by rcases Nat.lt_or_ge p j with h | h; exact h4 p h; rw [show p = j by omega]; exact GL.ext' g1 g2 g3 g4⟩, ⟨rfl, rfl, rfl, rfl, look_int rfl (by rw [wrap64 (by omega) (by omega)]; rfl), trivial⟩, by (try dsimp only); omega⟩
                                · skip
                                  have hjn : j = a.links.length := by have := of_decide_eq_false hb17; (try simp only [List.length_map] at this); omega
                                  refine aw_exit ?_
                                  refine exit_thn ?_
                                  refine exit_thn ?_
                                  refine exit_blk ?_
                                  refine normal_thn ?_
                                  refine aw_seq ?_
                                  refine aw_region ?_
                                  refine g_u (s_as_imm rfl rfl) ?_
                                  refine g_nil ?_
                                  refine normal_thn ?_
                                  refine aw_ret ?_
                                  exact ⟨⟨(rfl : toAV (Al.look _ _) = some _).trans (congrArg some (by (exact congrArg bv (by first | exact (decide_eq_false (fun e => q ⟨congrArg GSpan.code e, congrArg GSpan.note e⟩)).symm | exact (decide_eq_false (fun e => q (by rw [e]))).symm | exact (decide_eq_true (GSpan.ext' e0 e1 e2 e3 e4 e5 e6 e7 e9 (ext_nth ge0 e10 (fun j hj => hev j (by omega))) (ext_nth gl0 e11 (fun j hj => h4 j (by omega))) e8.1 e8.2)).symm)))), rfl⟩, trivial⟩

set_option maxHeartbeats 2000000 in
theorem rsameCs_c (a b : List GScope) (hw : sumBy GScope.wt a ≤ 1000000000) : PCall Tryd.prog Γ0 73 [.sl 3 (a.map GScope.av), .sl 3 (b.map GScope.av)] [bv (decide (a = b))] := by
  have ql := sumBy_len GScope.wt (fun e => by unfold GScope.wt; omega) a
  refine pcall_of Tryd.func73 rfl Tryd.ntmps73 (by kernel_rfl) rfl fun w0 I0 G0 => ?_
  refine aw_seq ?_
  refine aw_region ?_
  refine g_u (s_as_imm rfl rfl) ?_
  refine g_nil ?_
  refine normal_thn ?_
  refine aw_seq ?_
  refine aw_seq ?_
  refine aw_region ?_
  refine g_u (s_mv_imm rfl rfl) ?_
  refine g_u (s_lenL rfl rfl Tryd.underlying45) ?_
  refine g_u (s_mv_imm rfl rfl) ?_
  refine g_u (s_lenL rfl rfl Tryd.underlying45) ?_
  refine g_u (s_neI rfl rfl rfl) ?_
  refine g_nil ?_
  refine normal_thn ?_
  refine aw_cond rfl (fun hb1 => ?_) (fun hb1 => ?_)
  · skip
    have q : ¬ a.length = b.length := by have e := bne_iff_ne.1 hb1; simp only [List.length_map] at e; omega
    refine aw_seq ?_
    refine aw_region ?_
    refine g_u (s_as_imm rfl rfl) ?_
    refine g_nil ?_
    refine normal_thn ?_
    refine aw_ret ?_
    refine ret_thn ?_
    exact ⟨⟨(rfl : toAV (Al.look _ _) = some _).trans (congrArg some (by (exact congrArg bv (by first | exact (decide_eq_false (fun e => q (by rw [e]))).symm | exact (decide_eq_true (ext_nth gc0 el (fun j hj => h2 j (by omega)))).symm)))), rfl⟩, trivial⟩
  · skip
    have el : a.length = b.length := by have e := bne_eq_false_iff_eq.1 hb1; simp only [List.length_map] at e; omega
    refine aw_skip ?_
    refine normal_thn ?_
    refine aw_seq ?_
    refine aw_seq ?_
    refine aw_region ?_
    refine g_u (s_as_imm rfl rfl) ?_
    refine g_nil ?_
    refine normal_thn ?_
    refine aw_block ?_
    refine aw_loop' (fun i : Nat => [(0, .imm (.sl 3 (a.map GScope.av))), (1, .imm (.sl 3 (b.map GScope.av))), (5, .imm (iv (i : Int)))]) (fun i => (i ≤ a.length ∧ ∀ p, p < i → nth a p gc0 = nth b p gc0)) (fun i => a.length - i) (0) ?_ ⟨rfl, rfl, rfl, trivial⟩ ?_
    · exact ⟨Nat.zero_le _, fun j h => absurd h (Nat.not_lt_zero _)⟩
    · rintro i ⟨h1, h2⟩; (try dsimp only at h1 h2)
      refine aw_seq ?_
      refine aw_seq ?_
      refine aw_region ?_
      refine g_u (s_mv_imm rfl rfl) ?_
      refine g_u (s_mv_imm rfl rfl) ?_
      refine g_u (s_lenL rfl rfl Tryd.underlying45) ?_
      refine g_u (s_ltI rfl rfl rfl) ?_
      refine g_nil ?_
      refine normal_thn ?_
      refine aw_cond rfl (fun hb2 => ?_) (fun hb2 => ?_)
      · skip
        have hi : i < a.length := by have := of_decide_eq_true hb2; (try simp only [List.length_map] at this); omega
        have hib : i < b.length := by omega
        have hcx := sumBy_mem GScope.wt (nthC_mem hi)
        have hcq : (nthC a i).wt = 1 + (nthC a i).name.size + (nthC a i).version.size + sumBy GSpan.wt (nthC a i).spans := rfl
        have hsl := sumBy_len GSpan.wt (fun e => by unfold GSpan.wt; omega) (nthC a i).spans
        refine aw_skip ?_
        refine normal_thn ?_
        refine aw_seq ?_
        refine aw_block ?_
        refine aw_seq ?_
        refine aw_seq ?_
        refine aw_draw mixed ?_
        refine g_u (s_mv_imm rfl rfl) ?_
        refine g_u (s_mv_imm rfl rfl) ?_
        refine g_u (s_indexAddr rfl rfl rfl Tryd.underlying45 tS52 (by omega) (ixC hi)) ?_
        refine g_u (s_fieldAddr_cp rfl rfl fa52_0 rfl rfl) ?_
        refine g_u (s_load_cp rfl rfl tA9 tS9 rfl rfl) ?_
        refine g_u (s_mv_imm rfl rfl) ?_
        refine g_u (s_mv_imm rfl rfl) ?_
        refine g_u (s_indexAddr rfl rfl rfl Tryd.underlying45 tS52 (by omega) (ixC hib)) ?_
        refine g_u (s_fieldAddr_cp rfl rfl fa52_0 rfl rfl) ?_
        refine g_u (s_load_cp rfl rfl tA9 tS9 rfl rfl) ?_
        refine g_u (s_neS rfl rfl rfl) ?_
        refine g_u (s_mv_imm rfl rfl) ?_
        refine g_case (t := 29) rfl ?_
        rintro (hb3 | hb3)
        · rw [hb3]
          have q : ¬ (nthC a i).name = (nthC b i).name := by have e := hb3; rw [str_beq] at e; simpa using e
          refine g_skip rfl rfl rfl ?_
          refine g_skip rfl rfl rfl ?_
          refine g_skip rfl rfl rfl ?_
          refine g_skip rfl rfl rfl ?_
          refine g_skip rfl rfl rfl ?_
          refine g_skip rfl rfl rfl ?_
          refine g_skip rfl rfl rfl ?_
          refine g_skip rfl rfl rfl ?_
          refine g_skip rfl rfl rfl ?_
          refine g_skip rfl rfl rfl ?_
          refine g_skip rfl rfl rfl ?_
          refine g_u (s_pick_t rfl rfl rfl) ?_
          refine g_u (s_mv_imm rfl rfl) ?_
          refine g_skip rfl rfl rfl ?_
          refine g_skip rfl rfl rfl ?_
          refine g_skip rfl rfl rfl ?_
          refine g_skip rfl rfl rfl ?_
          refine g_skip rfl rfl rfl ?_
          refine g_skip rfl rfl rfl ?_
          refine g_skip rfl rfl rfl ?_
          refine g_skip rfl rfl rfl ?_
          refine g_skip rfl rfl rfl ?_
          refine g_skip rfl rfl rfl ?_
          refine g_skip rfl rfl rfl ?_
          refine g_skip rfl rfl rfl ?_
          refine g_skip rfl rfl rfl ?_
          refine g_u (s_pick_t rfl rfl rfl) ?_
          refine g_nil ⟨by kernel_rfl, ?_⟩
          refine normal_thn ?_
          refine aw_cond_true rfl ?_
          refine aw_seq ?_
          refine aw_region ?_
          refine g_u (s_as_imm rfl rfl) ?_
          refine g_nil ?_
          refine normal_thn ?_
          refine aw_ret ?_
          refine ret_thn ?_
          refine ret_blk ?_
          refine ret_thn ?_
          refine ret_thn ?_
          refine ret_blk ?_
          refine ret_thn ?_
          exact ⟨⟨(rfl : toAV (Al.look _ _) = some _).trans (congrArg some (by (exact congrArg bv (by first | exact (decide_eq_false (fun e => q (by rw [e]))).symm | exact (decide_eq_true (ext_nth gc0 el (fun j hj => h2 j (by omega)))).symm)))), rfl⟩, trivial⟩
        · rw [hb3]
          have f1 : (nthC a i).name = (nthC b i).name := by have e := hb3; rw [str_beq] at e; simpa using e
          refine g_run rfl rfl (s_mv_imm rfl rfl) ?_
          refine g_run rfl rfl (s_mv_imm rfl rfl) ?_
          refine g_run rfl rfl (s_indexAddr rfl rfl rfl Tryd.underlying45 tS52 (by omega) (ixC hi)) ?_
          refine g_run rfl rfl (s_fieldAddr_cp rfl rfl fa52_1 rfl rfl) ?_
          refine g_run rfl rfl (s_load_cp rfl rfl tA9 tS9 rfl rfl) ?_
          refine g_run rfl rfl (s_mv_imm rfl rfl) ?_
          refine g_run rfl rfl (s_mv_imm rfl rfl) ?_
          refine g_run rfl rfl (s_indexAddr rfl rfl rfl Tryd.underlying45 tS52 (by omega) (ixC hib)) ?_
          refine g_run rfl rfl (s_fieldAddr_cp rfl rfl fa52_1 rfl rfl) ?_
          refine g_run rfl rfl (s_load_cp rfl rfl tA9 tS9 rfl rfl) ?_
          refine g_run rfl rfl (s_neS rfl rfl rfl) ?_
          refine g_u (s_pick_f rfl rfl rfl) ?_
          refine g_u (s_mv_imm rfl rfl) ?_
          refine g_case (t := 42) rfl ?_
          rintro (hb4 | hb4)
          · rw [hb4]
            have q : ¬ (nthC a i).version = (nthC b i).version := by have e := hb4; rw [str_beq] at e; simpa using e
            refine g_skip rfl rfl rfl ?_
            refine g_skip rfl rfl rfl ?_
            refine g_skip rfl rfl rfl ?_
            refine g_skip rfl rfl rfl ?_
            refine g_skip rfl rfl rfl ?_
            refine g_skip rfl rfl rfl ?_
            refine g_skip rfl rfl rfl ?_
            refine g_skip rfl rfl rfl ?_
            refine g_skip rfl rfl rfl ?_
            refine g_skip rfl rfl rfl ?_
            refine g_skip rfl rfl rfl ?_
            refine g_skip rfl rfl rfl ?_
            refine g_skip rfl rfl rfl ?_
            refine g_u (s_pick_t rfl rfl rfl) ?_
            refine g_nil ⟨by kernel_rfl, ?_⟩
            refine normal_thn ?_
            refine aw_cond_true rfl ?_
            refine aw_seq ?_
            refine aw_region ?_
            refine g_u (s_as_imm rfl rfl) ?_
            refine g_nil ?_
            refine normal_thn ?_
            refine aw_ret ?_
            refine ret_thn ?_
            refine ret_blk ?_
            refine ret_thn ?_
            refine ret_thn ?_
            refine ret_blk ?_
            refine ret_thn ?_
            exact ⟨⟨(rfl : toAV (Al.look _ _) = some _).trans (congrArg some (by (exact congrArg bv (by first | exact (decide_eq_false (fun e => q (by rw [e]))).symm | exact (decide_eq_true (ext_nth gc0 el (fun j hj => h2 j (by omega)))).symm)))), rfl⟩, trivial⟩
          · rw [hb4]
            have f2 : (nthC a i).version = (nthC b i).version := by have e := hb4; rw [str_beq] at e; simpa using e
            refine g_run rfl rfl (s_mv_imm rfl rfl) ?_
            refine g_run rfl rfl (s_mv_imm rfl rfl) ?_
            refine g_run rfl rfl (s_indexAddr rfl rfl rfl Tryd.underlying45 tS52 (by omega) (ixC hi)) ?_
            refine g_run rfl rfl (s_fieldAddr_cp rfl rfl fa52_2 rfl rfl) ?_
            refine g_run rfl rfl (s_load_cp rfl rfl tA50 tS50 rfl rfl) ?_
            refine g_run rfl rfl (s_lenL rfl rfl Tryd.underlying50) ?_
            refine g_run rfl rfl (s_mv_imm rfl rfl) ?_
            refine g_run rfl rfl (s_mv_imm rfl rfl) ?_
            refine g_run rfl rfl (s_indexAddr rfl rfl rfl Tryd.underlying45 tS52 (by omega) (ixC hib)) ?_
            refine g_run rfl rfl (s_fieldAddr_cp rfl rfl fa52_2 rfl rfl) ?_
            refine g_run rfl rfl (s_load_cp rfl rfl tA50 tS50 rfl rfl) ?_
            refine g_run rfl rfl (s_lenL rfl rfl Tryd.underlying50) ?_
            refine g_run rfl rfl (s_neI rfl rfl rfl) ?_
            refine g_u (s_pick_f rfl rfl rfl) ?_
            refine g_nil ⟨by kernel_rfl, ?_⟩
            refine normal_thn ?_
            refine aw_cond rfl (fun hb5 => ?_) (fun hb5 => ?_)
            · skip
              have q : ¬ (nthC a i).spans.length = (nthC b i).spans.length := by have e := bne_iff_ne.1 hb5; simp only [List.length_map] at e; omega
              refine aw_seq ?_
              refine aw_region ?_
              refine g_u (s_as_imm rfl rfl) ?_
              refine g_nil ?_
              refine normal_thn ?_
              refine aw_ret ?_
              refine ret_thn ?_
              refine ret_blk ?_
              refine ret_thn ?_
              refine ret_thn ?_
              refine ret_blk ?_
              refine ret_thn ?_
              exact ⟨⟨(rfl : toAV (Al.look _ _) = some _).trans (congrArg some (by (exact congrArg bv (by first | exact (decide_eq_false (fun e => q (by rw [e]))).symm | exact (decide_eq_true (ext_nth gc0 el (fun j hj => h2 j (by omega)))).symm)))), rfl⟩, trivial⟩
            · skip
              have f3 : (nthC a i).spans.length = (nthC b i).spans.length := by have e := bne_eq_false_iff_eq.1 hb5; simp only [List.length_map] at e; omega
              refine aw_skip ?_
              refine normal_thn ?_
              refine aw_seq ?_
              refine aw_region ?_
              refine g_u (s_as_imm rfl rfl) ?_
              refine g_nil ?_
              refine normal_thn ?_
              refine aw_block ?_
              refine aw_loop' (fun m : Nat => [(0, .imm (.sl 3 (a.map GScope.av))), (1, .imm (.sl 3 (b.map GScope.av))), (5, .imm (iv (i : Int))), (6, .imm (iv (m : Int)))]) (fun m => (m ≤ (nthC a i).spans.length ∧ ∀ p, p < m → nth (nthC a i).spans p gs0 = nth (nthC b i).spans p gs0)) (fun m => (nthC a i).spans.length - m) (0) ?_ ⟨rfl, rfl, rfl, rfl, trivial⟩ ?_
              · exact ⟨Nat.zero_le _, fun j h => absurd h (Nat.not_lt_zero _)⟩
              · rintro m ⟨h3, h4⟩; (try dsimp only at h3 h4)
                refine aw_seq ?_
                refine aw_seq ?_
                refine aw_region ?_
                refine g_u (s_mv_imm rfl rfl) ?_
                refine g_u (s_mv_imm rfl rfl) ?_
                refine g_u (s_mv_imm rfl rfl) ?_
                refine g_u (s_indexAddr rfl rfl rfl Tryd.underlying45 tS52 (by omega) (ixC hi)) ?_
                refine g_u (s_fieldAddr_cp rfl rfl fa52_2 rfl rfl) ?_
                refine g_u (s_load_cp rfl rfl tA50 tS50 rfl rfl) ?_
                refine g_u (s_lenL rfl rfl Tryd.underlying50) ?_
                refine g_u (s_ltI rfl rfl rfl) ?_
                refine g_nil ?_
                refine normal_thn ?_
                refine aw_cond rfl (fun hb6 => ?_) (fun hb6 => ?_)
                · skip
                  have hm : m < (nthC a i).spans.length := by have := of_decide_eq_true hb6; (try simp only [List.length_map] at this); omega
                  have hmb : m < (nthC b i).spans.length := by omega
                  have hsx := sumBy_mem GSpan.wt (nthS_mem hm)
                  refine aw_skip ?_
                  refine normal_thn ?_
                  refine aw_seq ?_
                  refine aw_block ?_
                  refine aw_seq ?_
                  refine aw_draw mixed ?_
                  refine g_u (s_mv_imm rfl rfl) ?_
                  refine g_u (s_mv_imm rfl rfl) ?_
                  refine g_u (s_indexAddr rfl rfl rfl Tryd.underlying45 tS52 (by omega) (ixC hi)) ?_
                  refine g_u (s_fieldAddr_cp rfl rfl fa52_2 rfl rfl) ?_
                  refine g_u (s_load_cp rfl rfl tA50 tS50 rfl rfl) ?_
                  refine g_u (s_mv_imm rfl rfl) ?_
                  refine g_u (s_indexAddr rfl rfl rfl Tryd.underlying50 tS36 (by omega) (ixS hm)) ?_
                  refine g_u (s_load_cp rfl rfl tA36 tS36 rfl (by first | exact getS_w (GSpan.width _) rfl | rfl)) ?_
                  refine g_u (s_mv_imm rfl rfl) ?_
                  refine g_u (s_mv_imm rfl rfl) ?_
                  refine g_u (s_indexAddr rfl rfl rfl Tryd.underlying45 tS52 (by omega) (ixC hib)) ?_
                  refine g_u (s_fieldAddr_cp rfl rfl fa52_2 rfl rfl) ?_
                  refine g_u (s_load_cp rfl rfl tA50 tS50 rfl rfl) ?_
                  refine g_u (s_mv_imm rfl rfl) ?_
                  refine g_u (s_indexAddr rfl rfl rfl Tryd.underlying50 tS36 (by omega) (ixS hmb)) ?_
                  refine g_u (s_load_cp rfl rfl tA36 tS36 rfl (by first | exact getS_w (GSpan.width _) rfl | rfl)) ?_
                  refine g_u (s_call1 (rsameS_c _ _ (by omega)) rfl rfl) ?_
                  refine g_u (s_not rfl rfl) ?_
                  refine g_nil ⟨by kernel_rfl, ?_⟩
                  refine normal_thn ?_
                  refine aw_cond rfl (fun hb7 => ?_) (fun hb7 => ?_)
                  · skip
                    have q : ¬ (nthS (nthC a i).spans m) = (nthS (nthC b i).spans m) := fun h => by have e := hb7; rw [decide_eq_true h] at e; cases e
                    refine aw_seq ?_
                    refine aw_region ?_
                    refine g_u (s_as_imm rfl rfl) ?_
                    refine g_nil ?_
                    refine normal_thn ?_
                    refine aw_ret ?_
                    refine ret_blk ?_
                    refine ret_thn ?_
                    refine ret_thn ?_
                    refine ret_blk ?_
                    refine ret_blk ?_
                    refine ret_thn ?_
                    refine ret_thn ?_
                    refine ret_blk ?_
                    refine ret_thn ?_
                    exact ⟨⟨(rfl : toAV (Al.look _ _) = some _).trans (congrArg some (by (exact congrArg bv (by first | exact (decide_eq_false (fun e => q (by rw [e]))).symm | exact (decide_eq_true (ext_nth gc0 el (fun j hj => h2 j (by omega)))).symm)))), rfl⟩, trivial⟩
                  · skip
                    have f4 : (nthS (nthC a i).spans m) = (nthS (nthC b i).spans m) := by have e := hb7; simpa using e
                    refine aw_skip ?_
                    refine normal_blk ?_
                    refine normal_thn ?_
                    refine aw_region ?_
                    refine g_u (s_mv_imm rfl rfl) ?_
                    refine g_u (s_add rfl rfl rfl) ?_
                    refine g_u (s_as_imm rfl rfl) ?_
                    refine g_nil ?_
                    refine normal_thn ?_
                    refine ⟨m + 1, ⟨hm, fun p hp => by rcases Nat.lt_or_ge p m with h | h; exact h4 p h; rw [show p = m by omega]; exact f4⟩, ⟨rfl, rfl, rfl, look_int rfl (by rw [wrap64 (by omega) (by omega)]; rfl), trivial⟩, by (try dsimp only); omega⟩
                · skip
                  have hmn : m = (nthC a i).spans.length := by have := of_decide_eq_false hb6; (try simp only [List.length_map] at this); omega
                  refine aw_exit ?_
                  refine exit_thn ?_
                  refine exit_thn ?_
                  refine exit_blk ?_
                  refine normal_blk ?_
                  refine normal_thn ?_
                  refine aw_region ?_
                  refine g_u (s_mv_imm rfl rfl) ?_
                  refine g_u (s_add rfl rfl rfl) ?_
                  refine g_u (s_as_imm rfl rfl) ?_
                  refine g_nil ?_
                  refine normal_thn ?_
                  refine ⟨i + 1, ⟨hi, fun j hj => by rcases Nat.lt_or_ge j i with h | h; exact h2 j h; rw [show j = i by omega]; exact GScope.ext' f1 f2 (show (nthC a i).spans = (nthC b i).spans from ext_nth gs0 f3 (fun j hj => h4 j (by omega)))⟩, ⟨rfl, rfl, look_int rfl (by rw [wrap64 (by omega) (by omega)]; rfl), trivial⟩, by (try dsimp only); omega⟩
      · skip
        have hin : i = a.length := by have := of_decide_eq_false hb2; (try simp only [List.length_map] at this); omega
        refine aw_exit ?_
        refine exit_thn ?_
        refine exit_thn ?_
        refine exit_blk ?_
        refine normal_thn ?_
        refine aw_seq ?_
        refine aw_region ?_
        refine g_u (s_as_imm rfl rfl) ?_
        refine g_nil ?_
        refine normal_thn ?_
        refine aw_ret ?_
        exact ⟨⟨(rfl : toAV (Al.look _ _) = some _).trans (congrArg some (by (exact congrArg bv (by first | exact (decide_eq_false (fun e => q (by rw [e]))).symm | exact (decide_eq_true (ext_nth gc0 el (fun j hj => h2 j (by omega)))).symm)))), rfl⟩, trivial⟩

set_option maxHeartbeats 2000000 in
theorem rsameB_c (a b : List GRes) (hw : wtB a ≤ 1000000000) : PCall Tryd.prog Γ0 28 [batchAv a, batchAv b] [bv (decide (a = b))] := by
  have ql := sumBy_len GRes.wt (fun e => by unfold GRes.wt; omega) a
  have qw : wtB a = sumBy GRes.wt a := rfl
  refine pcall_of Tryd.func28 rfl Tryd.ntmps28 (by kernel_rfl) rfl fun w0 I0 G0 => ?_
  refine aw_seq ?_
  refine aw_region ?_
  refine g_uG (s_box_imm 1002 rfl rfl rfl rfl) rfl ?_
  refine g_uG (s_box_imm 1003 rfl rfl rfl rfl) rfl ?_
  refine g_u (s_as_imm rfl rfl) ?_
  refine g_nil ?_
  refine normal_thn ?_
  refine aw_seq ?_
  refine aw_seq ?_
  refine aw_region ?_
  refine g_u (s_fieldAddr rfl rfl fa24_0 rfl) ?_
  refine g_u (s_load_imm rfl rfl rfl tA22 tS22 rfl rfl) ?_
  refine g_u (s_lenL rfl rfl Tryd.underlying22) ?_
  refine g_u (s_fieldAddr rfl rfl fa24_0 rfl) ?_
  refine g_u (s_load_imm rfl rfl rfl tA22 tS22 rfl rfl) ?_
  refine g_u (s_lenL rfl rfl Tryd.underlying22) ?_
  refine g_u (s_neI rfl rfl rfl) ?_
  refine g_nil ?_
  refine normal_thn ?_
  refine aw_cond rfl (fun hb1 => ?_) (fun hb1 => ?_)
  · skip
    have q : ¬ a.length = b.length := by have e := bne_iff_ne.1 hb1; simp only [List.length_map] at e; omega
    refine aw_seq ?_
    refine aw_region ?_
    refine g_u (s_as_imm rfl rfl) ?_
    refine g_nil ?_
    refine normal_thn ?_
    refine aw_ret ?_
    refine ret_thn ?_
    exact ⟨⟨(rfl : toAV (Al.look _ _) = some _).trans (congrArg some (by (exact congrArg bv (by first | exact (decide_eq_false (fun e => q (by rw [e]))).symm | exact (decide_eq_true (ext_nth gr0 el (fun j hj => h2 j (by omega)))).symm)))), rfl⟩, trivial⟩
  · skip
    have el : a.length = b.length := by have e := bne_eq_false_iff_eq.1 hb1; simp only [List.length_map] at e; omega
    refine aw_skip ?_
    refine normal_thn ?_
    refine aw_seq ?_
    refine aw_seq ?_
    refine aw_region ?_
    refine g_u (s_as_imm rfl rfl) ?_
    refine g_nil ?_
    refine normal_thn ?_
    refine aw_block ?_
    refine aw_loop' (fun i : Nat => [(2, .ptr 1002 0), (1002, .box 24 (.imm (batchAv a))), (3, .ptr 1003 0), (1003, .box 24 (.imm (batchAv b))), (5, .imm (iv (i : Int)))]) (fun i => (i ≤ a.length ∧ ∀ p, p < i → nth a p gr0 = nth b p gr0)) (fun i => a.length - i) (0) ?_ ⟨rfl, rfl, rfl, rfl, rfl, trivial⟩ ?_
    · exact ⟨Nat.zero_le _, fun j h => absurd h (Nat.not_lt_zero _)⟩
    · rintro i ⟨h1, h2⟩; (try dsimp only at h1 h2)
      refine aw_seq ?_
      refine aw_seq ?_
      refine aw_region ?_
      refine g_u (s_mv_imm rfl rfl) ?_
      refine g_u (s_fieldAddr rfl rfl fa24_0 rfl) ?_
      refine g_u (s_load_imm rfl rfl rfl tA22 tS22 rfl rfl) ?_
      refine g_u (s_lenL rfl rfl Tryd.underlying22) ?_
      refine g_u (s_ltI rfl rfl rfl) ?_
      refine g_nil ?_
      refine normal_thn ?_
      refine aw_cond rfl (fun hb2 => ?_) (fun hb2 => ?_)
      · skip
        have hi : i < a.length := by have := of_decide_eq_true hb2; (try simp only [List.length_map] at this); omega
        have hib : i < b.length := by omega
        have hrx := sumBy_mem GRes.wt (nthR_mem hi)
        have hrq : (nthR a i).wt = 1 + wtAs (nthR a i).attrs + sumBy GScope.wt (nthR a i).scopes := rfl
        refine aw_skip ?_
        refine normal_thn ?_
        refine aw_seq ?_
        refine aw_block ?_
        refine aw_seq ?_
        refine aw_draw mixed ?_
        refine g_u (s_fieldAddr rfl rfl fa24_0 rfl) ?_
        refine g_u (s_load_imm rfl rfl rfl tA22 tS22 rfl rfl) ?_
        refine g_u (s_mv_imm rfl rfl) ?_
        refine g_u (s_indexAddr rfl rfl rfl Tryd.underlying22 tS47 (by omega) (ixR hi)) ?_
        refine g_u (s_fieldAddr_cp rfl rfl fa47_0 rfl rfl) ?_
        refine g_u (s_load_cp rfl rfl tA30 tS30 rfl rfl) ?_
        refine g_u (s_fieldAddr rfl rfl fa24_0 rfl) ?_
        refine g_u (s_load_imm rfl rfl rfl tA22 tS22 rfl rfl) ?_
        refine g_u (s_mv_imm rfl rfl) ?_
        refine g_u (s_indexAddr rfl rfl rfl Tryd.underlying22 tS47 (by omega) (ixR hib)) ?_
        refine g_u (s_fieldAddr_cp rfl rfl fa47_0 rfl rfl) ?_
        refine g_u (s_load_cp rfl rfl tA30 tS30 rfl rfl) ?_
        refine g_u (s_call1 (rsameAs_c _ _ (by omega)) rfl rfl) ?_
        refine g_u (s_not rfl rfl) ?_
        refine g_u (s_mv_imm rfl rfl) ?_
        refine g_case (t := 34) rfl ?_
        rintro (hb3 | hb3)
        · rw [hb3]
          have q : ¬ (nthR a i).attrs = (nthR b i).attrs := fun h => by have e := hb3; rw [h, sameAs_refl] at e; cases e
          refine g_skip rfl rfl rfl ?_
          refine g_skip rfl rfl rfl ?_
          refine g_skip rfl rfl rfl ?_
          refine g_skip rfl rfl rfl ?_
          refine g_skip rfl rfl rfl ?_
          refine g_skip rfl rfl rfl ?_
          refine g_skip rfl rfl rfl ?_
          refine g_skip rfl rfl rfl ?_
          refine g_skip rfl rfl rfl ?_
          refine g_skip rfl rfl rfl ?_
          refine g_skip rfl rfl rfl ?_
          refine g_skip rfl rfl rfl ?_
          refine g_skip rfl rfl rfl ?_
          refine g_skip rfl rfl rfl ?_
          refine g_u (s_pick_t rfl rfl rfl) ?_
          refine g_nil ⟨by kernel_rfl, ?_⟩
          refine normal_thn ?_
          refine aw_cond_true rfl ?_
          refine aw_seq ?_
          refine aw_region ?_
          refine g_u (s_as_imm rfl rfl) ?_
          refine g_nil ?_
          refine normal_thn ?_
          refine aw_ret ?_
          refine ret_blk ?_
          refine ret_thn ?_
          refine ret_thn ?_
          refine ret_blk ?_
          refine ret_thn ?_
          exact ⟨⟨(rfl : toAV (Al.look _ _) = some _).trans (congrArg some (by (exact congrArg bv (by first | exact (decide_eq_false (fun e => q (by rw [e]))).symm | exact (decide_eq_true (ext_nth gr0 el (fun j hj => h2 j (by omega)))).symm)))), rfl⟩, trivial⟩
        · rw [hb3]
          have f1 : (nthR a i).attrs = (nthR b i).attrs := (sameAs_iff _ _).1 (by have e := hb3; simpa using e)
          refine g_run rfl rfl (s_fieldAddr rfl rfl fa24_0 rfl) ?_
          refine g_run rfl rfl (s_load_imm rfl rfl rfl tA22 tS22 rfl rfl) ?_
          refine g_run rfl rfl (s_mv_imm rfl rfl) ?_
          refine g_run rfl rfl (s_indexAddr rfl rfl rfl Tryd.underlying22 tS47 (by omega) (ixR hi)) ?_
          refine g_run rfl rfl (s_fieldAddr_cp rfl rfl fa47_1 rfl rfl) ?_
          refine g_run rfl rfl (s_load_cp rfl rfl tA45 tS45 rfl rfl) ?_
          refine g_run rfl rfl (s_fieldAddr rfl rfl fa24_0 rfl) ?_
          refine g_run rfl rfl (s_load_imm rfl rfl rfl tA22 tS22 rfl rfl) ?_
          refine g_run rfl rfl (s_mv_imm rfl rfl) ?_
          refine g_run rfl rfl (s_indexAddr rfl rfl rfl Tryd.underlying22 tS47 (by omega) (ixR hib)) ?_
          refine g_run rfl rfl (s_fieldAddr_cp rfl rfl fa47_1 rfl rfl) ?_
          refine g_run rfl rfl (s_load_cp rfl rfl tA45 tS45 rfl rfl) ?_
          refine g_run rfl rfl (s_call1 (rsameCs_c _ _ (by omega)) rfl rfl) ?_
          refine g_run rfl rfl (s_not rfl rfl) ?_
          refine g_u (s_pick_f rfl rfl rfl) ?_
          refine g_nil ⟨by kernel_rfl, ?_⟩
          refine normal_thn ?_
          refine aw_cond rfl (fun hb4 => ?_) (fun hb4 => ?_)
          · skip
            have q : ¬ (nthR a i).scopes = (nthR b i).scopes := fun h => by have e := hb4; rw [decide_eq_true h] at e; cases e
            refine aw_seq ?_
            refine aw_region ?_
            refine g_u (s_as_imm rfl rfl) ?_
            refine g_nil ?_
            refine normal_thn ?_
            refine aw_ret ?_
            refine ret_blk ?_
            refine ret_thn ?_
            refine ret_thn ?_
            refine ret_blk ?_
            refine ret_thn ?_
            exact ⟨⟨(rfl : toAV (Al.look _ _) = some _).trans (congrArg some (by (exact congrArg bv (by first | exact (decide_eq_false (fun e => q (by rw [e]))).symm | exact (decide_eq_true (ext_nth gr0 el (fun j hj => h2 j (by omega)))).symm)))), rfl⟩, trivial⟩
          · skip
            have f2 : (nthR a i).scopes = (nthR b i).scopes := by have e := hb4; simpa using e
            refine aw_skip ?_
            refine normal_blk ?_
            refine normal_thn ?_
            refine aw_region ?_
            refine g_u (s_mv_imm rfl rfl) ?_
            refine g_u (s_add rfl rfl rfl) ?_
            refine g_u (s_as_imm rfl rfl) ?_
            refine g_nil ?_
            refine normal_thn ?_
            refine ⟨i + 1, ⟨hi, fun j hj => by rcases Nat.lt_or_ge j i with h | h; exact h2 j h; rw [show j = i by omega]; exact GRes.ext' f1 f2⟩, ⟨rfl, rfl, rfl, rfl, look_int rfl (by rw [wrap64 (by omega) (by omega)]; rfl), trivial⟩, by (try dsimp only); omega⟩
      · skip
        have hin : i = a.length := by have := of_decide_eq_false hb2; (try simp only [List.length_map] at this); omega
        refine aw_exit ?_
        refine exit_thn ?_
        refine exit_thn ?_
        refine exit_blk ?_
        refine normal_thn ?_
        refine aw_seq ?_
        refine aw_region ?_
        refine g_u (s_as_imm rfl rfl) ?_
        refine g_nil ?_
        refine normal_thn ?_
        refine aw_ret ?_
        exact ⟨⟨(rfl : toAV (Al.look _ _) = some _).trans (congrArg some (by (exact congrArg bv (by first | exact (decide_eq_false (fun e => q (by rw [e]))).symm | exact (decide_eq_true (ext_nth gr0 el (fun j hj => h2 j (by omega)))).symm)))), rfl⟩, trivial⟩

end Go.Proofs

namespace Go.Al
open Go.RowKit
/-- Bytes, one by one, are an array of bytes. -/
theorem up_bytes {l : List UInt8} {n : Nat} (h : l.length = n) : Up (.agg (bytesL l)) (.arr n l) := by
  have hw : ∀ x ∈ bytesL l, x.width = 1 := W1.bytes l
  refine ⟨rfl, ?_, fun w I c r => ?_⟩
  · have key : ∀ l : List UInt8, AV.widths (bytesL l) = l.length := by
      intro l
      induction l with
      | nil => rfl
      | cons b l ih => simp only [bytesL, List.map_cons, AV.widths, List.length_cons] at ih ⊢; rw [ih]; simp only [AV.width, byteV, Value.cells]; show 1 + _ = _; omega
    show n = AV.widths (bytesL l)
    rw [key, h]
  · simp only [RepC] at r ⊢
    exact ⟨repE_bytes_inv l c ((repCs_E (n := 1) hw).1 r), h⟩
end Go.Al

namespace Go.Proofs
open Go Go.Al
set_option maxRecDepth 10000
theorem tV26 : IsZero Tryd.prog 26 (.agg (List.replicate 16 (.v (.int .u8 0)))) := ⟨.agg #[.int .u8 0, .int .u8 0, .int .u8 0, .int .u8 0, .int .u8 0, .int .u8 0, .int .u8 0, .int .u8 0, .int .u8 0, .int .u8 0, .int .u8 0, .int .u8 0, .int .u8 0, .int .u8 0, .int .u8 0, .int .u8 0], by kernel_rfl, by kernel_rfl⟩
theorem tV28 : IsZero Tryd.prog 28 (.agg (List.replicate 8 (.v (.int .u8 0)))) := ⟨.agg #[.int .u8 0, .int .u8 0, .int .u8 0, .int .u8 0, .int .u8 0, .int .u8 0, .int .u8 0, .int .u8 0], by kernel_rfl, by kernel_rfl⟩
def kLib : ByteArray := ⟨#[108, 105, 98]⟩
def kShop : ByteArray := ⟨#[115, 104, 111, 112]⟩
def kKV : ByteArray := ⟨#[107, 61, 118]⟩
def L32 : List GA := [.mk kA zeroV, .mk k_error zeroV, .mk k_code zeroV, .mk k_note zeroV, .mk k_kind zeroV]
def gE32 : GE := ⟨0, ⟨#[]⟩, [.mk k_event zeroV]⟩
def gS32 : GSpan := ⟨1 :: List.replicate 15 0, 2 :: List.replicate 7 0, List.replicate 8 0, kKV, ⟨#[]⟩, 0, 1999, 4001, L32, [gE32], [], 0, ⟨#[]⟩⟩
def gR32 : GRes := ⟨[], [⟨kLib, ⟨#[]⟩, [gS32]⟩, ⟨⟨#[]⟩, ⟨#[]⟩, []⟩]⟩
theorem az_ok {k : ByteArray} (h : k.size ≤ maxLen) : (GA.mk k zeroV).ok := (GA.ok_iff _).2 ⟨h, zeroV_ok⟩
theorem L32_ok : ∀ a ∈ L32, a.ok := by
  intro a ha
  simp only [L32, List.mem_cons, List.not_mem_nil, or_false] at ha
  rcases ha with rfl | rfl | rfl | rfl | rfl <;> exact az_ok (by decide)
theorem gE32_ok : gE32.ok := ⟨⟨by decide, by decide⟩, by decide, fun a ha => by cases List.mem_singleton.1 ha; exact az_ok (by decide)⟩
theorem gS32_ok : gS32.ok := ⟨⟨by decide, by decide, by decide⟩, ⟨by decide, by decide, by decide⟩, ⟨by unfold i64; decide, by unfold u64; decide, by unfold u64; decide, by unfold i64; decide⟩, L32_ok, (fun a h => by cases List.mem_singleton.1 h; exact gE32_ok), (fun a h => by cases h)⟩
theorem gR32_ok : okB [gR32] := fun r hr => by
  cases List.mem_singleton.1 hr
  refine ⟨fun a h => (by cases h), fun c hc => ?_⟩
  rcases List.mem_cons.1 hc with rfl | hc
  · exact ⟨by decide, by decide, fun s hs => by cases List.mem_singleton.1 hs; exact gS32_ok⟩
  · cases List.mem_singleton.1 hc
    exact ⟨by decide, by decide, fun s hs => by cases hs⟩
def sAv32 : AV := .agg [.agg (bytesL gS32.trace), .agg (bytesL gS32.id), .arr 8 gS32.parent, sv kKV, sv ⟨#[]⟩, iv 0, uv 1999, uv 4001, .sl 7 (L32.map avA), .sl 3 [gE32.av], .sl 26 [], .agg [iv 0, sv ⟨#[]⟩]]
theorem up32 : Up sAv32 gS32.av := Up.agg ⟨up_bytes rfl, up_bytes rfl, Up.refl _, Up.refl _, Up.refl _, Up.refl _, Up.refl _, Up.refl _, Up.refl _, Up.refl _, Up.refl _, Up.refl _, trivial⟩
theorem of32 : PCall Tryd.prog Γ0 29 [.agg [.sl 2 [.agg [.sl 7 [], .sl 3 [.agg [sv kLib, sv ⟨#[]⟩, .sl 42 [sAv32]], .agg [sv ⟨#[]⟩, sv ⟨#[]⟩, .sl 42 []]]]]]] [batchAv (njB [gR32])] :=
  (njB_c [gR32] gR32_ok (by decide) (fun r hr => by cases List.mem_singleton.1 hr; trivial)).args ⟨Up.agg ⟨Up.sl ⟨Up.agg ⟨Up.refl _, Up.sl ⟨Up.agg ⟨Up.refl _, Up.refl _, Up.sl ⟨up32, trivial⟩, trivial⟩, Up.refl _, trivial⟩, trivial⟩, trivial⟩, trivial⟩, trivial⟩

set_option maxRecDepth 100000 in
set_option maxHeartbeats 4000000 in
theorem works32_c : PCall Tryd.prog Γ0 26 [] [bv true] := by
  refine pcall_of Tryd.func26 rfl Tryd.ntmps26 (by kernel_rfl) rfl fun w0 I0 G0 => ?_
  refine aw_seq ?_
  refine aw_region ?_
  refine g_u (s_as_imm rfl rfl) ?_
  refine g_nil ?_
  refine normal_thn ?_
  refine aw_seq ?_
  refine aw_region ?_
  refine g_u (s_build_arr rfl tV26 Tryd.underlying26 tS5 rfl rfl rfl rfl) ?_
  refine g_u (s_build_arr rfl tV28 Tryd.underlying28 tS5 rfl rfl rfl rfl) ?_
  refine g_u (s_build rfl tU76 us76 pl76 rfl rfl rfl rfl) ?_
  refine g_u (s_build rfl tU76 us76 pl76 rfl rfl rfl rfl) ?_
  refine g_u (s_build rfl tU76 us76 pl76 rfl rfl rfl rfl) ?_
  refine g_u (s_build rfl tU76 us76 pl76 rfl rfl rfl rfl) ?_
  refine g_u (s_build rfl tU76 us76 pl76 rfl rfl rfl rfl) ?_
  refine g_u (s_buildSlice (X0 := z76) rfl Tryd.underlying30 tS76 tZ76 rfl rfl rfl rfl rfl rfl rfl rfl) ?_
  refine g_u (s_build rfl tU76 us76 pl76 rfl rfl rfl rfl) ?_
  refine g_u (s_buildSlice (X0 := z76) rfl Tryd.underlying30 tS76 tZ76 rfl rfl rfl rfl rfl rfl rfl rfl) ?_
  refine g_u (s_build rfl tU86 us86 pl86 rfl rfl rfl rfl) ?_
  refine g_u (s_buildSlice (X0 := z86) rfl Tryd.underlying31 tS86 tZ86 rfl rfl rfl rfl rfl rfl rfl rfl) ?_
  refine g_u (s_build rfl tU36 us36 pl36 rfl rfl rfl rfl) ?_
  refine g_uG (s_alloc' 1001 rfl rfl rfl tZ36) rfl ?_
  refine g_u (s_store_imm rfl rfl rfl tS36 (by first | exact beqW (GSpan.width _) | rfl) (by first | exact setS_w (z36_w.trans (GSpan.width _).symm) rfl | rfl)) ?_
  refine g_nil ?_
  refine normal_thn ?_
  refine aw_seq ?_
  refine aw_region ?_
  refine g_u (s_load_imm rfl rfl rfl tA36 tS36 rfl (by first | exact getS_w (GSpan.width _) rfl | rfl)) ?_
  refine g_u (s_buildSlice (X0 := z36) rfl Tryd.underlying50 tS36 tZ36 rfl rfl rfl rfl rfl rfl rfl rfl) ?_
  refine g_u (s_build rfl tU52 us52 pl52 rfl rfl rfl rfl) ?_
  refine g_u (s_build rfl tU52 us52 pl52 rfl rfl rfl rfl) ?_
  refine g_u (s_buildSlice (X0 := z52) rfl Tryd.underlying45 tS52 tZ52 rfl rfl rfl rfl rfl rfl rfl rfl) ?_
  refine g_u (s_build rfl tU47 us47 pl47 rfl rfl rfl rfl) ?_
  refine g_u (s_buildSlice (X0 := z47) rfl Tryd.underlying22 tS47 tZ47 rfl rfl rfl rfl rfl rfl rfl rfl) ?_
  refine g_u (s_build rfl tU24 us24 pl24 rfl rfl rfl rfl) ?_
  refine g_u (s_call1 (of32) rfl rfl) ?_
  refine g_uG (s_alloc' 1002 rfl rfl rfl tZ24) rfl ?_
  refine g_u (s_store_imm rfl rfl rfl tS24 rfl rfl) ?_
  refine g_nil ?_
  refine normal_thn ?_
  refine aw_seq ?_
  refine aw_seq ?_
  refine aw_region ?_
  refine g_u (s_fieldAddr rfl rfl fa24_0 rfl) ?_
  refine g_u (s_load_imm rfl rfl rfl tA22 tS22 rfl rfl) ?_
  refine g_u (s_lenL rfl rfl Tryd.underlying22) ?_
  refine g_u (s_neI rfl rfl rfl) ?_
  refine g_u (s_mv_imm rfl rfl) ?_
  refine g_case (t := 30) rfl ?_
  rintro (hb1 | hb1)
  · exact killF hb1 (by first | rfl | decide +kernel)
  · rw [hb1]
    refine g_run rfl rfl (s_fieldAddr rfl rfl fa24_0 rfl) ?_
    refine g_run rfl rfl (s_load_imm rfl rfl rfl tA22 tS22 rfl rfl) ?_
    refine g_run rfl rfl (s_indexAddr rfl rfl rfl Tryd.underlying22 tS47 (by decide) (ixR (l := njB [gR32]) (i := 0) (by decide +kernel))) ?_
    refine g_run rfl rfl (s_fieldAddr_cp rfl rfl fa47_1 rfl rfl) ?_
    refine g_run rfl rfl (s_load_cp rfl rfl tA45 tS45 rfl rfl) ?_
    refine g_run rfl rfl (s_lenL rfl rfl Tryd.underlying45) ?_
    refine g_run rfl rfl (s_neI rfl rfl rfl) ?_
    refine g_u (s_pick_f rfl rfl rfl) ?_
    refine g_u (s_mv_imm rfl rfl) ?_
    refine g_case (t := 39) rfl ?_
    rintro (hb2 | hb2)
    · exact killF hb2 (by first | rfl | decide +kernel)
    · rw [hb2]
      refine g_run rfl rfl (s_fieldAddr rfl rfl fa24_0 rfl) ?_
      refine g_run rfl rfl (s_load_imm rfl rfl rfl tA22 tS22 rfl rfl) ?_
      refine g_run rfl rfl (s_indexAddr rfl rfl rfl Tryd.underlying22 tS47 (by decide) (ixR (l := njB [gR32]) (i := 0) (by decide +kernel))) ?_
      refine g_run rfl rfl (s_fieldAddr_cp rfl rfl fa47_1 rfl rfl) ?_
      refine g_run rfl rfl (s_load_cp rfl rfl tA45 tS45 rfl rfl) ?_
      refine g_run rfl rfl (s_indexAddr rfl rfl rfl Tryd.underlying45 tS52 (by decide) (ixC (l := (nthR (njB [gR32]) 0).scopes) (i := 0) (by decide +kernel))) ?_
      refine g_run rfl rfl (s_fieldAddr_cp rfl rfl fa52_2 rfl rfl) ?_
      refine g_run rfl rfl (s_load_cp rfl rfl tA50 tS50 rfl rfl) ?_
      refine g_run rfl rfl (s_lenL rfl rfl Tryd.underlying50) ?_
      refine g_run rfl rfl (s_neI rfl rfl rfl) ?_
      refine g_u (s_pick_f rfl rfl rfl) ?_
      refine g_nil ?_
      refine normal_thn ?_
      refine aw_cond rfl (fun hb3 => ?_) (fun hb3 => ?_)
      · exact killF hb3 (by first | rfl | decide +kernel)
      · skip
        refine aw_skip ?_
        refine normal_thn ?_
        refine aw_seq ?_
        refine aw_region ?_
        refine g_u (s_fieldAddr rfl rfl fa24_0 rfl) ?_
        refine g_u (s_load_imm rfl rfl rfl tA22 tS22 rfl rfl) ?_
        refine g_u (s_indexAddr rfl rfl rfl Tryd.underlying22 tS47 (by decide) (ixR (l := njB [gR32]) (i := 0) (by decide +kernel))) ?_
        refine g_u (s_fieldAddr_cp rfl rfl fa47_1 rfl rfl) ?_
        refine g_u (s_load_cp rfl rfl tA45 tS45 rfl rfl) ?_
        refine g_u (s_indexAddr rfl rfl rfl Tryd.underlying45 tS52 (by decide) (ixC (l := (nthR (njB [gR32]) 0).scopes) (i := 0) (by decide +kernel))) ?_
        refine g_u (s_fieldAddr_cp rfl rfl fa52_2 rfl rfl) ?_
        refine g_u (s_load_cp rfl rfl tA50 tS50 rfl rfl) ?_
        refine g_u (s_indexAddr rfl rfl rfl Tryd.underlying50 tS36 (by decide) (ixS (l := (nthC (nthR (njB [gR32]) 0).scopes 0).spans) (i := 0) (by decide +kernel))) ?_
        refine g_u (s_load_cp rfl rfl tA36 tS36 rfl (by first | exact getS_w (GSpan.width _) rfl | rfl)) ?_
        refine g_uG (s_alloc' 1003 rfl rfl rfl tZ36) rfl ?_
        refine g_u (s_store_imm rfl rfl rfl tS36 (by first | exact beqW (GSpan.width _) | rfl) (by first | exact setS_w (z36_w.trans (GSpan.width _).symm) rfl | rfl)) ?_
        refine g_nil ?_
        refine normal_thn ?_
        refine aw_seq ?_
        refine aw_region ?_
        refine g_u (s_fieldAddr rfl rfl fa36_6 rfl) ?_
        refine g_u (s_load_imm rfl rfl rfl tA29 tS29 rfl rfl) ?_
        refine g_u (s_eqI rfl rfl rfl) ?_
        refine g_u (s_mv_imm rfl rfl) ?_
        refine g_case (t := 64) rfl ?_
        rintro (hb4 | hb4)
        · rw [hb4]
          refine g_run rfl rfl (s_fieldAddr rfl rfl fa36_7 rfl) ?_
          refine g_run rfl rfl (s_load_imm rfl rfl rfl tA29 tS29 rfl rfl) ?_
          refine g_run rfl rfl (s_eqI rfl rfl rfl) ?_
          refine g_u (s_pick_t rfl rfl rfl) ?_
          refine g_u (s_mv_imm rfl rfl) ?_
          refine g_case (t := 69) rfl ?_
          rintro (hb5 | hb5)
          · rw [hb5]
            refine g_run rfl rfl (s_fieldAddr rfl rfl fa36_3 rfl) ?_
            refine g_run rfl rfl (s_load_imm rfl rfl rfl tA9 tS9 rfl rfl) ?_
            refine g_run rfl rfl (s_eqS rfl rfl rfl) ?_
            refine g_u (s_pick_t rfl rfl rfl) ?_
            refine g_u (s_mv_imm rfl rfl) ?_
            refine g_case (t := 74) rfl ?_
            rintro (hb6 | hb6)
            · rw [hb6]
              refine g_run rfl rfl (s_fieldAddr rfl rfl fa36_8 rfl) ?_
              refine g_run rfl rfl (s_load_imm rfl rfl rfl tA30 tS30 rfl rfl) ?_
              refine g_run rfl rfl (s_lenL rfl rfl Tryd.underlying30) ?_
              refine g_run rfl rfl (s_eqI rfl rfl rfl) ?_
              refine g_u (s_pick_t rfl rfl rfl) ?_
              refine g_u (s_mv_imm rfl rfl) ?_
              refine g_case (t := 80) rfl ?_
              rintro (hb7 | hb7)
              · rw [hb7]
                refine g_run rfl rfl (s_fieldAddr rfl rfl fa36_8 rfl) ?_
                refine g_run rfl rfl (s_load_imm rfl rfl rfl tA30 tS30 rfl rfl) ?_
                refine g_run rfl rfl (s_indexAddr rfl rfl rfl Tryd.underlying30 tS76 (by decide) (ixA (l := (nthS (nthC (nthR (njB [gR32]) 0).scopes 0).spans 0).attrs) (i := 0) (by decide +kernel))) ?_
                refine g_run rfl rfl (s_fieldAddr_cp rfl rfl fa76_1 rfl rfl) ?_
                refine g_run rfl rfl (s_fieldAddr_cp rfl rfl fa67_0 rfl rfl) ?_
                refine g_run rfl rfl (s_load_cp rfl rfl tA5 tS5 rfl rfl) ?_
                refine g_run rfl rfl (s_eqI rfl rfl rfl) ?_
                refine g_u (s_pick_t rfl rfl rfl) ?_
                refine g_u (s_mv_imm rfl rfl) ?_
                refine g_case (t := 89) rfl ?_
                rintro (hb8 | hb8)
                · rw [hb8]
                  refine g_run rfl rfl (s_fieldAddr rfl rfl fa36_9 rfl) ?_
                  refine g_run rfl rfl (s_load_imm rfl rfl rfl tA31 tS31 rfl rfl) ?_
                  refine g_run rfl rfl (s_lenL rfl rfl Tryd.underlying31) ?_
                  refine g_run rfl rfl (s_eqI rfl rfl rfl) ?_
                  refine g_u (s_pick_t rfl rfl rfl) ?_
                  refine g_u (s_mv_imm rfl rfl) ?_
                  refine g_case (t := 95) rfl ?_
                  rintro (hb9 | hb9)
                  · rw [hb9]
                    refine g_run rfl rfl (s_fieldAddr rfl rfl fa36_9 rfl) ?_
                    refine g_run rfl rfl (s_load_imm rfl rfl rfl tA31 tS31 rfl rfl) ?_
                    refine g_run rfl rfl (s_indexAddr rfl rfl rfl Tryd.underlying31 tS86 (by decide) (ixE (l := (nthS (nthC (nthR (njB [gR32]) 0).scopes 0).spans 0).events) (i := 0) (by decide +kernel))) ?_
                    refine g_run rfl rfl (s_fieldAddr_cp rfl rfl fa86_2 rfl rfl) ?_
                    refine g_run rfl rfl (s_load_cp rfl rfl tA30 tS30 rfl rfl) ?_
                    refine g_run rfl rfl (s_lenL rfl rfl Tryd.underlying30) ?_
                    refine g_run rfl rfl (s_eqI rfl rfl rfl) ?_
                    refine g_u (s_pick_t rfl rfl rfl) ?_
                    refine g_u (s_mv_imm rfl rfl) ?_
                    refine g_case (t := 104) rfl ?_
                    rintro (hb10 | hb10)
                    · rw [hb10]
                      refine g_run rfl rfl (s_fieldAddr rfl rfl fa24_0 rfl) ?_
                      refine g_run rfl rfl (s_load_imm rfl rfl rfl tA22 tS22 rfl rfl) ?_
                      refine g_run rfl rfl (s_indexAddr rfl rfl rfl Tryd.underlying22 tS47 (by decide) (ixR (l := njB [gR32]) (i := 0) (by decide +kernel))) ?_
                      refine g_run rfl rfl (s_fieldAddr_cp rfl rfl fa47_1 rfl rfl) ?_
                      refine g_run rfl rfl (s_load_cp rfl rfl tA45 tS45 rfl rfl) ?_
                      refine g_run rfl rfl (s_indexAddr rfl rfl rfl Tryd.underlying45 tS52 (by decide) (ixC (l := (nthR (njB [gR32]) 0).scopes) (i := 0) (by decide +kernel))) ?_
                      refine g_run rfl rfl (s_fieldAddr_cp rfl rfl fa52_0 rfl rfl) ?_
                      refine g_run rfl rfl (s_load_cp rfl rfl tA9 tS9 rfl rfl) ?_
                      refine g_run rfl rfl (s_eqS rfl rfl rfl) ?_
                      refine g_u (s_pick_t rfl rfl rfl) ?_
                      refine g_u (s_mv_imm rfl rfl) ?_
                      refine g_case (t := 115) rfl ?_
                      rintro (hb11 | hb11)
                      · rw [hb11]
                        refine g_run rfl rfl (s_call1 (nil1 (n := 7) (named_c [] kShop trivial (by decide))) rfl rfl) ?_
                        refine g_run rfl rfl (s_lenL rfl rfl Tryd.underlying30) ?_
                        refine g_run rfl rfl (s_eqI rfl rfl rfl) ?_
                        refine g_u (s_pick_t rfl rfl rfl) ?_
                        refine g_u (s_mv_imm rfl rfl) ?_
                        refine g_case (t := 120) rfl ?_
                        rintro (hb12 | hb12)
                        · rw [hb12]
                          refine g_run rfl rfl (s_call1 (nil1 (n := 7) (named_c [] ⟨#[]⟩ trivial (by decide))) rfl rfl) ?_
                          refine g_run rfl rfl (s_lenL rfl rfl Tryd.underlying30) ?_
                          refine g_run rfl rfl (s_eqI rfl rfl rfl) ?_
                          refine g_u (s_pick_t rfl rfl rfl) ?_
                          refine g_u (s_as_imm rfl rfl) ?_
                          refine g_nil ?_
                          refine normal_thn ?_
                          refine aw_ret ?_
                          exact ⟨⟨(rfl : toAV (Al.look _ _) = some _).trans (congrArg some (by rfl)), rfl⟩, trivial⟩
                        · exact killT hb12 (by first | rfl | decide +kernel)
                      · exact killT hb11 (by first | rfl | decide +kernel)
                    · exact killT hb10 (by first | rfl | decide +kernel)
                  · exact killT hb9 (by first | rfl | decide +kernel)
                · exact killT hb8 (by first | rfl | decide +kernel)
              · exact killT hb7 (by first | rfl | decide +kernel)
            · exact killT hb6 (by first | rfl | decide +kernel)
          · exact killT hb5 (by first | rfl | decide +kernel)
        · exact killT hb4 (by first | rfl | decide +kernel)

theorem rsameV_tv (t : ByteArray) (b : GV) : PCall Tryd.prog Γ0 43 [(tv t).av, b.av] [bv (sameV (tv t) b)] :=
  rsameV_st (tv t) b (Nat.zero_le _) (fun x hx => by cases hx) (rsameAs_st (tv t).map b.map (Nat.zero_le _) fun x hx => by cases hx)
theorem rsame_named (l : List GA) (t : ByteArray) (hw : wtAs l ≤ 1000000) : PCall Tryd.prog Γ0 34 [.sl 7 ((namedM l t).map avA), .sl 7 ((namedM l t).map avA)] [bv (sameAs (namedM l t) (namedM l t))] := by
  have hl := len_wtAs l
  refine rsameAs_st _ _ ?_ fun x hx => ?_
  · unfold namedM; split
    · have := dropA_len [skey] l; omega
    · have := len_intoA l (.mk skey (tv t)); omega
  · unfold namedM at hx
    split at hx
    · exact rsameV_c _ (by have h1 := wtAs_mem (dropA_mem hx).1; have h2 := x.wt_eq; omega)
    · rcases mem_intoA hx with rfl | hx
      · exact rsameV_tv t
      · exact rsameV_c _ (by have h1 := wtAs_mem hx; have h2 := x.wt_eq; omega)

set_option maxHeartbeats 1000000 in
theorem njaegerDoes_c (b : List GRes) (s : GSpan) (t : ByteArray) (ho : okB b) (hs : s.ok) (ht : t.size ≤ maxLen) : PCall Tryd.prog Γ0 5 [batchAv b, s.av, sv t] [bv true] := by
  refine pcall_of Tryd.func5 rfl Tryd.ntmps5 (by kernel_rfl) rfl fun w0 I0 G0 => ?_
  refine aw_seq ?_
  refine aw_region ?_
  refine g_uG (s_box_imm 1003 rfl rfl rfl rfl) rfl ?_
  refine g_uG (s_box_imm 1004 rfl rfl rfl rfl) rfl ?_
  refine g_u (s_as_imm rfl rfl) ?_
  refine g_nil ?_
  refine normal_thn ?_
  refine aw_seq ?_
  refine aw_seq ?_
  refine aw_region ?_
  refine g_u (s_load_imm rfl rfl rfl tA24 tS24 rfl rfl) ?_
  refine g_u (s_call1 (leftR_c _ _ (by first | decide | omega)) rfl rfl) ?_
  refine g_u (s_ltI rfl rfl rfl) ?_
  refine g_u (s_mv_imm rfl rfl) ?_
  refine g_case (t := 12) rfl ?_
  rintro (hb1 | hb1)
  · rw [hb1]
    have z1 : leftR b 6000 < 0 := of_decide_eq_true hb1
    refine g_skip rfl rfl rfl ?_
    refine g_skip rfl rfl rfl ?_
    refine g_skip rfl rfl rfl ?_
    refine g_u (s_pick_t rfl rfl rfl) ?_
    refine g_u (s_mv_imm rfl rfl) ?_
    refine g_skip rfl rfl rfl ?_
    refine g_skip rfl rfl rfl ?_
    refine g_skip rfl rfl rfl ?_
    refine g_skip rfl rfl rfl ?_
    refine g_u (s_pick_t rfl rfl rfl) ?_
    refine g_nil ?_
    refine normal_thn ?_
    refine aw_cond_true rfl ?_
    refine aw_seq ?_
    refine aw_region ?_
    refine g_u (s_call1 (works32_c) rfl rfl) ?_
    refine g_u (s_as_imm rfl rfl) ?_
    refine g_nil ?_
    refine normal_thn ?_
    refine aw_ret ?_
    refine ret_thn ?_
    exact ⟨⟨(rfl : toAV (Al.look _ _) = some _).trans (congrArg some (by rfl)), rfl⟩, trivial⟩
  · rw [hb1]
    have z1 : ¬ leftR b 6000 < 0 := of_decide_eq_false hb1
    have hwb := leftR_le z1
    have hob := ok_canonB ho
    have hcb := wt_canonB b
    have hrb : ∀ r ∈ canonB b, risA none r.attrs := fun r hr => by obtain ⟨x, _, rfl⟩ := List.mem_map.1 hr; exact ris_canonAs _
    have hnw := njB_wt (canonB b)
    refine g_run rfl rfl (s_load_imm rfl rfl rfl tA36 tS36 rfl (by first | exact getS_w (GSpan.width _) rfl | rfl)) ?_
    refine g_run rfl rfl (s_call1 (leftS_c _ _ (by first | decide | omega)) rfl rfl) ?_
    refine g_run rfl rfl (s_ltI rfl rfl rfl) ?_
    refine g_u (s_pick_f rfl rfl rfl) ?_
    refine g_u (s_mv_imm rfl rfl) ?_
    refine g_case (t := 17) rfl ?_
    rintro (hb2 | hb2)
    · rw [hb2]
      have z2 : leftS s 4000 < 0 := of_decide_eq_true hb2
      refine g_skip rfl rfl rfl ?_
      refine g_skip rfl rfl rfl ?_
      refine g_skip rfl rfl rfl ?_
      refine g_skip rfl rfl rfl ?_
      refine g_u (s_pick_t rfl rfl rfl) ?_
      refine g_nil ?_
      refine normal_thn ?_
      refine aw_cond_true rfl ?_
      refine aw_seq ?_
      refine aw_region ?_
      refine g_u (s_call1 (works32_c) rfl rfl) ?_
      refine g_u (s_as_imm rfl rfl) ?_
      refine g_nil ?_
      refine normal_thn ?_
      refine aw_ret ?_
      refine ret_thn ?_
      exact ⟨⟨(rfl : toAV (Al.look _ _) = some _).trans (congrArg some (by rfl)), rfl⟩, trivial⟩
    · rw [hb2]
      have z2 : ¬ leftS s 4000 < 0 := of_decide_eq_false hb2
      have hws := leftS_le z2
      have qw : s.wt = 1 + s.state.size + s.name.size + s.note.size + wtAs s.attrs + sumBy GE.wt s.events + sumBy GL.wt s.links := rfl
      have hjs := njS_wt s
      have hca := wt_canonAs s.attrs
      have hla := len_wtAs (canonAs s.attrs)
      have hra := ris_canonAs s.attrs
      refine g_run rfl rfl (s_fieldAddr rfl rfl fa36_8 rfl) ?_
      refine g_run rfl rfl (s_load_imm rfl rfl rfl tA30 tS30 rfl rfl) ?_
      refine g_run rfl rfl (s_call1 (leftAs_c _ _ (by decide)) rfl rfl) ?_
      refine g_run rfl rfl (s_ltI rfl rfl rfl) ?_
      refine g_u (s_pick_f rfl rfl rfl) ?_
      refine g_nil ?_
      refine normal_thn ?_
      refine aw_cond rfl (fun hb3 => ?_) (fun hb3 => ?_)
      · skip
        have z3 : leftAs s.attrs 4000 < 0 := of_decide_eq_true hb3
        refine aw_seq ?_
        refine aw_region ?_
        refine g_u (s_call1 (works32_c) rfl rfl) ?_
        refine g_u (s_as_imm rfl rfl) ?_
        refine g_nil ?_
        refine normal_thn ?_
        refine aw_ret ?_
        refine ret_thn ?_
        exact ⟨⟨(rfl : toAV (Al.look _ _) = some _).trans (congrArg some (by rfl)), rfl⟩, trivial⟩
      · skip
        have z3 : ¬ leftAs s.attrs 4000 < 0 := of_decide_eq_false hb3
        refine aw_skip ?_
        refine normal_thn ?_
        refine aw_seq ?_
        refine aw_region ?_
        refine g_u (s_load_imm rfl rfl rfl tA24 tS24 rfl rfl) ?_
        refine g_u (s_call1 (canonB_c b (by omega)) rfl rfl) ?_
        refine g_uG (s_alloc' 1007 rfl rfl rfl tZ24) rfl ?_
        refine g_u (s_store_imm rfl rfl rfl tS24 rfl rfl) ?_
        refine g_nil ?_
        refine normal_thn ?_
        refine aw_seq ?_
        refine aw_region ?_
        refine g_u (s_fieldAddr rfl rfl fa36_8 rfl) ?_
        refine g_u (s_load_imm rfl rfl rfl tA30 tS30 rfl rfl) ?_
        refine g_u (s_call1 (canonAs_c s.attrs (by omega)) rfl rfl) ?_
        refine g_u (s_as_imm rfl rfl) ?_
        refine g_nil ?_
        refine normal_thn ?_
        refine aw_seq ?_
        refine aw_draw mixed ?_
        refine g_u (s_load_agg rfl rfl rfl tA24 tS24 rfl rfl) ?_
        refine g_u (s_call1 (njB_c (canonB b) hob (by omega) hrb) rfl rfl) ?_
        refine g_u (s_load_agg rfl rfl rfl tA24 tS24 rfl rfl) ?_
        refine g_u (s_call1 (rnjB_c (canonB b) hob (by omega) hrb) rfl rfl) ?_
        refine g_u (s_call1 (rsameB_c (njB (canonB b)) _ (by omega)) rfl rfl) ?_
        refine g_u (s_mv_imm rfl rfl) ?_
        refine g_case (t := 34) rfl ?_
        rintro (hb4 | hb4)
        · rw [hb4]
          refine g_run rfl rfl (s_load_imm rfl rfl rfl tA36 tS36 rfl (by first | exact getS_w (GSpan.width _) rfl | rfl)) ?_
          refine g_run rfl rfl (s_call1 (njS_c s hs (by omega)) rfl rfl) ?_
          refine g_run rfl rfl (s_load_imm rfl rfl rfl tA36 tS36 rfl (by first | exact getS_w (GSpan.width _) rfl | rfl)) ?_
          refine g_run rfl rfl (s_call1 (rnjS_c s hs (by omega)) rfl rfl) ?_
          refine g_run rfl rfl (s_call1 (rsameS_c (njS s) _ (by omega)) rfl rfl) ?_
          refine g_u (s_pick_t rfl rfl rfl) ?_
          refine g_u (s_mv_imm rfl rfl) ?_
          refine g_case (t := 41) rfl ?_
          rintro (hb5 | hb5)
          · rw [hb5]
            refine g_run rfl rfl (s_mv_imm rfl rfl) ?_
            refine g_run rfl rfl (s_mv_imm rfl rfl) ?_
            refine g_run rfl rfl (s_call1 (named_c (canonAs s.attrs) t hra (by omega)) rfl rfl) ?_
            refine g_run rfl rfl (s_mv_imm rfl rfl) ?_
            refine g_run rfl rfl (s_mv_imm rfl rfl) ?_
            refine g_run rfl rfl (s_call1 (rnamed_c (canonAs s.attrs) t hra (by omega)) rfl rfl) ?_
            refine g_run rfl rfl (s_call1 (rsame_named (canonAs s.attrs) t (by omega)) rfl rfl) ?_
            refine g_u (s_pick_t rfl rfl rfl) ?_
            refine g_u (s_mv_imm rfl rfl) ?_
            refine g_case (t := 50) rfl ?_
            rintro (hb6 | hb6)
            · rw [hb6]
              refine g_run rfl rfl (s_call1 (works32_c) rfl rfl) ?_
              refine g_u (s_pick_t rfl rfl rfl) ?_
              refine g_u (s_as_imm rfl rfl) ?_
              refine g_nil ⟨by kernel_rfl, ?_⟩
              refine normal_thn ?_
              refine aw_ret ?_
              exact ⟨⟨(rfl : toAV (Al.look _ _) = some _).trans (congrArg some (by rfl)), rfl⟩, trivial⟩
            · exact killT hb6 ((by exact sameAs_refl _))
          · exact killT hb5 ((by exact decide_eq_true rfl))
        · exact killT hb4 ((by exact decide_eq_true rfl))

set_option maxHeartbeats 1000000 in
theorem njaegerStays_c (b : List GRes) (ho : okB b) : PCall Tryd.prog Γ0 6 [batchAv b] [bv true] := by
  refine pcall_of Tryd.func6 rfl Tryd.ntmps6 (by kernel_rfl) rfl fun w0 I0 G0 => ?_
  refine aw_seq ?_
  refine aw_region ?_
  refine g_uG (s_box_imm 1001 rfl rfl rfl rfl) rfl ?_
  refine g_u (s_as_imm rfl rfl) ?_
  refine g_nil ?_
  refine normal_thn ?_
  refine aw_seq ?_
  refine aw_seq ?_
  refine aw_region ?_
  refine g_u (s_load_imm rfl rfl rfl tA24 tS24 rfl rfl) ?_
  refine g_u (s_call1 (leftR_c _ _ (by first | decide | omega)) rfl rfl) ?_
  refine g_u (s_ltI rfl rfl rfl) ?_
  refine g_nil ?_
  refine normal_thn ?_
  refine aw_cond rfl (fun hb1 => ?_) (fun hb1 => ?_)
  · skip
    have z1 : leftR b 6000 < 0 := of_decide_eq_true hb1
    refine aw_seq ?_
    refine aw_region ?_
    refine g_u (s_call1 (works32_c) rfl rfl) ?_
    refine g_u (s_as_imm rfl rfl) ?_
    refine g_nil ?_
    refine normal_thn ?_
    refine aw_ret ?_
    refine ret_thn ?_
    exact ⟨⟨(rfl : toAV (Al.look _ _) = some _).trans (congrArg some (by rfl)), rfl⟩, trivial⟩
  · skip
    have z1 : ¬ leftR b 6000 < 0 := of_decide_eq_false hb1
    have hwb := leftR_le z1
    have hob := ok_canonB ho
    have hcb := wt_canonB b
    have hrb : ∀ r ∈ canonB b, risA none r.attrs := fun r hr => by obtain ⟨x, _, rfl⟩ := List.mem_map.1 hr; exact ris_canonAs _
    have hnw := njB_wt (canonB b)
    have hoj := njB_ok hob (by omega)
    have hrj := njB_ris hrb
    have hnn := njB_wt (njB (canonB b))
    refine aw_skip ?_
    refine normal_thn ?_
    refine aw_seq ?_
    refine aw_region ?_
    refine g_u (s_load_imm rfl rfl rfl tA24 tS24 rfl rfl) ?_
    refine g_u (s_call1 (canonB_c b (by omega)) rfl rfl) ?_
    refine g_u (s_call1 (njB_c (canonB b) hob (by omega) hrb) rfl rfl) ?_
    refine g_uG (s_alloc' 1003 rfl rfl rfl tZ24) rfl ?_
    refine g_u (s_store_imm rfl rfl rfl tS24 rfl rfl) ?_
    refine g_nil ?_
    refine normal_thn ?_
    refine aw_seq ?_
    refine aw_draw mixed ?_
    refine g_u (s_load_agg rfl rfl rfl tA24 tS24 rfl rfl) ?_
    refine g_u (s_call1 (njB_c (njB (canonB b)) hoj (by omega) hrj) rfl rfl) ?_
    refine g_u (s_load_agg rfl rfl rfl tA24 tS24 rfl rfl) ?_
    refine g_u (s_call1 (rsameB_c (njB (njB (canonB b))) _ (by omega)) rfl rfl) ?_
    refine g_u (s_mv_imm rfl rfl) ?_
    refine g_case (t := 15) rfl ?_
    rintro (hb2 | hb2)
    · rw [hb2]
      refine g_run rfl rfl (s_call1 (works32_c) rfl rfl) ?_
      refine g_u (s_pick_t rfl rfl rfl) ?_
      refine g_u (s_as_imm rfl rfl) ?_
      refine g_nil ⟨by kernel_rfl, ?_⟩
      refine normal_thn ?_
      refine aw_ret ?_
      exact ⟨⟨(rfl : toAV (Al.look _ _) = some _).trans (congrArg some (by rfl)), rfl⟩, trivial⟩
    · exact killT hb2 ((by exact decide_eq_true (njB_idem hob hrb)))

end Go.Proofs

