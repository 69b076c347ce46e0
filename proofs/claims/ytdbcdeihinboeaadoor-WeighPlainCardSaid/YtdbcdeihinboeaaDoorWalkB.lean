/- The walks through functions of the program: each function returns what its Lean function says, and leaves the old memory alone. Conditions: sizes, as typed. -/
import Derived.Test.YtdbcdeihinboeaaDoorWalkA
set_option linter.unusedSimpArgs false
set_option linter.unusedVariables false
namespace Go.Proofs
open Go Go.Al
set_option maxRecDepth 10000
set_option maxHeartbeats 400000 in
theorem leftV_st (v : GV) (n : Int) (hn : -1 ≤ n ∧ n ≤ 1000000000) (ih : ∀ y ∈ v.list, ∀ n : Int, -1 ≤ n ∧ n ≤ 1000000000 → PCall Tryd.prog Γ0 35 [y.av, iv n] [iv (leftV y n)]) (ihm : ∀ n : Int, -1 ≤ n ∧ n ≤ 1000000000 → PCall Tryd.prog Γ0 46 [.sl 7 (v.map.map avA), iv n] [iv (leftAs v.map n)]) : PCall Tryd.prog Γ0 35 [v.av, iv n] [iv (leftV v n)] := by
  have ek := v.wt_eq
  refine pcall_of Tryd.func35 rfl Tryd.ntmps35 (by kernel_rfl) rfl fun w0 I0 G0 => ?_
  refine aw_seq ?_
  refine aw_region ?_
  refine g_uG (s_box_imm 1002 rfl rfl rfl rfl) rfl ?_
  refine g_u (s_as_imm rfl rfl) ?_
  refine g_nil ?_
  refine normal_thn ?_
  refine aw_seq ?_
  refine aw_seq ?_
  refine aw_region ?_
  refine g_u (s_mv_imm rfl rfl) ?_
  refine g_u (s_ltI rfl rfl rfl) ?_
  refine g_u (s_mv_imm rfl rfl) ?_
  refine g_case (t := 8) rfl ?_
  rintro (hb1 | hb1)
  · rw [hb1]
    have hn0 : n < 0 := of_decide_eq_true hb1
    refine g_skip rfl rfl rfl ?_
    refine g_skip rfl rfl rfl ?_
    refine g_skip rfl rfl rfl ?_
    refine g_skip rfl rfl rfl ?_
    refine g_skip rfl rfl rfl ?_
    refine g_u (s_pick_t rfl rfl rfl) ?_
    refine g_nil ?_
    refine normal_thn ?_
    refine aw_cond_true rfl ?_
    refine aw_seq ?_
    refine aw_region ?_
    refine g_u (s_as_imm rfl rfl) ?_
    refine g_nil ?_
    refine normal_thn ?_
    refine aw_ret ?_
    refine ret_thn ?_
    exact ⟨⟨(rfl : toAV (Al.look _ _) = some _).trans (congrArg some (by (exact congrArg iv (by rw [leftV_F, if_pos hn0])))), rfl⟩, trivial⟩
  · rw [hb1]
    have hn0 : ¬ n < 0 := of_decide_eq_false hb1
    refine g_run rfl rfl (s_fieldAddr rfl rfl fa57_1 rfl) ?_
    refine g_run rfl rfl (s_load_imm rfl rfl rfl tA9 tS9 rfl rfl) ?_
    refine g_run rfl rfl (s_lenS rfl rfl Tryd.underlying9) ?_
    refine g_run rfl rfl (s_mv_imm rfl rfl) ?_
    refine g_run rfl rfl (s_gtI rfl rfl rfl) ?_
    refine g_u (s_pick_f rfl rfl rfl) ?_
    refine g_nil ?_
    refine normal_thn ?_
    refine aw_cond rfl (fun hb2 => ?_) (fun hb2 => ?_)
    · skip
      have ht0 : (v.text.size : Int) > n := of_decide_eq_true hb2
      refine aw_seq ?_
      refine aw_region ?_
      refine g_u (s_as_imm rfl rfl) ?_
      refine g_nil ?_
      refine normal_thn ?_
      refine aw_ret ?_
      refine ret_thn ?_
      exact ⟨⟨(rfl : toAV (Al.look _ _) = some _).trans (congrArg some (by (exact congrArg iv (by rw [leftV_F, if_neg hn0]; unfold leftF; rw [if_neg (by omega)])))), rfl⟩, trivial⟩
    · skip
      have ht0 : ¬ (v.text.size : Int) > n := of_decide_eq_false hb2
      have hL : -1 ≤ n - 1 - v.text.size := by omega
      refine aw_skip ?_
      refine normal_thn ?_
      refine aw_seq ?_
      refine aw_region ?_
      refine g_u (s_mv_imm rfl rfl) ?_
      refine g_u (s_sub rfl rfl rfl) ?_
      refine g_u (s_fieldAddr rfl rfl fa57_1 rfl) ?_
      refine g_u (s_load_imm rfl rfl rfl tA9 tS9 rfl rfl) ?_
      refine g_u (s_lenS rfl rfl Tryd.underlying9) ?_
      refine g_u (s_sub rfl rfl rfl) ?_
      refine g_u (s_as_imm rfl rfl) ?_
      refine g_nil ?_
      refine normal_thn ?_
      refine aw_seq ?_
      refine aw_seq ?_
      refine aw_region ?_
      refine g_u (s_as_imm rfl rfl) ?_
      refine g_nil ?_
      refine normal_thn ?_
      refine aw_block ?_
      refine aw_loop' (fun i : Nat => [(2, .ptr 1002 0), (1002, .box 57 (.imm v.av)), (1, .imm (iv (leftF (n - 1 - v.text.size) (wtVs (v.list.take i))))), (5, .imm (iv (i : Int)))]) (fun i => i ≤ v.list.length) (fun i => v.list.length - i) (0) ?_ ⟨rfl, rfl, look_int rfl (by rw [show wtVs (v.list.take 0) = 0 from rfl, leftF_zero hL, wrap64 (n := n - 1) (by omega) (by omega), wrap64 (by omega) (by omega)]), rfl, trivial⟩ ?_
      · exact Nat.zero_le _
      · rintro i h1; have h1 : i ≤ v.list.length := h1; have bd := leftF_bd hL (wtVs (v.list.take i))
        refine aw_seq ?_
        refine aw_seq ?_
        refine aw_region ?_
        refine g_u (s_mv_imm rfl rfl) ?_
        refine g_u (s_fieldAddr rfl rfl fa57_4 rfl) ?_
        refine g_u (s_load_imm rfl rfl rfl tA55 tS55 rfl rfl) ?_
        refine g_u (s_lenL rfl rfl Tryd.underlying55) ?_
        refine g_u (s_ltI rfl rfl rfl) ?_
        refine g_u (s_mv_imm rfl rfl) ?_
        refine g_case (t := 26) rfl ?_
        rintro (hb3 | hb3)
        · rw [hb3]
          have hiv : i < v.list.length := by have := of_decide_eq_true hb3; (try simp only [List.length_map] at this); omega
          refine g_run rfl rfl (s_mv_imm rfl rfl) ?_
          refine g_run rfl rfl (s_geI rfl rfl rfl) ?_
          refine g_u (s_pick_t rfl rfl rfl) ?_
          refine g_nil ?_
          refine normal_thn ?_
          refine aw_cond rfl (fun hb4 => ?_) (fun hb4 => ?_)
          · skip
            have hs : 0 ≤ leftF (n - 1 - v.text.size) (wtVs (v.list.take i)) := of_decide_eq_true hb4
            have hi9 := leftV_len hs h1
            refine aw_skip ?_
            refine normal_thn ?_
            refine aw_seq ?_
            refine aw_block ?_
            refine aw_region ?_
            refine g_u (s_fieldAddr rfl rfl fa57_4 rfl) ?_
            refine g_u (s_load_imm rfl rfl rfl tA55 tS55 rfl rfl) ?_
            refine g_u (s_mv_imm rfl rfl) ?_
            refine g_u (s_indexAddr rfl rfl rfl Tryd.underlying55 tS57 (by omega) (ixV hiv)) ?_
            refine g_u (s_load_cp rfl rfl tA57 tS57 rfl rfl) ?_
            refine g_u (s_mv_imm rfl rfl) ?_
            refine g_u (s_call1 (ih _ (nthV_mem hiv) _ ⟨bd.1, by have := bd.2; omega⟩) rfl rfl) ?_
            refine g_u (s_as_imm rfl rfl) ?_
            refine g_nil ?_
            refine normal_blk ?_
            refine normal_thn ?_
            refine aw_region ?_
            refine g_u (s_mv_imm rfl rfl) ?_
            refine g_u (s_add rfl rfl rfl) ?_
            refine g_u (s_as_imm rfl rfl) ?_
            refine g_nil ?_
            refine normal_thn ?_
            refine ⟨i + 1, hiv, ⟨rfl, rfl, look_int rfl (leftV_step hiv hs), look_int rfl (by rw [wrap64 (by omega) (by omega)]; rfl), trivial⟩, by (try dsimp only); omega⟩
          · skip
            have hs : ¬ 0 ≤ leftF (n - 1 - v.text.size) (wtVs (v.list.take i)) := of_decide_eq_false hb4
            refine aw_exit ?_
            refine exit_thn ?_
            refine exit_thn ?_
            refine exit_blk ?_
            refine normal_thn ?_
            refine aw_seq ?_
            refine aw_region ?_
            refine g_u (s_fieldAddr rfl rfl fa57_5 rfl) ?_
            refine g_u (s_load_imm rfl rfl rfl tA30 tS30 rfl rfl) ?_
            refine g_u (s_mv_imm rfl rfl) ?_
            refine g_u (s_call1 (ihm _ ⟨bd.1, by have := bd.2; omega⟩) rfl rfl) ?_
            refine g_u (s_as_imm rfl rfl) ?_
            refine g_nil ?_
            refine normal_thn ?_
            refine aw_ret ?_
            exact ⟨⟨(rfl : toAV (Al.look _ _) = some _).trans (congrArg some (by (exact congrArg iv (leftV_fin hn0 ht0 (by first | exact .inl hivn | exact .inr (by omega)))))), rfl⟩, trivial⟩
        · rw [hb3]
          have hivn : i = v.list.length := by have := of_decide_eq_false hb3; (try simp only [List.length_map] at this); omega
          refine g_skip rfl rfl rfl ?_
          refine g_skip rfl rfl rfl ?_
          refine g_u (s_pick_f rfl rfl rfl) ?_
          refine g_nil ?_
          refine normal_thn ?_
          refine aw_cond_false rfl ?_
          refine aw_exit ?_
          refine exit_thn ?_
          refine exit_thn ?_
          refine exit_blk ?_
          refine normal_thn ?_
          refine aw_seq ?_
          refine aw_region ?_
          refine g_u (s_fieldAddr rfl rfl fa57_5 rfl) ?_
          refine g_u (s_load_imm rfl rfl rfl tA30 tS30 rfl rfl) ?_
          refine g_u (s_mv_imm rfl rfl) ?_
          refine g_u (s_call1 (ihm _ ⟨bd.1, by have := bd.2; omega⟩) rfl rfl) ?_
          refine g_u (s_as_imm rfl rfl) ?_
          refine g_nil ?_
          refine normal_thn ?_
          refine aw_ret ?_
          exact ⟨⟨(rfl : toAV (Al.look _ _) = some _).trans (congrArg some (by (exact congrArg iv (leftV_fin hn0 ht0 (by first | exact .inl hivn | exact .inr (by omega)))))), rfl⟩, trivial⟩

set_option maxHeartbeats 400000 in
theorem leftAs_st (l : List GA) (n : Int) (hn : -1 ≤ n ∧ n ≤ 1000000000) (ih : ∀ a ∈ l, ∀ n : Int, -1 ≤ n ∧ n ≤ 1000000000 → PCall Tryd.prog Γ0 35 [a.val.av, iv n] [iv (leftV a.val n)]) : PCall Tryd.prog Γ0 46 [.sl 7 (l.map avA), iv n] [iv (leftAs l n)] := by
  refine pcall_of Tryd.func46 rfl Tryd.ntmps46 (by kernel_rfl) rfl fun w0 I0 G0 => ?_
  refine aw_seq ?_
  refine aw_region ?_
  refine g_u (s_as_imm rfl rfl) ?_
  refine g_nil ?_
  refine normal_thn ?_
  refine aw_seq ?_
  refine aw_seq ?_
  refine aw_region ?_
  refine g_u (s_as_imm rfl rfl) ?_
  refine g_nil ?_
  refine normal_thn ?_
  refine aw_block ?_
  refine aw_loop' (fun i : Nat => [(0, .imm (.sl 7 (l.map avA))), (1, .imm (iv (leftAs (l.take i) n))), (5, .imm (iv (i : Int)))]) (fun i => i ≤ l.length) (fun i => l.length - i) (0) ?_ ⟨rfl, look_int rfl (leftAs_zero l hn.1).symm, rfl, trivial⟩ ?_
  · exact Nat.zero_le _
  · rintro i h1; have h1 : i ≤ l.length := h1; have bd := leftAs_bd (l.take i) hn.1
    refine aw_seq ?_
    refine aw_seq ?_
    refine aw_region ?_
    refine g_u (s_mv_imm rfl rfl) ?_
    refine g_u (s_mv_imm rfl rfl) ?_
    refine g_u (s_lenL rfl rfl Tryd.underlying30) ?_
    refine g_u (s_ltI rfl rfl rfl) ?_
    refine g_u (s_mv_imm rfl rfl) ?_
    refine g_case (t := 10) rfl ?_
    rintro (hb1 | hb1)
    · rw [hb1]
      have hia : i < l.length := by have := of_decide_eq_true hb1; (try simp only [List.length_map] at this); omega
      refine g_run rfl rfl (s_mv_imm rfl rfl) ?_
      refine g_run rfl rfl (s_geI rfl rfl rfl) ?_
      refine g_u (s_pick_t rfl rfl rfl) ?_
      refine g_nil ?_
      refine normal_thn ?_
      refine aw_cond rfl (fun hb2 => ?_) (fun hb2 => ?_)
      · skip
        have hs : 0 ≤ leftAs (l.take i) n := of_decide_eq_true hb2
        have hi9 := leftAs_len hs h1
        refine aw_skip ?_
        refine normal_thn ?_
        refine aw_seq ?_
        refine aw_block ?_
        refine aw_seq ?_
        refine aw_seq ?_
        refine aw_region ?_
        refine g_u (s_mv_imm rfl rfl) ?_
        refine g_u (s_mv_imm rfl rfl) ?_
        refine g_u (s_indexAddr rfl rfl rfl Tryd.underlying30 tS61 (by omega) (ixA hia)) ?_
        refine g_u (s_fieldAddr_cp rfl rfl fa61_0 rfl rfl) ?_
        refine g_u (s_load_cp rfl rfl tA9 tS9 rfl rfl) ?_
        refine g_u (s_lenS rfl rfl Tryd.underlying9) ?_
        refine g_u (s_mv_imm rfl rfl) ?_
        refine g_u (s_gtI rfl rfl rfl) ?_
        refine g_nil ?_
        refine normal_thn ?_
        refine aw_cond rfl (fun hb3 => ?_) (fun hb3 => ?_)
        · skip
          have hk : ((nthA l i).key.size : Int) > leftAs (l.take i) n := of_decide_eq_true hb3
          refine aw_seq ?_
          refine aw_region ?_
          refine g_u (s_as_imm rfl rfl) ?_
          refine g_nil ?_
          refine normal_thn ?_
          refine aw_ret ?_
          refine ret_thn ?_
          refine ret_blk ?_
          refine ret_thn ?_
          refine ret_thn ?_
          refine ret_blk ?_
          refine ret_thn ?_
          exact ⟨⟨(rfl : toAV (Al.look _ _) = some _).trans (congrArg some (by (exact congrArg iv (leftAs_out hia hs hk)))), rfl⟩, trivial⟩
        · skip
          have hk : ¬ ((nthA l i).key.size : Int) > leftAs (l.take i) n := of_decide_eq_false hb3
          have ew : IntKind.i64.wrap (leftAs (l.take i) n - (nthA l i).key.size) = leftAs (l.take i) n - (nthA l i).key.size := wrap64 (by omega) (by omega)
          refine aw_skip ?_
          refine normal_thn ?_
          refine aw_draw mixed ?_
          refine g_u (s_mv_imm rfl rfl) ?_
          refine g_u (s_mv_imm rfl rfl) ?_
          refine g_u (s_indexAddr rfl rfl rfl Tryd.underlying30 tS61 (by omega) (ixA hia)) ?_
          refine g_u (s_fieldAddr_cp rfl rfl fa61_1 rfl rfl) ?_
          refine g_u (s_load_cp rfl rfl tA57 tS57 rfl rfl) ?_
          refine g_u (s_mv_imm rfl rfl) ?_
          refine g_u (s_mv_imm rfl rfl) ?_
          refine g_u (s_mv_imm rfl rfl) ?_
          refine g_u (s_indexAddr rfl rfl rfl Tryd.underlying30 tS61 (by omega) (ixA hia)) ?_
          refine g_u (s_fieldAddr_cp rfl rfl fa61_0 rfl rfl) ?_
          refine g_u (s_load_cp rfl rfl tA9 tS9 rfl rfl) ?_
          refine g_u (s_lenS rfl rfl Tryd.underlying9) ?_
          refine g_u (s_sub rfl rfl rfl) ?_
          refine g_u (s_call1 ((show PCall Tryd.prog Γ0 35 [(nthA l i).val.av, iv (IntKind.i64.wrap (leftAs (l.take i) n - (nthA l i).key.size))] [iv (leftV (nthA l i).val (leftAs (l.take i) n - (nthA l i).key.size))] from by rw [ew]; exact ih _ (nthA_mem hia) _ ⟨by omega, by omega⟩)) rfl rfl) ?_
          refine g_u (s_as_imm rfl rfl) ?_
          refine g_nil ⟨by kernel_rfl, ?_⟩
          refine normal_blk ?_
          refine normal_thn ?_
          refine aw_region ?_
          refine g_u (s_mv_imm rfl rfl) ?_
          refine g_u (s_add rfl rfl rfl) ?_
          refine g_u (s_as_imm rfl rfl) ?_
          refine g_nil ?_
          refine normal_thn ?_
          refine ⟨i + 1, hia, ⟨rfl, look_int rfl (leftAs_step hia hs hk), look_int rfl (by rw [wrap64 (by omega) (by omega)]; rfl), trivial⟩, by (try dsimp only); omega⟩
      · skip
        have hs : ¬ 0 ≤ leftAs (l.take i) n := of_decide_eq_false hb2
        refine aw_exit ?_
        refine exit_thn ?_
        refine exit_thn ?_
        refine exit_blk ?_
        refine normal_thn ?_
        refine aw_seq ?_
        refine aw_region ?_
        refine g_u (s_mv_imm rfl rfl) ?_
        refine g_u (s_as_imm rfl rfl) ?_
        refine g_nil ?_
        refine normal_thn ?_
        refine aw_ret ?_
        exact ⟨⟨(rfl : toAV (Al.look _ _) = some _).trans (congrArg some (by (exact congrArg iv (leftAs_fin hn.1 (by first | exact .inl hian | exact .inr (by omega)))))), rfl⟩, trivial⟩
    · rw [hb1]
      have hian : i = l.length := by have := of_decide_eq_false hb1; (try simp only [List.length_map] at this); omega
      refine g_skip rfl rfl rfl ?_
      refine g_skip rfl rfl rfl ?_
      refine g_u (s_pick_f rfl rfl rfl) ?_
      refine g_nil ?_
      refine normal_thn ?_
      refine aw_cond_false rfl ?_
      refine aw_exit ?_
      refine exit_thn ?_
      refine exit_thn ?_
      refine exit_blk ?_
      refine normal_thn ?_
      refine aw_seq ?_
      refine aw_region ?_
      refine g_u (s_mv_imm rfl rfl) ?_
      refine g_u (s_as_imm rfl rfl) ?_
      refine g_nil ?_
      refine normal_thn ?_
      refine aw_ret ?_
      exact ⟨⟨(rfl : toAV (Al.look _ _) = some _).trans (congrArg some (by (exact congrArg iv (leftAs_fin hn.1 (by first | exact .inl hian | exact .inr (by omega)))))), rfl⟩, trivial⟩

theorem leftV_c (v : GV) : ∀ n : Int, -1 ≤ n ∧ n ≤ 1000000000 → PCall Tryd.prog Γ0 35 [v.av, iv n] [iv (leftV v n)] := by
  refine GV.ind (P := fun v => ∀ n : Int, -1 ≤ n ∧ n ≤ 1000000000 → PCall Tryd.prog Γ0 35 [v.av, iv n] [iv (leftV v n)]) ?_ v
  intro v h1 h2 n hn
  exact leftV_st v n hn h1 fun n hn => leftAs_st v.map n hn h2
theorem leftAs_c (l : List GA) (n : Int) (hn : -1 ≤ n ∧ n ≤ 1000000000) : PCall Tryd.prog Γ0 46 [.sl 7 (l.map avA), iv n] [iv (leftAs l n)] := leftAs_st l n hn fun a _ => leftV_c a.val

theorem z36_w : AV.width z36 = 42 := by kernel_rfl
theorem z124_w : AV.width z124 = 26 := by kernel_rfl
set_option maxHeartbeats 400000 in
theorem sumA_c (l : List GA) (F : GA → Nat) (fn : FuncId) (caps : List AV) (hf : ∀ y ∈ l, PCall Tryd.prog Γ0 fn (y.av :: caps) [iv (F y : Nat)]) (hl : l.length ≤ 1000000000000) (hF : sumBy F l ≤ 10000000000000000) : PCall Tryd.prog Γ0 103 [.sl 7 (l.map avA), .fn (.func fn) [] caps] [iv (sumBy F l : Nat)] := by
  refine pcall_of Tryd.func103 rfl Tryd.ntmps103 (by kernel_rfl) rfl fun w0 I0 G0 => ?_
  refine aw_seq ?_
  refine aw_region ?_
  refine g_u (s_as_imm rfl rfl) ?_
  refine g_nil ?_
  refine normal_thn ?_
  refine aw_seq ?_
  refine aw_region ?_
  refine g_u (s_as_imm rfl rfl) ?_
  refine g_nil ?_
  refine normal_thn ?_
  refine aw_seq ?_
  refine aw_seq ?_
  refine aw_region ?_
  refine g_u (s_mv_imm rfl rfl) ?_
  refine g_u (s_lenL rfl rfl Tryd.underlying30) ?_
  refine g_u (s_mv_imm rfl rfl) ?_
  refine g_nil ?_
  refine normal_thn ?_
  refine aw_block ?_
  refine aw_loop' (fun i : Nat => [(1, .imm (.fn (.func fn) [] caps)), (5, .imm (iv (sumBy F (l.take i) : Nat))), (8, .imm (.sl 7 (l.map avA))), (9, .imm (iv (l.length : Int))), (10, .imm (iv (i : Int)))]) (fun i => i ≤ l.length) (fun i => l.length - i) (0) ?_ ⟨rfl, rfl, rfl, look_int rfl (by rw [List.length_map]), rfl, trivial⟩ ?_
  · exact Nat.zero_le _
  · rintro i h1; have h1 : i ≤ l.length := h1
    refine aw_seq ?_
    refine aw_region ?_
    refine g_u (s_ltI rfl rfl rfl) ?_
    refine g_nil ?_
    refine normal_thn ?_
    refine aw_seq ?_
    refine aw_cond rfl (fun hb1 => ?_) (fun hb1 => ?_)
    · skip
      have hi : i < l.length := by have := of_decide_eq_true hb1; (try simp only [List.length_map] at this); omega
      refine aw_skip ?_
      refine normal_thn ?_
      refine aw_seq ?_
      refine aw_block ?_
      refine aw_seq ?_
      refine aw_region ?_
      refine g_u (s_indexAddr rfl rfl rfl Tryd.underlying30 tS61 (by omega) (ixA hi)) ?_
      refine g_u (s_load_cp rfl rfl tA61 tS61 rfl rfl) ?_
      refine g_uG (s_alloc' 1007 rfl rfl rfl tZ61) rfl ?_
      refine g_u (s_store_imm rfl rfl rfl tS61 rfl rfl) ?_
      refine g_nil ?_
      refine normal_thn ?_
      refine aw_region ?_
      refine g_u (s_mv_imm rfl rfl) ?_
      refine g_u (s_mv_imm rfl rfl) ?_
      refine g_u (s_load_imm rfl rfl rfl tA61 tS61 rfl rfl) ?_
      refine g_u (s_callv1 (hf _ (nthA_mem hi)) rfl rfl rfl) ?_
      refine g_u (s_add rfl rfl rfl) ?_
      refine g_u (s_as_imm rfl rfl) ?_
      refine g_nil ?_
      refine normal_blk ?_
      refine normal_thn ?_
      refine aw_region ?_
      refine g_u (s_add rfl rfl rfl) ?_
      refine g_u (s_mv_imm rfl rfl) ?_
      refine g_nil ?_
      refine normal_thn ?_
      have q1 := sumBy_nth_le (F := F) (d := a0) hi
      have q2 := sumBy_nth (F := F) (d := a0) hi
      refine ⟨i + 1, hi, ⟨rfl, look_int rfl (by show IntKind.i64.wrap ((sumBy F (l.take i) : Int) + (F (nth l i a0) : Int)) = _; rw [wrap64 (by omega) (by omega), q2]; rfl), rfl, rfl, look_int rfl (by rw [wrap64 (by omega) (by omega)]; rfl), trivial⟩, by (try dsimp only); omega⟩
    · skip
      have hin : i = l.length := by have := of_decide_eq_false hb1; (try simp only [List.length_map] at this); omega
      refine aw_exit ?_
      refine exit_thn ?_
      refine exit_thn ?_
      refine exit_blk ?_
      refine normal_thn ?_
      refine aw_seq ?_
      refine aw_region ?_
      refine g_u (s_mv_imm rfl rfl) ?_
      refine g_u (s_as_imm rfl rfl) ?_
      refine g_nil ?_
      refine normal_thn ?_
      refine aw_ret ?_
      exact ⟨⟨(rfl : toAV (Al.look _ _) = some _).trans (congrArg some (by (exact congrArg iv (by rw [hin, List.take_length])))), rfl⟩, trivial⟩

set_option maxHeartbeats 400000 in
theorem sumE_c (l : List GE) (F : GE → Nat) (fn : FuncId) (caps : List AV) (hf : ∀ y ∈ l, PCall Tryd.prog Γ0 fn (y.av :: caps) [iv (F y : Nat)]) (hl : l.length ≤ 1000000000000) (hF : sumBy F l ≤ 10000000000000000) : PCall Tryd.prog Γ0 99 [.sl 3 (l.map GE.av), .fn (.func fn) [] caps] [iv (sumBy F l : Nat)] := by
  refine pcall_of Tryd.func99 rfl Tryd.ntmps99 (by kernel_rfl) rfl fun w0 I0 G0 => ?_
  refine aw_seq ?_
  refine aw_region ?_
  refine g_u (s_as_imm rfl rfl) ?_
  refine g_nil ?_
  refine normal_thn ?_
  refine aw_seq ?_
  refine aw_region ?_
  refine g_u (s_as_imm rfl rfl) ?_
  refine g_nil ?_
  refine normal_thn ?_
  refine aw_seq ?_
  refine aw_seq ?_
  refine aw_region ?_
  refine g_u (s_mv_imm rfl rfl) ?_
  refine g_u (s_lenL rfl rfl Tryd.underlying31) ?_
  refine g_u (s_mv_imm rfl rfl) ?_
  refine g_nil ?_
  refine normal_thn ?_
  refine aw_block ?_
  refine aw_loop' (fun i : Nat => [(1, .imm (.fn (.func fn) [] caps)), (5, .imm (iv (sumBy F (l.take i) : Nat))), (8, .imm (.sl 3 (l.map GE.av))), (9, .imm (iv (l.length : Int))), (10, .imm (iv (i : Int)))]) (fun i => i ≤ l.length) (fun i => l.length - i) (0) ?_ ⟨rfl, rfl, rfl, look_int rfl (by rw [List.length_map]), rfl, trivial⟩ ?_
  · exact Nat.zero_le _
  · rintro i h1; have h1 : i ≤ l.length := h1
    refine aw_seq ?_
    refine aw_region ?_
    refine g_u (s_ltI rfl rfl rfl) ?_
    refine g_nil ?_
    refine normal_thn ?_
    refine aw_seq ?_
    refine aw_cond rfl (fun hb1 => ?_) (fun hb1 => ?_)
    · skip
      have hi : i < l.length := by have := of_decide_eq_true hb1; (try simp only [List.length_map] at this); omega
      refine aw_skip ?_
      refine normal_thn ?_
      refine aw_seq ?_
      refine aw_block ?_
      refine aw_seq ?_
      refine aw_region ?_
      refine g_u (s_indexAddr rfl rfl rfl Tryd.underlying31 tS122 (by omega) (ixE hi)) ?_
      refine g_u (s_load_cp rfl rfl tA122 tS122 rfl rfl) ?_
      refine g_uG (s_alloc' 1007 rfl rfl rfl tZ122) rfl ?_
      refine g_u (s_store_imm rfl rfl rfl tS122 rfl rfl) ?_
      refine g_nil ?_
      refine normal_thn ?_
      refine aw_region ?_
      refine g_u (s_mv_imm rfl rfl) ?_
      refine g_u (s_mv_imm rfl rfl) ?_
      refine g_u (s_load_imm rfl rfl rfl tA122 tS122 rfl rfl) ?_
      refine g_u (s_callv1 (hf _ (nthE_mem hi)) rfl rfl rfl) ?_
      refine g_u (s_add rfl rfl rfl) ?_
      refine g_u (s_as_imm rfl rfl) ?_
      refine g_nil ?_
      refine normal_blk ?_
      refine normal_thn ?_
      refine aw_region ?_
      refine g_u (s_add rfl rfl rfl) ?_
      refine g_u (s_mv_imm rfl rfl) ?_
      refine g_nil ?_
      refine normal_thn ?_
      have q1 := sumBy_nth_le (F := F) (d := ge0) hi
      have q2 := sumBy_nth (F := F) (d := ge0) hi
      refine ⟨i + 1, hi, ⟨rfl, look_int rfl (by show IntKind.i64.wrap ((sumBy F (l.take i) : Int) + (F (nth l i ge0) : Int)) = _; rw [wrap64 (by omega) (by omega), q2]; rfl), rfl, rfl, look_int rfl (by rw [wrap64 (by omega) (by omega)]; rfl), trivial⟩, by (try dsimp only); omega⟩
    · skip
      have hin : i = l.length := by have := of_decide_eq_false hb1; (try simp only [List.length_map] at this); omega
      refine aw_exit ?_
      refine exit_thn ?_
      refine exit_thn ?_
      refine exit_blk ?_
      refine normal_thn ?_
      refine aw_seq ?_
      refine aw_region ?_
      refine g_u (s_mv_imm rfl rfl) ?_
      refine g_u (s_as_imm rfl rfl) ?_
      refine g_nil ?_
      refine normal_thn ?_
      refine aw_ret ?_
      exact ⟨⟨(rfl : toAV (Al.look _ _) = some _).trans (congrArg some (by (exact congrArg iv (by rw [hin, List.take_length])))), rfl⟩, trivial⟩

set_option maxHeartbeats 400000 in
theorem sumL_c (l : List GL) (F : GL → Nat) (fn : FuncId) (caps : List AV) (hf : ∀ y ∈ l, PCall Tryd.prog Γ0 fn (y.av :: caps) [iv (F y : Nat)]) (hl : l.length ≤ 1000000000000) (hF : sumBy F l ≤ 10000000000000000) : PCall Tryd.prog Γ0 101 [.sl 26 (l.map GL.av), .fn (.func fn) [] caps] [iv (sumBy F l : Nat)] := by
  refine pcall_of Tryd.func101 rfl Tryd.ntmps101 (by kernel_rfl) rfl fun w0 I0 G0 => ?_
  refine aw_seq ?_
  refine aw_region ?_
  refine g_u (s_as_imm rfl rfl) ?_
  refine g_nil ?_
  refine normal_thn ?_
  refine aw_seq ?_
  refine aw_region ?_
  refine g_u (s_as_imm rfl rfl) ?_
  refine g_nil ?_
  refine normal_thn ?_
  refine aw_seq ?_
  refine aw_seq ?_
  refine aw_region ?_
  refine g_u (s_mv_imm rfl rfl) ?_
  refine g_u (s_lenL rfl rfl Tryd.underlying32) ?_
  refine g_u (s_mv_imm rfl rfl) ?_
  refine g_nil ?_
  refine normal_thn ?_
  refine aw_block ?_
  refine aw_loop' (fun i : Nat => [(1, .imm (.fn (.func fn) [] caps)), (5, .imm (iv (sumBy F (l.take i) : Nat))), (8, .imm (.sl 26 (l.map GL.av))), (9, .imm (iv (l.length : Int))), (10, .imm (iv (i : Int)))]) (fun i => i ≤ l.length) (fun i => l.length - i) (0) ?_ ⟨rfl, rfl, rfl, look_int rfl (by rw [List.length_map]), rfl, trivial⟩ ?_
  · exact Nat.zero_le _
  · rintro i h1; have h1 : i ≤ l.length := h1
    refine aw_seq ?_
    refine aw_region ?_
    refine g_u (s_ltI rfl rfl rfl) ?_
    refine g_nil ?_
    refine normal_thn ?_
    refine aw_seq ?_
    refine aw_cond rfl (fun hb1 => ?_) (fun hb1 => ?_)
    · skip
      have hi : i < l.length := by have := of_decide_eq_true hb1; (try simp only [List.length_map] at this); omega
      refine aw_skip ?_
      refine normal_thn ?_
      refine aw_seq ?_
      refine aw_block ?_
      refine aw_seq ?_
      refine aw_region ?_
      refine g_u (s_indexAddr rfl rfl rfl Tryd.underlying32 tS124 (by omega) (ixL hi)) ?_
      refine g_u (s_load_cp rfl rfl tA124 tS124 rfl (by first | exact getS_w (GL.width _) rfl | rfl)) ?_
      refine g_uG (s_alloc' 1007 rfl rfl rfl tZ124) rfl ?_
      refine g_u (s_store_imm rfl rfl rfl tS124 (by first | exact beqW (GL.width _) | rfl) (by first | exact setS_w (z124_w.trans (GL.width _).symm) rfl | rfl)) ?_
      refine g_nil ?_
      refine normal_thn ?_
      refine aw_region ?_
      refine g_u (s_mv_imm rfl rfl) ?_
      refine g_u (s_mv_imm rfl rfl) ?_
      refine g_u (s_load_imm rfl rfl rfl tA124 tS124 rfl (by first | exact getS_w (GL.width _) rfl | rfl)) ?_
      refine g_u (s_callv1 (hf _ (nthL_mem hi)) rfl rfl rfl) ?_
      refine g_u (s_add rfl rfl rfl) ?_
      refine g_u (s_as_imm rfl rfl) ?_
      refine g_nil ?_
      refine normal_blk ?_
      refine normal_thn ?_
      refine aw_region ?_
      refine g_u (s_add rfl rfl rfl) ?_
      refine g_u (s_mv_imm rfl rfl) ?_
      refine g_nil ?_
      refine normal_thn ?_
      have q1 := sumBy_nth_le (F := F) (d := gl0) hi
      have q2 := sumBy_nth (F := F) (d := gl0) hi
      refine ⟨i + 1, hi, ⟨rfl, look_int rfl (by show IntKind.i64.wrap ((sumBy F (l.take i) : Int) + (F (nth l i gl0) : Int)) = _; rw [wrap64 (by omega) (by omega), q2]; rfl), rfl, rfl, look_int rfl (by rw [wrap64 (by omega) (by omega)]; rfl), trivial⟩, by (try dsimp only); omega⟩
    · skip
      have hin : i = l.length := by have := of_decide_eq_false hb1; (try simp only [List.length_map] at this); omega
      refine aw_exit ?_
      refine exit_thn ?_
      refine exit_thn ?_
      refine exit_blk ?_
      refine normal_thn ?_
      refine aw_seq ?_
      refine aw_region ?_
      refine g_u (s_mv_imm rfl rfl) ?_
      refine g_u (s_as_imm rfl rfl) ?_
      refine g_nil ?_
      refine normal_thn ?_
      refine aw_ret ?_
      exact ⟨⟨(rfl : toAV (Al.look _ _) = some _).trans (congrArg some (by (exact congrArg iv (by rw [hin, List.take_length])))), rfl⟩, trivial⟩

set_option maxHeartbeats 400000 in
theorem sumS_c (l : List GSpan) (F : GSpan → Nat) (fn : FuncId) (caps : List AV) (hf : ∀ y ∈ l, PCall Tryd.prog Γ0 fn (y.av :: caps) [iv (F y : Nat)]) (hl : l.length ≤ 1000000000000) (hF : sumBy F l ≤ 10000000000000000) : PCall Tryd.prog Γ0 109 [.sl 42 (l.map GSpan.av), .fn (.func fn) [] caps] [iv (sumBy F l : Nat)] := by
  refine pcall_of Tryd.func109 rfl Tryd.ntmps109 (by kernel_rfl) rfl fun w0 I0 G0 => ?_
  refine aw_seq ?_
  refine aw_region ?_
  refine g_u (s_as_imm rfl rfl) ?_
  refine g_nil ?_
  refine normal_thn ?_
  refine aw_seq ?_
  refine aw_region ?_
  refine g_u (s_as_imm rfl rfl) ?_
  refine g_nil ?_
  refine normal_thn ?_
  refine aw_seq ?_
  refine aw_seq ?_
  refine aw_region ?_
  refine g_u (s_mv_imm rfl rfl) ?_
  refine g_u (s_lenL rfl rfl Tryd.underlying50) ?_
  refine g_u (s_mv_imm rfl rfl) ?_
  refine g_nil ?_
  refine normal_thn ?_
  refine aw_block ?_
  refine aw_loop' (fun i : Nat => [(1, .imm (.fn (.func fn) [] caps)), (5, .imm (iv (sumBy F (l.take i) : Nat))), (8, .imm (.sl 42 (l.map GSpan.av))), (9, .imm (iv (l.length : Int))), (10, .imm (iv (i : Int)))]) (fun i => i ≤ l.length) (fun i => l.length - i) (0) ?_ ⟨rfl, rfl, rfl, look_int rfl (by rw [List.length_map]), rfl, trivial⟩ ?_
  · exact Nat.zero_le _
  · rintro i h1; have h1 : i ≤ l.length := h1
    refine aw_seq ?_
    refine aw_region ?_
    refine g_u (s_ltI rfl rfl rfl) ?_
    refine g_nil ?_
    refine normal_thn ?_
    refine aw_seq ?_
    refine aw_cond rfl (fun hb1 => ?_) (fun hb1 => ?_)
    · skip
      have hi : i < l.length := by have := of_decide_eq_true hb1; (try simp only [List.length_map] at this); omega
      refine aw_skip ?_
      refine normal_thn ?_
      refine aw_seq ?_
      refine aw_block ?_
      refine aw_seq ?_
      refine aw_region ?_
      refine g_u (s_indexAddr rfl rfl rfl Tryd.underlying50 tS36 (by omega) (ixS hi)) ?_
      refine g_u (s_load_cp rfl rfl tA36 tS36 rfl (by first | exact getS_w (GSpan.width _) rfl | rfl)) ?_
      refine g_uG (s_alloc' 1007 rfl rfl rfl tZ36) rfl ?_
      refine g_u (s_store_imm rfl rfl rfl tS36 (by first | exact beqW (GSpan.width _) | rfl) (by first | exact setS_w (z36_w.trans (GSpan.width _).symm) rfl | rfl)) ?_
      refine g_nil ?_
      refine normal_thn ?_
      refine aw_region ?_
      refine g_u (s_mv_imm rfl rfl) ?_
      refine g_u (s_mv_imm rfl rfl) ?_
      refine g_u (s_load_imm rfl rfl rfl tA36 tS36 rfl (by first | exact getS_w (GSpan.width _) rfl | rfl)) ?_
      refine g_u (s_callv1 (hf _ (nthS_mem hi)) rfl rfl rfl) ?_
      refine g_u (s_add rfl rfl rfl) ?_
      refine g_u (s_as_imm rfl rfl) ?_
      refine g_nil ?_
      refine normal_blk ?_
      refine normal_thn ?_
      refine aw_region ?_
      refine g_u (s_add rfl rfl rfl) ?_
      refine g_u (s_mv_imm rfl rfl) ?_
      refine g_nil ?_
      refine normal_thn ?_
      have q1 := sumBy_nth_le (F := F) (d := gs0) hi
      have q2 := sumBy_nth (F := F) (d := gs0) hi
      refine ⟨i + 1, hi, ⟨rfl, look_int rfl (by show IntKind.i64.wrap ((sumBy F (l.take i) : Int) + (F (nth l i gs0) : Int)) = _; rw [wrap64 (by omega) (by omega), q2]; rfl), rfl, rfl, look_int rfl (by rw [wrap64 (by omega) (by omega)]; rfl), trivial⟩, by (try dsimp only); omega⟩
    · skip
      have hin : i = l.length := by have := of_decide_eq_false hb1; (try simp only [List.length_map] at this); omega
      refine aw_exit ?_
      refine exit_thn ?_
      refine exit_thn ?_
      refine exit_blk ?_
      refine normal_thn ?_
      refine aw_seq ?_
      refine aw_region ?_
      refine g_u (s_mv_imm rfl rfl) ?_
      refine g_u (s_as_imm rfl rfl) ?_
      refine g_nil ?_
      refine normal_thn ?_
      refine aw_ret ?_
      exact ⟨⟨(rfl : toAV (Al.look _ _) = some _).trans (congrArg some (by (exact congrArg iv (by rw [hin, List.take_length])))), rfl⟩, trivial⟩

set_option maxHeartbeats 400000 in
theorem sumC_c (l : List GScope) (F : GScope → Nat) (fn : FuncId) (caps : List AV) (hf : ∀ y ∈ l, PCall Tryd.prog Γ0 fn (y.av :: caps) [iv (F y : Nat)]) (hl : l.length ≤ 1000000000000) (hF : sumBy F l ≤ 10000000000000000) : PCall Tryd.prog Γ0 107 [.sl 3 (l.map GScope.av), .fn (.func fn) [] caps] [iv (sumBy F l : Nat)] := by
  refine pcall_of Tryd.func107 rfl Tryd.ntmps107 (by kernel_rfl) rfl fun w0 I0 G0 => ?_
  refine aw_seq ?_
  refine aw_region ?_
  refine g_u (s_as_imm rfl rfl) ?_
  refine g_nil ?_
  refine normal_thn ?_
  refine aw_seq ?_
  refine aw_region ?_
  refine g_u (s_as_imm rfl rfl) ?_
  refine g_nil ?_
  refine normal_thn ?_
  refine aw_seq ?_
  refine aw_seq ?_
  refine aw_region ?_
  refine g_u (s_mv_imm rfl rfl) ?_
  refine g_u (s_lenL rfl rfl Tryd.underlying45) ?_
  refine g_u (s_mv_imm rfl rfl) ?_
  refine g_nil ?_
  refine normal_thn ?_
  refine aw_block ?_
  refine aw_loop' (fun i : Nat => [(1, .imm (.fn (.func fn) [] caps)), (5, .imm (iv (sumBy F (l.take i) : Nat))), (8, .imm (.sl 3 (l.map GScope.av))), (9, .imm (iv (l.length : Int))), (10, .imm (iv (i : Int)))]) (fun i => i ≤ l.length) (fun i => l.length - i) (0) ?_ ⟨rfl, rfl, rfl, look_int rfl (by rw [List.length_map]), rfl, trivial⟩ ?_
  · exact Nat.zero_le _
  · rintro i h1; have h1 : i ≤ l.length := h1
    refine aw_seq ?_
    refine aw_region ?_
    refine g_u (s_ltI rfl rfl rfl) ?_
    refine g_nil ?_
    refine normal_thn ?_
    refine aw_seq ?_
    refine aw_cond rfl (fun hb1 => ?_) (fun hb1 => ?_)
    · skip
      have hi : i < l.length := by have := of_decide_eq_true hb1; (try simp only [List.length_map] at this); omega
      refine aw_skip ?_
      refine normal_thn ?_
      refine aw_seq ?_
      refine aw_block ?_
      refine aw_seq ?_
      refine aw_region ?_
      refine g_u (s_indexAddr rfl rfl rfl Tryd.underlying45 tS52 (by omega) (ixC hi)) ?_
      refine g_u (s_load_cp rfl rfl tA52 tS52 rfl rfl) ?_
      refine g_uG (s_alloc' 1007 rfl rfl rfl tZ52) rfl ?_
      refine g_u (s_store_imm rfl rfl rfl tS52 rfl rfl) ?_
      refine g_nil ?_
      refine normal_thn ?_
      refine aw_region ?_
      refine g_u (s_mv_imm rfl rfl) ?_
      refine g_u (s_mv_imm rfl rfl) ?_
      refine g_u (s_load_imm rfl rfl rfl tA52 tS52 rfl rfl) ?_
      refine g_u (s_callv1 (hf _ (nthC_mem hi)) rfl rfl rfl) ?_
      refine g_u (s_add rfl rfl rfl) ?_
      refine g_u (s_as_imm rfl rfl) ?_
      refine g_nil ?_
      refine normal_blk ?_
      refine normal_thn ?_
      refine aw_region ?_
      refine g_u (s_add rfl rfl rfl) ?_
      refine g_u (s_mv_imm rfl rfl) ?_
      refine g_nil ?_
      refine normal_thn ?_
      have q1 := sumBy_nth_le (F := F) (d := gc0) hi
      have q2 := sumBy_nth (F := F) (d := gc0) hi
      refine ⟨i + 1, hi, ⟨rfl, look_int rfl (by show IntKind.i64.wrap ((sumBy F (l.take i) : Int) + (F (nth l i gc0) : Int)) = _; rw [wrap64 (by omega) (by omega), q2]; rfl), rfl, rfl, look_int rfl (by rw [wrap64 (by omega) (by omega)]; rfl), trivial⟩, by (try dsimp only); omega⟩
    · skip
      have hin : i = l.length := by have := of_decide_eq_false hb1; (try simp only [List.length_map] at this); omega
      refine aw_exit ?_
      refine exit_thn ?_
      refine exit_thn ?_
      refine exit_blk ?_
      refine normal_thn ?_
      refine aw_seq ?_
      refine aw_region ?_
      refine g_u (s_mv_imm rfl rfl) ?_
      refine g_u (s_as_imm rfl rfl) ?_
      refine g_nil ?_
      refine normal_thn ?_
      refine aw_ret ?_
      exact ⟨⟨(rfl : toAV (Al.look _ _) = some _).trans (congrArg some (by (exact congrArg iv (by rw [hin, List.take_length])))), rfl⟩, trivial⟩

set_option maxHeartbeats 400000 in
theorem sumR_c (l : List GRes) (F : GRes → Nat) (fn : FuncId) (caps : List AV) (hf : ∀ y ∈ l, PCall Tryd.prog Γ0 fn (y.av :: caps) [iv (F y : Nat)]) (hl : l.length ≤ 1000000000000) (hF : sumBy F l ≤ 10000000000000000) : PCall Tryd.prog Γ0 97 [.sl 2 (l.map GRes.av), .fn (.func fn) [] caps] [iv (sumBy F l : Nat)] := by
  refine pcall_of Tryd.func97 rfl Tryd.ntmps97 (by kernel_rfl) rfl fun w0 I0 G0 => ?_
  refine aw_seq ?_
  refine aw_region ?_
  refine g_u (s_as_imm rfl rfl) ?_
  refine g_nil ?_
  refine normal_thn ?_
  refine aw_seq ?_
  refine aw_region ?_
  refine g_u (s_as_imm rfl rfl) ?_
  refine g_nil ?_
  refine normal_thn ?_
  refine aw_seq ?_
  refine aw_seq ?_
  refine aw_region ?_
  refine g_u (s_mv_imm rfl rfl) ?_
  refine g_u (s_lenL rfl rfl Tryd.underlying22) ?_
  refine g_u (s_mv_imm rfl rfl) ?_
  refine g_nil ?_
  refine normal_thn ?_
  refine aw_block ?_
  refine aw_loop' (fun i : Nat => [(1, .imm (.fn (.func fn) [] caps)), (5, .imm (iv (sumBy F (l.take i) : Nat))), (8, .imm (.sl 2 (l.map GRes.av))), (9, .imm (iv (l.length : Int))), (10, .imm (iv (i : Int)))]) (fun i => i ≤ l.length) (fun i => l.length - i) (0) ?_ ⟨rfl, rfl, rfl, look_int rfl (by rw [List.length_map]), rfl, trivial⟩ ?_
  · exact Nat.zero_le _
  · rintro i h1; have h1 : i ≤ l.length := h1
    refine aw_seq ?_
    refine aw_region ?_
    refine g_u (s_ltI rfl rfl rfl) ?_
    refine g_nil ?_
    refine normal_thn ?_
    refine aw_seq ?_
    refine aw_cond rfl (fun hb1 => ?_) (fun hb1 => ?_)
    · skip
      have hi : i < l.length := by have := of_decide_eq_true hb1; (try simp only [List.length_map] at this); omega
      refine aw_skip ?_
      refine normal_thn ?_
      refine aw_seq ?_
      refine aw_block ?_
      refine aw_seq ?_
      refine aw_region ?_
      refine g_u (s_indexAddr rfl rfl rfl Tryd.underlying22 tS47 (by omega) (ixR hi)) ?_
      refine g_u (s_load_cp rfl rfl tA47 tS47 rfl rfl) ?_
      refine g_uG (s_alloc' 1007 rfl rfl rfl tZ47) rfl ?_
      refine g_u (s_store_imm rfl rfl rfl tS47 rfl rfl) ?_
      refine g_nil ?_
      refine normal_thn ?_
      refine aw_region ?_
      refine g_u (s_mv_imm rfl rfl) ?_
      refine g_u (s_mv_imm rfl rfl) ?_
      refine g_u (s_load_imm rfl rfl rfl tA47 tS47 rfl rfl) ?_
      refine g_u (s_callv1 (hf _ (nthR_mem hi)) rfl rfl rfl) ?_
      refine g_u (s_add rfl rfl rfl) ?_
      refine g_u (s_as_imm rfl rfl) ?_
      refine g_nil ?_
      refine normal_blk ?_
      refine normal_thn ?_
      refine aw_region ?_
      refine g_u (s_add rfl rfl rfl) ?_
      refine g_u (s_mv_imm rfl rfl) ?_
      refine g_nil ?_
      refine normal_thn ?_
      have q1 := sumBy_nth_le (F := F) (d := gr0) hi
      have q2 := sumBy_nth (F := F) (d := gr0) hi
      refine ⟨i + 1, hi, ⟨rfl, look_int rfl (by show IntKind.i64.wrap ((sumBy F (l.take i) : Int) + (F (nth l i gr0) : Int)) = _; rw [wrap64 (by omega) (by omega), q2]; rfl), rfl, rfl, look_int rfl (by rw [wrap64 (by omega) (by omega)]; rfl), trivial⟩, by (try dsimp only); omega⟩
    · skip
      have hin : i = l.length := by have := of_decide_eq_false hb1; (try simp only [List.length_map] at this); omega
      refine aw_exit ?_
      refine exit_thn ?_
      refine exit_thn ?_
      refine exit_blk ?_
      refine normal_thn ?_
      refine aw_seq ?_
      refine aw_region ?_
      refine g_u (s_mv_imm rfl rfl) ?_
      refine g_u (s_as_imm rfl rfl) ?_
      refine g_nil ?_
      refine normal_thn ?_
      refine aw_ret ?_
      exact ⟨⟨(rfl : toAV (Al.look _ _) = some _).trans (congrArg some (by (exact congrArg iv (by rw [hin, List.take_length])))), rfl⟩, trivial⟩

set_option maxHeartbeats 400000 in
theorem attrW_c (a : GA) (ho : a.ok) (hw : a.wt ≤ 10000000) : PCall Tryd.prog Γ0 104 [a.av] [iv (attrW a : Nat)] := by
  have ek := a.wt_eq
  have q1 := textM_le a.val
  refine pcall_of Tryd.func104 rfl Tryd.ntmps104 (by kernel_rfl) rfl fun w0 I0 G0 => ?_
  refine aw_seq ?_
  refine aw_region ?_
  refine g_uG (s_box_imm 1001 rfl rfl rfl rfl) rfl ?_
  refine g_u (s_as_imm rfl rfl) ?_
  refine g_nil ?_
  refine normal_thn ?_
  refine aw_seq ?_
  refine aw_draw mixed ?_
  refine g_u (s_fieldAddr rfl rfl fa61_0 rfl) ?_
  refine g_u (s_load_imm rfl rfl rfl tA9 tS9 rfl rfl) ?_
  refine g_u (s_lenS rfl rfl Tryd.underlying9) ?_
  refine g_u (s_mul rfl rfl rfl) ?_
  refine g_u (s_add rfl rfl rfl) ?_
  refine g_u (s_fieldAddr rfl rfl fa61_1 rfl) ?_
  refine g_u (s_load_imm rfl rfl rfl tA57 tS57 rfl rfl) ?_
  refine g_u (s_call1 (text_c a.val ((GA.ok_iff a).1 ho).2 (by omega)) rfl rfl) ?_
  refine g_u (s_lenS rfl rfl Tryd.underlying9) ?_
  refine g_u (s_mul rfl rfl rfl) ?_
  refine g_u (s_add rfl rfl rfl) ?_
  refine g_u (s_as_imm rfl rfl) ?_
  refine g_nil ⟨by kernel_rfl, ?_⟩
  refine normal_thn ?_
  refine aw_ret ?_
  exact ⟨⟨(rfl : toAV (Al.look _ _) = some _).trans (congrArg some (by (exact congrArg iv (by unfold attrW; ((try simp only [decide_eq_true_eq, decide_eq_false_iff_not, bne_iff_ne, ne_eq, beq_iff_eq, bne_eq_false_iff_eq, beq_eq_false_iff_ne, Bool.not_eq_true', Bool.not_eq_false', gt_iff_lt, ge_iff_le] at *); (repeat simp (disch := omega) only [wrap64, wrap32] at *)); omega)))), rfl⟩, trivial⟩

set_option maxHeartbeats 400000 in
theorem wattrs_c (l : List GA) (ho : ∀ a ∈ l, a.ok) (hw : wtAs l ≤ 10000000) : PCall Tryd.prog Γ0 30 [.sl 7 (l.map avA)] [iv (attrsW l : Nat)] := by
  have q1 := attrsW_le l
  have q2 := len_wtAs l
  refine pcall_of Tryd.func30 rfl Tryd.ntmps30 (by kernel_rfl) rfl fun w0 I0 G0 => ?_
  refine aw_seq ?_
  refine aw_region ?_
  refine g_u (s_as_imm rfl rfl) ?_
  refine g_nil ?_
  refine normal_thn ?_
  refine aw_seq ?_
  refine aw_region ?_
  refine g_u (s_mv_imm rfl rfl) ?_
  refine g_u (s_call1 (sumA_c l attrW 104 [] (fun a ha => attrW_c a (ho a ha) (by have := wtAs_mem ha; omega)) (by omega) (by rw [← attrsW_sum]; omega)) rfl rfl) ?_
  refine g_u (s_as_imm rfl rfl) ?_
  refine g_nil ?_
  refine normal_thn ?_
  refine aw_ret ?_
  exact ⟨⟨(rfl : toAV (Al.look _ _) = some _).trans (congrArg some (by (rw [attrsW_sum]))), rfl⟩, trivial⟩

theorem cmp250 : cmpFn Tryd.prog 250 := ⟨_, Tryd.func250, by kernel_rfl, rfl, by kernel_rfl, by kernel_rfl⟩
set_option maxHeartbeats 400000 in
theorem cmp_239_c (s t : ByteArray) : PCall Tryd.prog Γ0 239 [sv s, sv t] [iv (cmpK s t)] := by
  refine pcall_of Tryd.func239 rfl Tryd.ntmps239 (by kernel_rfl) rfl fun w0 I0 G0 => ?_
  refine aw_seq ?_
  refine aw_region ?_
  refine g_u (s_as_imm rfl rfl) ?_
  refine g_nil ?_
  refine normal_thn ?_
  refine aw_seq ?_
  refine aw_region ?_
  refine g_u (s_mv_imm rfl rfl) ?_
  refine g_u (s_mv_imm rfl rfl) ?_
  refine g_u (s_cmpS cmp250 rfl rfl rfl) ?_
  refine g_u (s_as_imm rfl rfl) ?_
  refine g_nil ?_
  refine normal_thn ?_
  refine aw_ret ?_
  exact ⟨⟨(rfl : toAV (Al.look _ _) = some _).trans (congrArg some (by rfl)), rfl⟩, trivial⟩

set_option maxHeartbeats 400000 in
theorem cmp_201_c (s t : ByteArray) : PCall Tryd.prog Γ0 201 [sv s, sv t] [iv (cmpK s t)] := by
  refine pcall_of Tryd.func201 rfl Tryd.ntmps201 (by kernel_rfl) rfl fun w0 I0 G0 => ?_
  refine aw_seq ?_
  refine aw_region ?_
  refine g_u (s_as_imm rfl rfl) ?_
  refine g_nil ?_
  refine normal_thn ?_
  refine aw_seq ?_
  refine aw_region ?_
  refine g_u (s_mv_imm rfl rfl) ?_
  refine g_u (s_mv_imm rfl rfl) ?_
  refine g_u (s_call1 (cmp_239_c _ _) rfl rfl) ?_
  refine g_u (s_as_imm rfl rfl) ?_
  refine g_nil ?_
  refine normal_thn ?_
  refine aw_ret ?_
  exact ⟨⟨(rfl : toAV (Al.look _ _) = some _).trans (congrArg some (by rfl)), rfl⟩, trivial⟩

set_option maxHeartbeats 400000 in
theorem cmpA_c (a : GA) (k : ByteArray) : PCall Tryd.prog Γ0 200 [a.av, sv k] [iv (cmpK a.key k)] := by
  refine pcall_of Tryd.func200 rfl Tryd.ntmps200 (by kernel_rfl) rfl fun w0 I0 G0 => ?_
  refine aw_seq ?_
  refine aw_region ?_
  refine g_uG (s_box_imm 1002 rfl rfl rfl rfl) rfl ?_
  refine g_u (s_as_imm rfl rfl) ?_
  refine g_nil ?_
  refine normal_thn ?_
  refine aw_seq ?_
  refine aw_region ?_
  refine g_u (s_fieldAddr rfl rfl fa61_0 rfl) ?_
  refine g_u (s_load_imm rfl rfl rfl tA9 tS9 rfl rfl) ?_
  refine g_u (s_mv_imm rfl rfl) ?_
  refine g_u (s_call1 (cmp_201_c _ _) rfl rfl) ?_
  refine g_u (s_as_imm rfl rfl) ?_
  refine g_nil ?_
  refine normal_thn ?_
  refine aw_ret ?_
  exact ⟨⟨(rfl : toAV (Al.look _ _) = some _).trans (congrArg some (by rfl)), rfl⟩, trivial⟩

set_option maxHeartbeats 400000 in
theorem bsf_c (l : List GA) (k : ByteArray) (hr : risA none l) (hl : l.length ≤ 1000000000000) : PCall Tryd.prog Γ0 199 [.sl 7 (l.map avA), sv k, .fn (.func 200) [] []] [iv (posA l k : Nat), bv (hasA l k)] := by
  refine pcall_of Tryd.func199 rfl Tryd.ntmps199 (by kernel_rfl) rfl fun w0 I0 G0 => ?_
  refine aw_seq ?_
  refine aw_region ?_
  refine g_u (s_as_imm rfl rfl) ?_
  refine g_u (s_as_imm rfl rfl) ?_
  refine g_nil ?_
  refine normal_thn ?_
  refine aw_seq ?_
  refine aw_region ?_
  refine g_u (s_mv_imm rfl rfl) ?_
  refine g_u (s_lenL rfl rfl Tryd.underlying30) ?_
  refine g_u (s_as_imm rfl rfl) ?_
  refine g_nil ?_
  refine normal_thn ?_
  refine aw_seq ?_
  refine aw_region ?_
  refine g_u (s_mv_imm rfl rfl) ?_
  refine g_u (s_as_imm rfl rfl) ?_
  refine g_u (s_as_imm rfl rfl) ?_
  refine g_nil ?_
  refine normal_thn ?_
  refine aw_seq ?_
  refine aw_block ?_
  refine aw_loop' (fun j : Nat × Nat => [(0, .imm (.sl 7 (l.map avA))), (1, .imm (sv k)), (2, .imm (.fn (.func 200) [] [])), (8, .imm (iv (l.length : Int))), (9, .imm (iv (j.1 : Int))), (10, .imm (iv (j.2 : Int)))]) (fun j => j.1 ≤ j.2 ∧ j.2 ≤ l.length ∧ (∀ i, i < j.1 → ltB (nthA l i).key k = true) ∧ (∀ i, j.2 ≤ i → i < l.length → ltB (nthA l i).key k = false)) (fun j => j.2 - j.1) (⟨0, l.length⟩) ?_ ⟨rfl, rfl, rfl, look_int rfl (by rw [List.length_map]), rfl, look_int rfl (by rw [List.length_map]), trivial⟩ ?_
  · exact ⟨Nat.zero_le _, Nat.le_refl _, fun i h => absurd h (Nat.not_lt_zero _), fun i h1 h2 => absurd h2 (Nat.not_lt.2 h1)⟩
  · rintro ⟨lo, hi⟩ ⟨h1, h2, h3, h4⟩; dsimp only at h1 h2 h3 h4
    have em : IntKind.i64.wrap ((IntKind.u64.wrap (IntKind.i64.wrap ((lo : Int) + (hi : Int)))).fdiv (2 ^ (min (1 : Int).toNat IntKind.u64.bits))) = (((lo + hi) / 2 : Nat) : Int) := by rw [wrap64 (n := (lo : Int) + (hi : Int)) (by omega) (by omega), wrapu64 (by omega) (by omega), Int.fdiv_eq_ediv_of_nonneg _ (by decide), show (2 : Int) ^ (min (1 : Int).toNat IntKind.u64.bits) = 2 from by decide, wrap64 (by omega) (by omega)]; omega
    refine aw_seq ?_
    refine aw_seq ?_
    refine aw_region ?_
    refine g_u (s_mv_imm rfl rfl) ?_
    refine g_u (s_mv_imm rfl rfl) ?_
    refine g_u (s_ltI rfl rfl rfl) ?_
    refine g_nil ?_
    refine normal_thn ?_
    refine aw_cond rfl (fun hb1 => ?_) (fun hb1 => ?_)
    · skip
      have hmid : (lo + hi) / 2 < l.length := by have := of_decide_eq_true hb1; omega
      refine aw_skip ?_
      refine normal_thn ?_
      refine aw_block ?_
      refine aw_seq ?_
      refine aw_region ?_
      refine g_u (s_mv_imm rfl rfl) ?_
      refine g_u (s_mv_imm rfl rfl) ?_
      refine g_u (s_add rfl rfl rfl) ?_
      refine g_u (s_cvII rfl rfl Tryd.underlying3 Tryd.underlying263) ?_
      refine g_u (s_shr rfl rfl rfl (by first | decide | omega | (((try simp only [decide_eq_true_eq, decide_eq_false_iff_not, bne_iff_ne, ne_eq, beq_iff_eq, bne_eq_false_iff_eq, beq_eq_false_iff_ne, Bool.not_eq_true', Bool.not_eq_false', gt_iff_lt, ge_iff_le] at *); (repeat simp (disch := omega) only [wrap64, wrap32] at *)); omega))) ?_
      refine g_u (s_cvII rfl rfl Tryd.underlying263 Tryd.underlying3) ?_
      refine g_u (s_as_imm rfl rfl) ?_
      refine g_nil ?_
      refine normal_thn ?_
      refine aw_seq ?_
      refine aw_region ?_
      refine g_u (s_mv_imm rfl rfl) ?_
      refine g_u (s_mv_imm rfl rfl) ?_
      refine g_u (s_mv_imm rfl rfl) ?_
      refine g_u (s_indexAddr rfl rfl rfl Tryd.underlying30 tS61 (by erw [em]; omega) ((congrArg (fun z : Int => (l.map avA)[z.toNat]?) em).trans (ixA hmid))) ?_
      refine g_u (s_load_cp rfl rfl tA61 tS61 rfl rfl) ?_
      refine g_u (s_mv_imm rfl rfl) ?_
      refine g_u (s_callv1 (cmpA_c _ _) rfl rfl rfl) ?_
      refine g_u (s_ltI rfl rfl rfl) ?_
      refine g_nil ?_
      refine normal_thn ?_
      refine aw_cond rfl (fun hb2 => ?_) (fun hb2 => ?_)
      · skip
        have hk : ltB (nthA l ((lo + hi) / 2)).key k = true := (cmpK_lt _ _).1 (of_decide_eq_true hb2)
        refine aw_region ?_
        refine g_u (s_mv_imm rfl rfl) ?_
        refine g_u (s_add rfl rfl rfl) ?_
        refine g_u (s_as_imm rfl rfl) ?_
        refine g_nil ?_
        refine normal_blk ?_
        refine normal_thn ?_
        have hlt : lo < hi := by have := of_decide_eq_true hb1; omega
        first
          | exact ⟨⟨(lo + hi) / 2 + 1, hi⟩, ⟨by dsimp only; omega, h2, fun i hi1 => ris_left hr hmid hk (by dsimp only at hi1; omega), h4⟩, ⟨rfl, rfl, rfl, rfl, look_int rfl (by erw [em]; rw [wrap64 (by omega) (by omega)]; rfl), rfl, trivial⟩, by dsimp only; omega⟩
          | exact ⟨⟨lo, (lo + hi) / 2⟩, ⟨by dsimp only; omega, by dsimp only; omega, h3, fun i hi1 hi2 => ris_right hr hk hi1 hi2⟩, ⟨rfl, rfl, rfl, rfl, rfl, look_int rfl em, trivial⟩, by dsimp only; omega⟩
      · skip
        have hk : ltB (nthA l ((lo + hi) / 2)).key k = false := by cases hq : ltB (nthA l ((lo + hi) / 2)).key k; rfl; exact absurd ((cmpK_lt _ _).2 hq) (of_decide_eq_false hb2)
        refine aw_region ?_
        refine g_u (s_mv_imm rfl rfl) ?_
        refine g_u (s_as_imm rfl rfl) ?_
        refine g_nil ?_
        refine normal_blk ?_
        refine normal_thn ?_
        have hlt : lo < hi := by have := of_decide_eq_true hb1; omega
        first
          | exact ⟨⟨(lo + hi) / 2 + 1, hi⟩, ⟨by dsimp only; omega, h2, fun i hi1 => ris_left hr hmid hk (by dsimp only at hi1; omega), h4⟩, ⟨rfl, rfl, rfl, rfl, look_int rfl (by erw [em]; rw [wrap64 (by omega) (by omega)]; rfl), rfl, trivial⟩, by dsimp only; omega⟩
          | exact ⟨⟨lo, (lo + hi) / 2⟩, ⟨by dsimp only; omega, by dsimp only; omega, h3, fun i hi1 hi2 => ris_right hr hk hi1 hi2⟩, ⟨rfl, rfl, rfl, rfl, rfl, look_int rfl em, trivial⟩, by dsimp only; omega⟩
    · skip
      have hlo : lo = hi := by have := of_decide_eq_false hb1; omega
      have hp : lo = posA l k := posA_spec l k lo (by omega) h3 (fun i hi1 hi2 => h4 i (by omega) hi2)
      refine aw_exit ?_
      refine exit_thn ?_
      refine exit_thn ?_
      refine exit_blk ?_
      refine normal_thn ?_
      refine aw_seq ?_
      refine aw_region ?_
      refine g_u (s_mv_imm rfl rfl) ?_
      refine g_u (s_mv_imm rfl rfl) ?_
      refine g_u (s_mv_imm rfl rfl) ?_
      refine g_u (s_ltI rfl rfl rfl) ?_
      refine g_u (s_mv_imm rfl rfl) ?_
      refine g_case (t := 39) rfl ?_
      rintro (hb3 | hb3)
      · rw [hb3]
        have hll : lo < l.length := by have := of_decide_eq_true hb3; (try simp only [List.length_map] at this); omega
        refine g_run rfl rfl (s_mv_imm rfl rfl) ?_
        refine g_run rfl rfl (s_mv_imm rfl rfl) ?_
        refine g_run rfl rfl (s_mv_imm rfl rfl) ?_
        refine g_run rfl rfl (s_indexAddr rfl rfl rfl Tryd.underlying30 tS61 (by omega) (ixA hll)) ?_
        refine g_run rfl rfl (s_load_cp rfl rfl tA61 tS61 rfl rfl) ?_
        refine g_run rfl rfl (s_mv_imm rfl rfl) ?_
        refine g_run rfl rfl (s_callv1 (cmpA_c _ _) rfl rfl rfl) ?_
        refine g_run rfl rfl (s_eqI rfl rfl rfl) ?_
        refine g_u (s_pick_t rfl rfl rfl) ?_
        refine g_u (s_as_imm rfl rfl) ?_
        refine g_u (s_as_imm rfl rfl) ?_
        refine g_nil ?_
        refine normal_thn ?_
        refine aw_ret ?_
        exact ⟨⟨(rfl : toAV (Al.look _ _) = some _).trans (congrArg (fun n : Nat => some (iv n)) hp), rfl⟩, ⟨(rfl : toAV (Al.look _ _) = some _).trans (congrArg (fun b => some (bv b)) (by rw [hasA, ← hp, decide_eq_true hll, Bool.true_and, ← Bool.coe_iff_coe]; simp only [beq_iff_eq, decide_eq_true_eq]; exact cmpK_eq _ _)), rfl⟩, trivial⟩
      · rw [hb3]
        have hll : ¬ lo < l.length := by have := of_decide_eq_false hb3; (try simp only [List.length_map] at this); omega
        refine g_skip rfl rfl rfl ?_
        refine g_skip rfl rfl rfl ?_
        refine g_skip rfl rfl rfl ?_
        refine g_skip rfl rfl rfl ?_
        refine g_skip rfl rfl rfl ?_
        refine g_skip rfl rfl rfl ?_
        refine g_skip rfl rfl rfl ?_
        refine g_skip rfl rfl rfl ?_
        refine g_u (s_pick_f rfl rfl rfl) ?_
        refine g_u (s_as_imm rfl rfl) ?_
        refine g_u (s_as_imm rfl rfl) ?_
        refine g_nil ?_
        refine normal_thn ?_
        refine aw_ret ?_
        exact ⟨⟨(rfl : toAV (Al.look _ _) = some _).trans (congrArg (fun n : Nat => some (iv n)) hp), rfl⟩, ⟨(rfl : toAV (Al.look _ _) = some _).trans (congrArg (fun b => some (bv b)) (by rw [hasA, ← hp, decide_eq_false hll, Bool.false_and])), rfl⟩, trivial⟩

set_option maxHeartbeats 400000 in
theorem find_c (l : List GA) (k : ByteArray) (hr : risA none l) (hl : l.length ≤ 1000000000000) : PCall Tryd.prog Γ0 132 [.sl 7 (l.map avA), sv k] [iv (posA l k : Nat), bv (hasA l k)] := by
  refine pcall_of Tryd.func132 rfl Tryd.ntmps132 (by kernel_rfl) rfl fun w0 I0 G0 => ?_
  refine aw_seq ?_
  refine aw_region ?_
  refine g_u (s_as_imm rfl rfl) ?_
  refine g_u (s_as_imm rfl rfl) ?_
  refine g_nil ?_
  refine normal_thn ?_
  refine aw_seq ?_
  refine aw_region ?_
  refine g_u (s_mv_imm rfl rfl) ?_
  refine g_u (s_mv_imm rfl rfl) ?_
  refine g_u (s_call2 (bsf_c l k hr hl) rfl rfl) ?_
  refine g_u (s_extract rfl rfl rfl rfl) ?_
  refine g_u (s_extract rfl rfl rfl rfl) ?_
  refine g_u (s_as_imm rfl rfl) ?_
  refine g_u (s_as_imm rfl rfl) ?_
  refine g_nil ?_
  refine normal_thn ?_
  refine aw_ret ?_
  exact ⟨⟨(rfl : toAV (Al.look _ _) = some _).trans (congrArg some (by rfl)), rfl⟩, ⟨(rfl : toAV (Al.look _ _) = some _).trans (congrArg some (by rfl)), rfl⟩, trivial⟩

set_option maxHeartbeats 400000 in
theorem get_c (l : List GA) (k : ByteArray) (hr : risA none l) (hl : l.length ≤ 1000000000000) : PCall Tryd.prog Γ0 70 [.sl 7 (l.map avA), sv k] [((getA l k).getD zeroV).av, bv (getA l k).isSome] := by
  refine pcall_of Tryd.func70 rfl Tryd.ntmps70 (by kernel_rfl) rfl fun w0 I0 G0 => ?_
  refine aw_seq ?_
  refine aw_region ?_
  refine g_uG (s_alloc' 1004 rfl rfl rfl tZ57) rfl ?_
  refine g_u (s_as_imm rfl rfl) ?_
  refine g_nil ?_
  refine normal_thn ?_
  refine aw_seq ?_
  refine aw_seq ?_
  refine aw_region ?_
  refine g_u (s_mv_imm rfl rfl) ?_
  refine g_u (s_mv_imm rfl rfl) ?_
  refine g_u (s_call2 (find_c l k hr hl) rfl rfl) ?_
  refine g_u (s_mv_tup rfl rfl) ?_
  refine g_u (s_extract rfl rfl rfl rfl) ?_
  refine g_u (s_extract rfl rfl rfl rfl) ?_
  refine g_u (s_as_imm rfl rfl) ?_
  refine g_u (s_as_imm rfl rfl) ?_
  refine g_nil ?_
  refine normal_thn ?_
  refine aw_seq ?_
  refine aw_region ?_
  refine g_u (s_mv_imm rfl rfl) ?_
  refine g_nil ?_
  refine normal_thn ?_
  refine aw_cond rfl (fun hb1 => ?_) (fun hb1 => ?_)
  · skip
    have hh : hasA l k = true := hb1
    have hll : posA l k < l.length := by unfold hasA at hh; simp at hh; exact hh.1
    refine aw_seq ?_
    refine aw_region ?_
    refine g_u (s_mv_imm rfl rfl) ?_
    refine g_u (s_mv_imm rfl rfl) ?_
    refine g_u (s_indexAddr rfl rfl rfl Tryd.underlying30 tS61 (by omega) (ixA hll)) ?_
    refine g_u (s_fieldAddr_cp rfl rfl fa61_1 rfl rfl) ?_
    refine g_u (s_load_cp rfl rfl tA57 tS57 rfl rfl) ?_
    refine g_u (s_store_imm rfl rfl rfl tS57 rfl rfl) ?_
    refine g_u (s_as_imm rfl rfl) ?_
    refine g_nil ?_
    refine normal_thn ?_
    refine aw_ret ?_
    refine ret_thn ?_
    exact ⟨⟨_, _, _, _, _, _, _, rfl, rfl, tA57, tS57, rfl, rfl, (rfl : toAV _ = some _).trans (congrArg some (by (rw [getA_pos hr k, if_pos hh]; rfl)))⟩, ⟨(rfl : toAV (Al.look _ _) = some _).trans (congrArg some (by (rw [getA_pos hr k, if_pos hh]; rfl))), rfl⟩, trivial⟩
  · skip
    have hh : hasA l k = false := hb1
    refine aw_skip ?_
    refine normal_thn ?_
    refine aw_seq ?_
    refine aw_region ?_
    refine g_u (s_build rfl tU57 us57 pl57 rfl rfl rfl rfl) ?_
    refine g_u (s_store_imm rfl rfl rfl tS57 rfl rfl) ?_
    refine g_u (s_as_imm rfl rfl) ?_
    refine g_nil ?_
    refine normal_thn ?_
    refine aw_ret ?_
    exact ⟨⟨_, _, _, _, _, _, _, rfl, rfl, tA57, tS57, rfl, rfl, (rfl : toAV _ = some _).trans (congrArg some (by (rw [getA_pos hr k, if_neg (by rw [hh]; decide)]; rfl)))⟩, ⟨(rfl : toAV (Al.look _ _) = some _).trans (congrArg some (by (rw [getA_pos hr k, if_neg (by rw [hh]; decide)]; rfl))), rfl⟩, trivial⟩

theorem getA_ok {l : List GA} (k : ByteArray) (h : ∀ a ∈ l, a.ok) : ((getA l k).getD zeroV).ok ∧ ((getA l k).getD zeroV).wt ≤ 1 + wtAs l := by
  cases hg : getA l k with
  | none => exact ⟨by simp only [Option.getD_none]; rw [GV.ok_iff]; exact ⟨by decide, by decide, by decide, by decide, fun x hx => absurd hx (by simp [zeroV, GV.list]), fun x hx => absurd hx (by simp [zeroV, GV.map])⟩, by simp only [Option.getD_none]; rw [GV.wt_eq]; simp [zeroV, GV.list, GV.map, GV.text, wtVs, wtAs]; exact Nat.zero_le _⟩
  | some v =>
    obtain ⟨a, ha, rfl, _⟩ := getA_mem hg
    have := wtAs_mem ha
    have := a.wt_eq
    exact ⟨((GA.ok_iff a).1 (h a ha)).2, by simp only [Option.getD_some]; omega⟩

set_option maxHeartbeats 400000 in
theorem textA_c (l : List GA) (k : ByteArray) (hr : risA none l) (hl : l.length ≤ 1000000000000) (ho : ∀ a ∈ l, a.ok) (hw : wtAs l ≤ 1000000) : PCall Tryd.prog Γ0 73 [.sl 7 (l.map avA), sv k] [sv (textA l k)] := by
  refine pcall_of Tryd.func73 rfl Tryd.ntmps73 (by kernel_rfl) rfl fun w0 I0 G0 => ?_
  refine aw_seq ?_
  refine aw_region ?_
  refine g_u (s_as_imm rfl rfl) ?_
  refine g_nil ?_
  refine normal_thn ?_
  refine aw_seq ?_
  refine aw_region ?_
  refine g_u (s_mv_imm rfl rfl) ?_
  refine g_u (s_mv_imm rfl rfl) ?_
  refine g_u (s_call2 (get_c l k hr hl) rfl rfl) ?_
  refine g_u (s_mv_tup rfl rfl) ?_
  refine g_u (s_extract rfl rfl rfl rfl) ?_
  refine g_u (s_extract rfl rfl rfl rfl) ?_
  refine g_uG (s_alloc' 1005 rfl rfl rfl tZ57) rfl ?_
  refine g_u (s_store_imm rfl rfl rfl tS57 rfl rfl) ?_
  refine g_u (s_as_imm rfl rfl) ?_
  refine g_nil ?_
  refine normal_thn ?_
  refine aw_seq ?_
  refine aw_region ?_
  refine g_u (s_load_imm rfl rfl rfl tA57 tS57 rfl rfl) ?_
  refine g_u (s_call1 (text_c _ (getA_ok k ho).1 (by have := (getA_ok k ho).2; omega)) rfl rfl) ?_
  refine g_u (s_as_imm rfl rfl) ?_
  refine g_nil ?_
  refine normal_thn ?_
  refine aw_ret ?_
  exact ⟨⟨(rfl : toAV (Al.look _ _) = some _).trans (congrArg some (by rfl)), rfl⟩, trivial⟩

set_option maxHeartbeats 400000 in
theorem rget_c (l : List GA) (k : ByteArray) (hl : l.length ≤ 1000000000000) : PCall Tryd.prog Γ0 71 [.sl 7 (l.map avA), sv k] [((getA l k).getD zeroV).av, bv (getA l k).isSome] := by
  refine pcall_of Tryd.func71 rfl Tryd.ntmps71 (by kernel_rfl) rfl fun w0 I0 G0 => ?_
  refine aw_seq ?_
  refine aw_region ?_
  refine g_uG (s_alloc' 1004 rfl rfl rfl tZ57) rfl ?_
  refine g_u (s_as_imm rfl rfl) ?_
  refine g_nil ?_
  refine normal_thn ?_
  refine aw_seq ?_
  refine aw_seq ?_
  refine aw_region ?_
  refine g_u (s_as_imm rfl rfl) ?_
  refine g_nil ?_
  refine normal_thn ?_
  refine aw_block ?_
  refine aw_loop' (fun i : Nat => [(0, .imm (.sl 7 (l.map avA))), (1, .imm (sv k)), (4, .ptr 1004 0), (1004, .box 57 (.imm z57)), (5, .imm (bv false)), (6, .imm (iv (i : Int)))]) (fun i => i ≤ l.length ∧ getA l k = getA (l.drop i) k) (fun i => l.length - i) (0) ?_ ⟨rfl, rfl, rfl, rfl, rfl, rfl, trivial⟩ ?_
  · exact ⟨Nat.zero_le _, rfl⟩
  · rintro i ⟨h1, h2⟩; (try dsimp only at h1 h2)
    refine aw_seq ?_
    refine aw_seq ?_
    refine aw_region ?_
    refine g_u (s_mv_imm rfl rfl) ?_
    refine g_u (s_mv_imm rfl rfl) ?_
    refine g_u (s_lenL rfl rfl Tryd.underlying30) ?_
    refine g_u (s_ltI rfl rfl rfl) ?_
    refine g_nil ?_
    refine normal_thn ?_
    refine aw_cond rfl (fun hb1 => ?_) (fun hb1 => ?_)
    · skip
      have hi : i < l.length := by have := of_decide_eq_true hb1; (try simp only [List.length_map] at this); omega
      refine aw_skip ?_
      refine normal_thn ?_
      refine aw_seq ?_
      refine aw_block ?_
      refine aw_seq ?_
      refine aw_region ?_
      refine g_u (s_mv_imm rfl rfl) ?_
      refine g_u (s_mv_imm rfl rfl) ?_
      refine g_u (s_indexAddr rfl rfl rfl Tryd.underlying30 tS61 (by omega) (ixA hi)) ?_
      refine g_u (s_fieldAddr_cp rfl rfl fa61_0 rfl rfl) ?_
      refine g_u (s_load_cp rfl rfl tA9 tS9 rfl rfl) ?_
      refine g_u (s_mv_imm rfl rfl) ?_
      refine g_u (s_eqS rfl rfl rfl) ?_
      refine g_nil ?_
      refine normal_thn ?_
      refine aw_cond rfl (fun hb2 => ?_) (fun hb2 => ?_)
      · skip
        have hke : (nthA l i).key = k := by have e := hb2; rw [str_beq] at e; exact of_decide_eq_true e
        refine aw_seq ?_
        refine aw_region ?_
        refine g_u (s_mv_imm rfl rfl) ?_
        refine g_u (s_mv_imm rfl rfl) ?_
        refine g_u (s_indexAddr rfl rfl rfl Tryd.underlying30 tS61 (by omega) (ixA hi)) ?_
        refine g_u (s_fieldAddr_cp rfl rfl fa61_1 rfl rfl) ?_
        refine g_u (s_load_cp rfl rfl tA57 tS57 rfl rfl) ?_
        refine g_u (s_store_imm rfl rfl rfl tS57 rfl rfl) ?_
        refine g_u (s_as_imm rfl rfl) ?_
        refine g_nil ?_
        refine normal_thn ?_
        refine aw_ret ?_
        refine ret_blk ?_
        refine ret_thn ?_
        refine ret_thn ?_
        refine ret_blk ?_
        refine ret_thn ?_
        exact ⟨⟨_, _, _, _, _, _, _, rfl, rfl, tA57, tS57, rfl, rfl, (rfl : toAV _ = some _).trans (congrArg some (by (rw [h2, getA_drop hi, if_pos hke]; rfl)))⟩, ⟨(rfl : toAV (Al.look _ _) = some _).trans (congrArg some (by (rw [h2, getA_drop hi, if_pos hke]; rfl))), rfl⟩, trivial⟩
      · skip
        have hke : ¬ (nthA l i).key = k := by have e := hb2; rw [str_beq] at e; exact of_decide_eq_false e
        refine aw_skip ?_
        refine normal_blk ?_
        refine normal_thn ?_
        refine aw_region ?_
        refine g_u (s_mv_imm rfl rfl) ?_
        refine g_u (s_add rfl rfl rfl) ?_
        refine g_u (s_as_imm rfl rfl) ?_
        refine g_nil ?_
        refine normal_thn ?_
        refine ⟨i + 1, ⟨hi, by rw [h2, getA_drop hi, if_neg hke]⟩, ⟨rfl, rfl, rfl, rfl, rfl, look_int rfl (by rw [wrap64 (by omega) (by omega)]; rfl), trivial⟩, by (try dsimp only); omega⟩
    · skip
      have hin : i = l.length := by have := of_decide_eq_false hb1; (try simp only [List.length_map] at this); omega
      refine aw_exit ?_
      refine exit_thn ?_
      refine exit_thn ?_
      refine exit_blk ?_
      refine normal_thn ?_
      refine aw_seq ?_
      refine aw_region ?_
      refine g_u (s_build rfl tU57 us57 pl57 rfl rfl rfl rfl) ?_
      refine g_u (s_store_imm rfl rfl rfl tS57 rfl rfl) ?_
      refine g_u (s_as_imm rfl rfl) ?_
      refine g_nil ?_
      refine normal_thn ?_
      refine aw_ret ?_
      exact ⟨⟨_, _, _, _, _, _, _, rfl, rfl, tA57, tS57, rfl, rfl, (rfl : toAV _ = some _).trans (congrArg some (by (rw [h2, hin, List.drop_length]; rfl)))⟩, ⟨(rfl : toAV (Al.look _ _) = some _).trans (congrArg some (by (rw [h2, hin, List.drop_length]; rfl))), rfl⟩, trivial⟩

set_option maxHeartbeats 400000 in
theorem rtextA_c (l : List GA) (k : ByteArray) (ho : ∀ a ∈ l, a.ok) (hw : wtAs l ≤ 1000000) : PCall Tryd.prog Γ0 74 [.sl 7 (l.map avA), sv k] [sv (textA l k)] := by
  have q1 := len_wtAs l
  refine pcall_of Tryd.func74 rfl Tryd.ntmps74 (by kernel_rfl) rfl fun w0 I0 G0 => ?_
  refine aw_seq ?_
  refine aw_region ?_
  refine g_u (s_as_imm rfl rfl) ?_
  refine g_nil ?_
  refine normal_thn ?_
  refine aw_seq ?_
  refine aw_region ?_
  refine g_u (s_mv_imm rfl rfl) ?_
  refine g_u (s_mv_imm rfl rfl) ?_
  refine g_u (s_call2 (rget_c _ _ (by first | assumption | omega)) rfl rfl) ?_
  refine g_u (s_mv_tup rfl rfl) ?_
  refine g_u (s_extract rfl rfl rfl rfl) ?_
  refine g_u (s_extract rfl rfl rfl rfl) ?_
  refine g_uG (s_alloc' 1005 rfl rfl rfl tZ57) rfl ?_
  refine g_u (s_store_imm rfl rfl rfl tS57 rfl rfl) ?_
  refine g_u (s_as_imm rfl rfl) ?_
  refine g_nil ?_
  refine normal_thn ?_
  refine aw_seq ?_
  refine aw_region ?_
  refine g_u (s_load_imm rfl rfl rfl tA57 tS57 rfl rfl) ?_
  refine g_u (s_call1 (rtext_c _ (getA_ok k ho).1 (by have := (getA_ok k ho).2; omega)) rfl rfl) ?_
  refine g_u (s_as_imm rfl rfl) ?_
  refine g_nil ?_
  refine normal_thn ?_
  refine aw_ret ?_
  exact ⟨⟨(rfl : toAV (Al.look _ _) = some _).trans (congrArg some (by rfl)), rfl⟩, trivial⟩

set_option maxHeartbeats 400000 in
theorem rservice_c (r : GRes) (ho : ∀ a ∈ r.attrs, a.ok) (hw : wtAs r.attrs ≤ 1000000) : PCall Tryd.prog Γ0 34 [r.av] [sv (serviceM r)] := by
  refine pcall_of Tryd.func34 rfl Tryd.ntmps34 (by kernel_rfl) rfl fun w0 I0 G0 => ?_
  refine aw_seq ?_
  refine aw_region ?_
  refine g_uG (s_box_imm 1001 rfl rfl rfl rfl) rfl ?_
  refine g_u (s_as_imm rfl rfl) ?_
  refine g_nil ?_
  refine normal_thn ?_
  refine aw_seq ?_
  refine aw_region ?_
  refine g_u (s_fieldAddr rfl rfl fa47_0 rfl) ?_
  refine g_u (s_load_imm rfl rfl rfl tA30 tS30 rfl rfl) ?_
  refine g_u (s_call1 (rtextA_c r.attrs skey ho hw) rfl rfl) ?_
  refine g_u (s_as_imm rfl rfl) ?_
  refine g_nil ?_
  refine normal_thn ?_
  refine aw_ret ?_
  exact ⟨⟨(rfl : toAV (Al.look _ _) = some _).trans (congrArg some (by rfl)), rfl⟩, trivial⟩

set_option maxHeartbeats 400000 in
theorem service_c (r : GRes) (ho : ∀ a ∈ r.attrs, a.ok) (hw : wtAs r.attrs ≤ 1000000) (hr : risA none r.attrs) : PCall Tryd.prog Γ0 90 [r.av] [sv (serviceM r)] := by
  have q1 := len_wtAs r.attrs
  refine pcall_of Tryd.func90 rfl Tryd.ntmps90 (by kernel_rfl) rfl fun w0 I0 G0 => ?_
  refine aw_seq ?_
  refine aw_region ?_
  refine g_uG (s_box_imm 1001 rfl rfl rfl rfl) rfl ?_
  refine g_u (s_as_imm rfl rfl) ?_
  refine g_nil ?_
  refine normal_thn ?_
  refine aw_seq ?_
  refine aw_region ?_
  refine g_u (s_fieldAddr rfl rfl fa47_0 rfl) ?_
  refine g_u (s_load_imm rfl rfl rfl tA30 tS30 rfl rfl) ?_
  refine g_u (s_call1 (textA_c r.attrs skey hr (by omega) ho hw) rfl rfl) ?_
  refine g_u (s_as_imm rfl rfl) ?_
  refine g_nil ?_
  refine normal_thn ?_
  refine aw_ret ?_
  exact ⟨⟨(rfl : toAV (Al.look _ _) = some _).trans (congrArg some (by rfl)), rfl⟩, trivial⟩

set_option maxHeartbeats 400000 in
theorem rattrs_c (l : List GA) (ho : ∀ a ∈ l, a.ok) (hw : wtAs l ≤ 10000000) : PCall Tryd.prog Γ0 31 [.sl 7 (l.map avA)] [iv (attrsW l : Nat)] := by
  have q0 := attrsW_le l
  have qs := attrsW_sum l
  have ql := len_wtAs l
  refine pcall_of Tryd.func31 rfl Tryd.ntmps31 (by kernel_rfl) rfl fun w0 I0 G0 => ?_
  refine aw_seq ?_
  refine aw_region ?_
  refine g_u (s_as_imm rfl rfl) ?_
  refine g_nil ?_
  refine normal_thn ?_
  refine aw_seq ?_
  refine aw_region ?_
  refine g_u (s_as_imm rfl rfl) ?_
  refine g_nil ?_
  refine normal_thn ?_
  refine aw_seq ?_
  refine aw_seq ?_
  refine aw_region ?_
  refine g_u (s_as_imm rfl rfl) ?_
  refine g_nil ?_
  refine normal_thn ?_
  refine aw_block ?_
  refine aw_loop' (fun i : Nat => [(0, .imm (.sl 7 (l.map avA))), (3, .imm (iv (sumBy attrW (l.take i) : Nat))), (4, .imm (iv (i : Int)))]) (fun i => i ≤ l.length) (fun i => l.length - i) (0) ?_ ⟨rfl, rfl, rfl, trivial⟩ ?_
  · exact Nat.zero_le _
  · rintro i h1; have h1 : i ≤ l.length := h1; have hs0 := sumBy_take attrW l i
    refine aw_seq ?_
    refine aw_seq ?_
    refine aw_region ?_
    refine g_u (s_mv_imm rfl rfl) ?_
    refine g_u (s_mv_imm rfl rfl) ?_
    refine g_u (s_lenL rfl rfl Tryd.underlying30) ?_
    refine g_u (s_ltI rfl rfl rfl) ?_
    refine g_nil ?_
    refine normal_thn ?_
    refine aw_cond rfl (fun hb1 => ?_) (fun hb1 => ?_)
    · skip
      have hi : i < l.length := by have := of_decide_eq_true hb1; (try simp only [List.length_map] at this); omega
      have hx : (nthA l i).val.wt ≤ 10000000 := by have := wtAs_mem (nthA_mem hi); have := (nthA l i).wt_eq; omega
      have hy := textM_le (nthA l i).val
      have hz := wtAs_mem (nthA_mem hi)
      have hz2 := (nthA l i).wt_eq
      refine aw_skip ?_
      refine normal_thn ?_
      refine aw_seq ?_
      refine aw_block ?_
      refine aw_draw mixed ?_
      refine g_u (s_mv_imm rfl rfl) ?_
      refine g_u (s_add rfl rfl rfl) ?_
      refine g_u (s_mv_imm rfl rfl) ?_
      refine g_u (s_mv_imm rfl rfl) ?_
      refine g_u (s_indexAddr rfl rfl rfl Tryd.underlying30 tS61 (by omega) (ixA hi)) ?_
      refine g_u (s_fieldAddr_cp rfl rfl fa61_0 rfl rfl) ?_
      refine g_u (s_load_cp rfl rfl tA9 tS9 rfl rfl) ?_
      refine g_u (s_lenS rfl rfl Tryd.underlying9) ?_
      refine g_u (s_mul rfl rfl rfl) ?_
      refine g_u (s_add rfl rfl rfl) ?_
      refine g_u (s_mv_imm rfl rfl) ?_
      refine g_u (s_mv_imm rfl rfl) ?_
      refine g_u (s_indexAddr rfl rfl rfl Tryd.underlying30 tS61 (by omega) (ixA hi)) ?_
      refine g_u (s_fieldAddr_cp rfl rfl fa61_1 rfl rfl) ?_
      refine g_u (s_load_cp rfl rfl tA57 tS57 rfl rfl) ?_
      refine g_u (s_call1 (rtext_c _ ((GA.ok_iff _).1 (ho _ (nthA_mem hi))).2 hx) rfl rfl) ?_
      refine g_u (s_lenS rfl rfl Tryd.underlying9) ?_
      refine g_u (s_mul rfl rfl rfl) ?_
      refine g_u (s_add rfl rfl rfl) ?_
      refine g_u (s_as_imm rfl rfl) ?_
      refine g_nil ⟨by kernel_rfl, ?_⟩
      refine normal_blk ?_
      refine normal_thn ?_
      refine aw_region ?_
      refine g_u (s_mv_imm rfl rfl) ?_
      refine g_u (s_add rfl rfl rfl) ?_
      refine g_u (s_as_imm rfl rfl) ?_
      refine g_nil ?_
      refine normal_thn ?_
      have q1 := sumBy_nth_le (F := attrW) (d := a0) hi
      have q2 := sumBy_nth (F := attrW) (d := a0) hi
      refine ⟨i + 1, hi, ⟨rfl, look_int rfl (by rw [q2]; have qa : attrW (nth l i a0) = 64 + 6 * (nthA l i).key.size + 12 * (textM (nthA l i).val).size := rfl; (try dsimp only); ((try simp only [decide_eq_true_eq, decide_eq_false_iff_not, bne_iff_ne, ne_eq, beq_iff_eq, bne_eq_false_iff_eq, beq_eq_false_iff_ne, Bool.not_eq_true', Bool.not_eq_false', gt_iff_lt, ge_iff_le] at *); (repeat simp (disch := omega) only [wrap64, wrap32] at *)); omega), look_int rfl (by rw [wrap64 (by omega) (by omega)]; rfl), trivial⟩, by (try dsimp only); omega⟩
    · skip
      have hin : i = l.length := by have := of_decide_eq_false hb1; (try simp only [List.length_map] at this); omega
      refine aw_exit ?_
      refine exit_thn ?_
      refine exit_thn ?_
      refine exit_blk ?_
      refine normal_thn ?_
      refine aw_seq ?_
      refine aw_region ?_
      refine g_u (s_mv_imm rfl rfl) ?_
      refine g_u (s_as_imm rfl rfl) ?_
      refine g_nil ?_
      refine normal_thn ?_
      refine aw_ret ?_
      exact ⟨⟨(rfl : toAV (Al.look _ _) = some _).trans (congrArg some (by (exact congrArg iv (by rw [hin, List.take_length, ← attrsW_sum])))), rfl⟩, trivial⟩

set_option maxHeartbeats 400000 in
theorem evW_c (e : GE) (ho : e.ok) (hw : e.wt ≤ 10000000) : PCall Tryd.prog Γ0 100 [e.av] [iv (evW e : Nat)] := by
  have q0 := evW_le e
  have q1 : evW e = 64 + 6 * e.name.size + attrsW e.attrs := rfl
  have q2 : e.wt = 1 + e.name.size + wtAs e.attrs := rfl
  refine pcall_of Tryd.func100 rfl Tryd.ntmps100 (by kernel_rfl) rfl fun w0 I0 G0 => ?_
  refine aw_seq ?_
  refine aw_region ?_
  refine g_uG (s_box_imm 1001 rfl rfl rfl rfl) rfl ?_
  refine g_u (s_as_imm rfl rfl) ?_
  refine g_nil ?_
  refine normal_thn ?_
  refine aw_seq ?_
  refine aw_draw mixed ?_
  refine g_u (s_fieldAddr rfl rfl fa122_1 rfl) ?_
  refine g_u (s_load_imm rfl rfl rfl tA9 tS9 rfl rfl) ?_
  refine g_u (s_lenS rfl rfl Tryd.underlying9) ?_
  refine g_u (s_mul rfl rfl rfl) ?_
  refine g_u (s_add rfl rfl rfl) ?_
  refine g_u (s_fieldAddr rfl rfl fa122_2 rfl) ?_
  refine g_u (s_load_imm rfl rfl rfl tA30 tS30 rfl rfl) ?_
  refine g_u (s_call1 (wattrs_c _ ho.2.2 (by omega)) rfl rfl) ?_
  refine g_u (s_add rfl rfl rfl) ?_
  refine g_u (s_as_imm rfl rfl) ?_
  refine g_nil ⟨by kernel_rfl, ?_⟩
  refine normal_thn ?_
  refine aw_ret ?_
  exact ⟨⟨(rfl : toAV (Al.look _ _) = some _).trans (congrArg some (by (exact congrArg iv (by rw [q1]; ((try simp only [decide_eq_true_eq, decide_eq_false_iff_not, bne_iff_ne, ne_eq, beq_iff_eq, bne_eq_false_iff_eq, beq_eq_false_iff_ne, Bool.not_eq_true', Bool.not_eq_false', gt_iff_lt, ge_iff_le] at *); (repeat simp (disch := omega) only [wrap64, wrap32] at *)); omega)))), rfl⟩, trivial⟩

set_option maxHeartbeats 400000 in
theorem lkW_c (e : GL) (ho : e.ok) (hw : e.wt ≤ 10000000) : PCall Tryd.prog Γ0 102 [e.av] [iv (lkW e : Nat)] := by
  have q0 := lkW_le e
  have q1 : lkW e = 64 + 6 * e.state.size + attrsW e.attrs := rfl
  have q2 : e.wt = 1 + e.state.size + wtAs e.attrs := rfl
  refine pcall_of Tryd.func102 rfl Tryd.ntmps102 (by kernel_rfl) rfl fun w0 I0 G0 => ?_
  refine aw_seq ?_
  refine aw_region ?_
  refine g_uG (s_box_imm 1001 rfl rfl rfl rfl) rfl ?_
  refine g_u (s_as_imm rfl rfl) ?_
  refine g_nil ?_
  refine normal_thn ?_
  refine aw_seq ?_
  refine aw_draw mixed ?_
  refine g_u (s_fieldAddr rfl rfl fa124_2 rfl) ?_
  refine g_u (s_load_imm rfl rfl rfl tA9 tS9 rfl rfl) ?_
  refine g_u (s_lenS rfl rfl Tryd.underlying9) ?_
  refine g_u (s_mul rfl rfl rfl) ?_
  refine g_u (s_add rfl rfl rfl) ?_
  refine g_u (s_fieldAddr rfl rfl fa124_3 rfl) ?_
  refine g_u (s_load_imm rfl rfl rfl tA30 tS30 rfl rfl) ?_
  refine g_u (s_call1 (wattrs_c _ ho.2.2.2 (by omega)) rfl rfl) ?_
  refine g_u (s_add rfl rfl rfl) ?_
  refine g_u (s_as_imm rfl rfl) ?_
  refine g_nil ⟨by kernel_rfl, ?_⟩
  refine normal_thn ?_
  refine aw_ret ?_
  exact ⟨⟨(rfl : toAV (Al.look _ _) = some _).trans (congrArg some (by (exact congrArg iv (by rw [q1]; ((try simp only [decide_eq_true_eq, decide_eq_false_iff_not, bne_iff_ne, ne_eq, beq_iff_eq, bne_eq_false_iff_eq, beq_eq_false_iff_ne, Bool.not_eq_true', Bool.not_eq_false', gt_iff_lt, ge_iff_le] at *); (repeat simp (disch := omega) only [wrap64, wrap32] at *)); omega)))), rfl⟩, trivial⟩

set_option maxHeartbeats 400000 in
theorem spanW_c (s : GSpan) (t : ByteArray) (ho : s.ok) (hw : s.wt ≤ 1000000) (ht : t.size ≤ 10000000) : PCall Tryd.prog Γ0 28 [s.av, sv t] [iv (spanW s t : Nat)] := by
  have q0 := spanW_le s t ht
  have qe := spanW_eq s t
  have qw : s.wt = 1 + s.state.size + s.name.size + s.note.size + wtAs s.attrs + sumBy GE.wt s.events + sumBy GL.wt s.links := rfl
  have ql := sumBy_len GE.wt (fun e => by unfold GE.wt; omega) s.events
  have qm := sumBy_len GL.wt (fun e => by unfold GL.wt; omega) s.links
  refine pcall_of Tryd.func28 rfl Tryd.ntmps28 (by kernel_rfl) rfl fun w0 I0 G0 => ?_
  refine aw_seq ?_
  refine aw_region ?_
  refine g_uG (s_box_imm 1002 rfl rfl rfl rfl) rfl ?_
  refine g_u (s_as_imm rfl rfl) ?_
  refine g_nil ?_
  refine normal_thn ?_
  refine aw_seq ?_
  refine aw_draw mixed ?_
  refine g_u (s_mv_imm rfl rfl) ?_
  refine g_u (s_lenS rfl rfl Tryd.underlying9) ?_
  refine g_u (s_fieldAddr rfl rfl fa36_3 rfl) ?_
  refine g_u (s_load_imm rfl rfl rfl tA9 tS9 rfl rfl) ?_
  refine g_u (s_lenS rfl rfl Tryd.underlying9) ?_
  refine g_u (s_add rfl rfl rfl) ?_
  refine g_u (s_fieldAddr rfl rfl fa36_4 rfl) ?_
  refine g_u (s_load_imm rfl rfl rfl tA9 tS9 rfl rfl) ?_
  refine g_u (s_lenS rfl rfl Tryd.underlying9) ?_
  refine g_u (s_add rfl rfl rfl) ?_
  refine g_u (s_fieldAddr rfl rfl fa36_11 rfl) ?_
  refine g_u (s_fieldAddr rfl rfl fa34_1 rfl) ?_
  refine g_u (s_load_imm rfl rfl rfl tA9 tS9 rfl rfl) ?_
  refine g_u (s_lenS rfl rfl Tryd.underlying9) ?_
  refine g_u (s_add rfl rfl rfl) ?_
  refine g_u (s_mul rfl rfl rfl) ?_
  refine g_u (s_add rfl rfl rfl) ?_
  refine g_u (s_fieldAddr rfl rfl fa36_8 rfl) ?_
  refine g_u (s_load_imm rfl rfl rfl tA30 tS30 rfl rfl) ?_
  refine g_u (s_call1 (wattrs_c _ ho.2.2.2.1 (by omega)) rfl rfl) ?_
  refine g_u (s_add rfl rfl rfl) ?_
  refine g_u (s_as_imm rfl rfl) ?_
  refine g_nil ⟨by kernel_rfl, ?_⟩
  refine normal_thn ?_
  refine aw_seq ?_
  refine aw_region ?_
  refine g_u (s_mv_imm rfl rfl) ?_
  refine g_u (s_fieldAddr rfl rfl fa36_9 rfl) ?_
  refine g_u (s_load_imm rfl rfl rfl tA31 tS31 rfl rfl) ?_
  refine g_u (s_call1 (sumE_c s.events evW 100 [] (fun e he => evW_c e (ho.2.2.2.2.1 e he) (by have := sumBy_mem GE.wt he; omega)) (by omega) (by omega)) rfl rfl) ?_
  refine g_u (s_add rfl rfl rfl) ?_
  refine g_u (s_as_imm rfl rfl) ?_
  refine g_nil ?_
  refine normal_thn ?_
  refine aw_seq ?_
  refine aw_region ?_
  refine g_u (s_mv_imm rfl rfl) ?_
  refine g_u (s_fieldAddr rfl rfl fa36_10 rfl) ?_
  refine g_u (s_load_imm rfl rfl rfl tA32 tS32 rfl rfl) ?_
  refine g_u (s_call1 (sumL_c s.links lkW 102 [] (fun e he => lkW_c e (ho.2.2.2.2.2 e he) (by have := sumBy_mem GL.wt he; omega)) (by omega) (by omega)) rfl rfl) ?_
  refine g_u (s_add rfl rfl rfl) ?_
  refine g_u (s_as_imm rfl rfl) ?_
  refine g_nil ?_
  refine normal_thn ?_
  refine aw_ret ?_
  exact ⟨⟨(rfl : toAV (Al.look _ _) = some _).trans (congrArg some (by (exact congrArg iv (by rw [qe]; ((try simp only [decide_eq_true_eq, decide_eq_false_iff_not, bne_iff_ne, ne_eq, beq_iff_eq, bne_eq_false_iff_eq, beq_eq_false_iff_ne, Bool.not_eq_true', Bool.not_eq_false', gt_iff_lt, ge_iff_le] at *); (repeat simp (disch := omega) only [wrap64, wrap32] at *)); omega)))), rfl⟩, trivial⟩

set_option maxHeartbeats 400000 in
theorem rspanW_c (s : GSpan) (t : ByteArray) (ho : s.ok) (hw : s.wt ≤ 1000000) (ht : t.size ≤ 10000000) : PCall Tryd.prog Γ0 29 [s.av, sv t] [iv (spanW s t : Nat)] := by
  have q0 := spanW_le s t ht
  have qe := spanW_eq s t
  have qw : s.wt = 1 + s.state.size + s.name.size + s.note.size + wtAs s.attrs + sumBy GE.wt s.events + sumBy GL.wt s.links := rfl
  have ql := sumBy_len GE.wt (fun e => by unfold GE.wt; omega) s.events
  have qm := sumBy_len GL.wt (fun e => by unfold GL.wt; omega) s.links
  refine pcall_of Tryd.func29 rfl Tryd.ntmps29 (by kernel_rfl) rfl fun w0 I0 G0 => ?_
  refine aw_seq ?_
  refine aw_region ?_
  refine g_uG (s_box_imm 1002 rfl rfl rfl rfl) rfl ?_
  refine g_u (s_as_imm rfl rfl) ?_
  refine g_nil ?_
  refine normal_thn ?_
  refine aw_seq ?_
  refine aw_draw mixed ?_
  refine g_u (s_mv_imm rfl rfl) ?_
  refine g_u (s_fieldAddr rfl rfl fa36_3 rfl) ?_
  refine g_u (s_load_imm rfl rfl rfl tA9 tS9 rfl rfl) ?_
  refine g_u (s_catS rfl rfl rfl (by show _ ≤ (9223372036854775807 : Int); (try dsimp only); (try simp only [app_size]); omega)) ?_
  refine g_u (s_fieldAddr rfl rfl fa36_4 rfl) ?_
  refine g_u (s_load_imm rfl rfl rfl tA9 tS9 rfl rfl) ?_
  refine g_u (s_catS rfl rfl rfl (by show _ ≤ (9223372036854775807 : Int); (try dsimp only); (try simp only [app_size]); omega)) ?_
  refine g_u (s_fieldAddr rfl rfl fa36_11 rfl) ?_
  refine g_u (s_fieldAddr rfl rfl fa34_1 rfl) ?_
  refine g_u (s_load_imm rfl rfl rfl tA9 tS9 rfl rfl) ?_
  refine g_u (s_catS rfl rfl rfl (by show _ ≤ (9223372036854775807 : Int); (try dsimp only); (try simp only [app_size]); omega)) ?_
  refine g_u (s_lenS rfl rfl Tryd.underlying9) ?_
  refine g_u (s_mul rfl rfl rfl) ?_
  refine g_u (s_add rfl rfl rfl) ?_
  refine g_u (s_fieldAddr rfl rfl fa36_8 rfl) ?_
  refine g_u (s_load_imm rfl rfl rfl tA30 tS30 rfl rfl) ?_
  refine g_u (s_call1 (rattrs_c _ ho.2.2.2.1 (by omega)) rfl rfl) ?_
  refine g_u (s_add rfl rfl rfl) ?_
  refine g_u (s_as_imm rfl rfl) ?_
  refine g_nil ⟨by kernel_rfl, ?_⟩
  refine normal_thn ?_
  refine aw_seq ?_
  refine aw_seq ?_
  refine aw_region ?_
  refine g_u (s_as_imm rfl rfl) ?_
  refine g_nil ?_
  refine normal_thn ?_
  refine aw_block ?_
  refine aw_loop' (fun i : Nat => [(2, .ptr 1002 0), (1002, .box 36 (.imm s.av)), (5, .imm (iv (((512 + 6 * (t.size + s.state.size + s.name.size + s.note.size) + attrsW s.attrs) + sumBy evW (s.events.take i) : Nat) : Int))), (6, .imm (iv (i : Int)))]) (fun i => i ≤ s.events.length) (fun i => s.events.length - i) (0) ?_ ⟨rfl, rfl, look_int rfl (by simp only [app_size]; rw [show sumBy evW (s.events.take 0) = 0 from rfl]; ((try simp only [decide_eq_true_eq, decide_eq_false_iff_not, bne_iff_ne, ne_eq, beq_iff_eq, bne_eq_false_iff_eq, beq_eq_false_iff_ne, Bool.not_eq_true', Bool.not_eq_false', gt_iff_lt, ge_iff_le] at *); (repeat simp (disch := omega) only [wrap64, wrap32] at *)); omega), rfl, trivial⟩ ?_
  · exact Nat.zero_le _
  · rintro i h1; have h1 : i ≤ s.events.length := h1; have hs0 := sumBy_take evW s.events i
    refine aw_seq ?_
    refine aw_seq ?_
    refine aw_region ?_
    refine g_u (s_mv_imm rfl rfl) ?_
    refine g_u (s_fieldAddr rfl rfl fa36_9 rfl) ?_
    refine g_u (s_load_imm rfl rfl rfl tA31 tS31 rfl rfl) ?_
    refine g_u (s_lenL rfl rfl Tryd.underlying31) ?_
    refine g_u (s_ltI rfl rfl rfl) ?_
    refine g_nil ?_
    refine normal_thn ?_
    refine aw_cond rfl (fun hb1 => ?_) (fun hb1 => ?_)
    · skip
      have hi : i < s.events.length := by have := of_decide_eq_true hb1; (try simp only [List.length_map] at this); omega
      have q3 := sumBy_nth_le (F := evW) (d := ge0) hi
      have qa : evW (nth s.events i ge0) = 64 + 6 * (nthE s.events i).name.size + attrsW (nthE s.events i).attrs := rfl
      have hx : wtAs (nthE s.events i).attrs ≤ 10000000 := by have h5 := sumBy_mem GE.wt (nthE_mem hi); have h6 : (nthE s.events i).wt = 1 + (nthE s.events i).name.size + wtAs (nthE s.events i).attrs := rfl; omega
      refine aw_skip ?_
      refine normal_thn ?_
      refine aw_seq ?_
      refine aw_block ?_
      refine aw_draw mixed ?_
      refine g_u (s_mv_imm rfl rfl) ?_
      refine g_u (s_add rfl rfl rfl) ?_
      refine g_u (s_fieldAddr rfl rfl fa36_9 rfl) ?_
      refine g_u (s_load_imm rfl rfl rfl tA31 tS31 rfl rfl) ?_
      refine g_u (s_mv_imm rfl rfl) ?_
      refine g_u (s_indexAddr rfl rfl rfl Tryd.underlying31 tS122 (by omega) (ixE hi)) ?_
      refine g_u (s_fieldAddr_cp rfl rfl fa122_1 rfl rfl) ?_
      refine g_u (s_load_cp rfl rfl tA9 tS9 rfl rfl) ?_
      refine g_u (s_lenS rfl rfl Tryd.underlying9) ?_
      refine g_u (s_mul rfl rfl rfl) ?_
      refine g_u (s_add rfl rfl rfl) ?_
      refine g_u (s_fieldAddr rfl rfl fa36_9 rfl) ?_
      refine g_u (s_load_imm rfl rfl rfl tA31 tS31 rfl rfl) ?_
      refine g_u (s_mv_imm rfl rfl) ?_
      refine g_u (s_indexAddr rfl rfl rfl Tryd.underlying31 tS122 (by omega) (ixE hi)) ?_
      refine g_u (s_fieldAddr_cp rfl rfl fa122_2 rfl rfl) ?_
      refine g_u (s_load_cp rfl rfl tA30 tS30 rfl rfl) ?_
      refine g_u (s_call1 (rattrs_c _ (ho.2.2.2.2.1 _ (nthE_mem hi)).2.2 hx) rfl rfl) ?_
      refine g_u (s_add rfl rfl rfl) ?_
      refine g_u (s_as_imm rfl rfl) ?_
      refine g_nil ⟨by kernel_rfl, ?_⟩
      refine normal_blk ?_
      refine normal_thn ?_
      refine aw_region ?_
      refine g_u (s_mv_imm rfl rfl) ?_
      refine g_u (s_add rfl rfl rfl) ?_
      refine g_u (s_as_imm rfl rfl) ?_
      refine g_nil ?_
      refine normal_thn ?_
      have q1 : sumBy evW (s.events.take i) + (64 + 6 * (nthE s.events i).name.size + attrsW (nthE s.events i).attrs) ≤ sumBy evW s.events := sumBy_nth_le (F := evW) (d := ge0) hi
      have q2 : sumBy evW (s.events.take (i + 1)) = sumBy evW (s.events.take i) + (64 + 6 * (nthE s.events i).name.size + attrsW (nthE s.events i).attrs) := sumBy_nth (F := evW) (d := ge0) hi
      refine ⟨i + 1, hi, ⟨rfl, rfl, look_int rfl (by rw [q2]; ((try simp only [decide_eq_true_eq, decide_eq_false_iff_not, bne_iff_ne, ne_eq, beq_iff_eq, bne_eq_false_iff_eq, beq_eq_false_iff_ne, Bool.not_eq_true', Bool.not_eq_false', gt_iff_lt, ge_iff_le] at *); (repeat simp (disch := omega) only [wrap64, wrap32] at *)); omega), look_int rfl (by rw [wrap64 (by omega) (by omega)]; rfl), trivial⟩, by (try dsimp only); omega⟩
    · skip
      have hin : i = s.events.length := by have := of_decide_eq_false hb1; (try simp only [List.length_map] at this); omega
      refine aw_exit ?_
      refine exit_thn ?_
      refine exit_thn ?_
      refine exit_blk ?_
      refine normal_thn ?_
      refine aw_seq ?_
      refine aw_seq ?_
      refine aw_region ?_
      refine g_u (s_as_imm rfl rfl) ?_
      refine g_nil ?_
      refine normal_thn ?_
      refine aw_block ?_
      refine aw_loop' (fun i : Nat => [(2, .ptr 1002 0), (1002, .box 36 (.imm s.av)), (5, .imm (iv ((((512 + 6 * (t.size + s.state.size + s.name.size + s.note.size) + attrsW s.attrs) + sumBy evW s.events) + sumBy lkW (s.links.take i) : Nat) : Int))), (7, .imm (iv (i : Int)))]) (fun i => i ≤ s.links.length) (fun i => s.links.length - i) (0) ?_ ⟨rfl, rfl, look_int rfl (by rw [hin, List.take_length, show sumBy lkW (s.links.take 0) = 0 from rfl]; rfl), rfl, trivial⟩ ?_
      · exact Nat.zero_le _
      · rintro i h1; have h1 : i ≤ s.links.length := h1; have hs0 := sumBy_take lkW s.links i
        refine aw_seq ?_
        refine aw_seq ?_
        refine aw_region ?_
        refine g_u (s_mv_imm rfl rfl) ?_
        refine g_u (s_fieldAddr rfl rfl fa36_10 rfl) ?_
        refine g_u (s_load_imm rfl rfl rfl tA32 tS32 rfl rfl) ?_
        refine g_u (s_lenL rfl rfl Tryd.underlying32) ?_
        refine g_u (s_ltI rfl rfl rfl) ?_
        refine g_nil ?_
        refine normal_thn ?_
        refine aw_cond rfl (fun hb2 => ?_) (fun hb2 => ?_)
        · skip
          have hi : i < s.links.length := by have := of_decide_eq_true hb2; (try simp only [List.length_map] at this); omega
          have q3 := sumBy_nth_le (F := lkW) (d := gl0) hi
          have qa : lkW (nth s.links i gl0) = 64 + 6 * (nthL s.links i).state.size + attrsW (nthL s.links i).attrs := rfl
          have hx : wtAs (nthL s.links i).attrs ≤ 10000000 := by have h5 := sumBy_mem GL.wt (nthL_mem hi); have h6 : (nthL s.links i).wt = 1 + (nthL s.links i).state.size + wtAs (nthL s.links i).attrs := rfl; omega
          refine aw_skip ?_
          refine normal_thn ?_
          refine aw_seq ?_
          refine aw_block ?_
          refine aw_draw mixed ?_
          refine g_u (s_mv_imm rfl rfl) ?_
          refine g_u (s_add rfl rfl rfl) ?_
          refine g_u (s_fieldAddr rfl rfl fa36_10 rfl) ?_
          refine g_u (s_load_imm rfl rfl rfl tA32 tS32 rfl rfl) ?_
          refine g_u (s_mv_imm rfl rfl) ?_
          refine g_u (s_indexAddr rfl rfl rfl Tryd.underlying32 tS124 (by omega) (ixL hi)) ?_
          refine g_u (s_fieldAddr_cp rfl rfl fa124_2 rfl rfl) ?_
          refine g_u (s_load_cp rfl rfl tA9 tS9 rfl rfl) ?_
          refine g_u (s_lenS rfl rfl Tryd.underlying9) ?_
          refine g_u (s_mul rfl rfl rfl) ?_
          refine g_u (s_add rfl rfl rfl) ?_
          refine g_u (s_fieldAddr rfl rfl fa36_10 rfl) ?_
          refine g_u (s_load_imm rfl rfl rfl tA32 tS32 rfl rfl) ?_
          refine g_u (s_mv_imm rfl rfl) ?_
          refine g_u (s_indexAddr rfl rfl rfl Tryd.underlying32 tS124 (by omega) (ixL hi)) ?_
          refine g_u (s_fieldAddr_cp rfl rfl fa124_3 rfl rfl) ?_
          refine g_u (s_load_cp rfl rfl tA30 tS30 rfl rfl) ?_
          refine g_u (s_call1 (rattrs_c _ (ho.2.2.2.2.2 _ (nthL_mem hi)).2.2.2 hx) rfl rfl) ?_
          refine g_u (s_add rfl rfl rfl) ?_
          refine g_u (s_as_imm rfl rfl) ?_
          refine g_nil ⟨by kernel_rfl, ?_⟩
          refine normal_blk ?_
          refine normal_thn ?_
          refine aw_region ?_
          refine g_u (s_mv_imm rfl rfl) ?_
          refine g_u (s_add rfl rfl rfl) ?_
          refine g_u (s_as_imm rfl rfl) ?_
          refine g_nil ?_
          refine normal_thn ?_
          have q1 : sumBy lkW (s.links.take i) + (64 + 6 * (nthL s.links i).state.size + attrsW (nthL s.links i).attrs) ≤ sumBy lkW s.links := sumBy_nth_le (F := lkW) (d := gl0) hi
          have q2 : sumBy lkW (s.links.take (i + 1)) = sumBy lkW (s.links.take i) + (64 + 6 * (nthL s.links i).state.size + attrsW (nthL s.links i).attrs) := sumBy_nth (F := lkW) (d := gl0) hi
          refine ⟨i + 1, hi, ⟨rfl, rfl, look_int rfl (by rw [q2]; ((try simp only [decide_eq_true_eq, decide_eq_false_iff_not, bne_iff_ne, ne_eq, beq_iff_eq, bne_eq_false_iff_eq, beq_eq_false_iff_ne, Bool.not_eq_true', Bool.not_eq_false', gt_iff_lt, ge_iff_le] at *); (repeat simp (disch := omega) only [wrap64, wrap32] at *)); omega), look_int rfl (by rw [wrap64 (by omega) (by omega)]; rfl), trivial⟩, by (try dsimp only); omega⟩
        · skip
          have hin2 : i = s.links.length := by have := of_decide_eq_false hb2; (try simp only [List.length_map] at this); omega
          refine aw_exit ?_
          refine exit_thn ?_
          refine exit_thn ?_
          refine exit_blk ?_
          refine normal_thn ?_
          refine aw_seq ?_
          refine aw_region ?_
          refine g_u (s_mv_imm rfl rfl) ?_
          refine g_u (s_as_imm rfl rfl) ?_
          refine g_nil ?_
          refine normal_thn ?_
          refine aw_ret ?_
          exact ⟨⟨(rfl : toAV (Al.look _ _) = some _).trans (congrArg some (by (exact congrArg iv (by rw [hin2, List.take_length, qe])))), rfl⟩, trivial⟩

set_option maxHeartbeats 400000 in
theorem scope1_c (s : GSpan) (t : ByteArray) (ho : s.ok) (hw : s.wt ≤ 1000000) (ht : t.size ≤ 10000000) : PCall Tryd.prog Γ0 110 [s.av, .cp (sv t)] [iv (spanW s t : Nat)] := by
  refine pcall_of Tryd.func110 rfl Tryd.ntmps110 (by kernel_rfl) rfl fun w0 I0 G0 => ?_
  refine aw_seq ?_
  refine aw_region ?_
  refine g_uG (s_box_imm 1002 rfl rfl rfl rfl) rfl ?_
  refine g_u (s_as_imm rfl rfl) ?_
  refine g_nil ?_
  refine normal_thn ?_
  refine aw_seq ?_
  refine aw_region ?_
  refine g_u (s_load_imm rfl rfl rfl tA36 tS36 rfl (by first | exact getS_w (GSpan.width _) rfl | rfl)) ?_
  refine g_u (s_load_cp rfl rfl tA9 tS9 rfl rfl) ?_
  refine g_u (s_call1 (spanW_c s t ho hw ht) rfl rfl) ?_
  refine g_u (s_as_imm rfl rfl) ?_
  refine g_nil ?_
  refine normal_thn ?_
  refine aw_ret ?_
  exact ⟨⟨(rfl : toAV (Al.look _ _) = some _).trans (congrArg some (by rfl)), rfl⟩, trivial⟩

set_option maxHeartbeats 400000 in
theorem scopeW_c (s : GScope) (t : ByteArray) (ho : s.ok) (hw : s.wt ≤ 1000000) (ht : t.size ≤ 10000000) : PCall Tryd.prog Γ0 33 [s.av, sv t] [iv (scopeW s t : Nat)] := by
  have q0 := scopeW_le s t ht
  have qe : scopeW s t = 64 + 6 * (s.name.size + s.version.size) + sumBy (fun x => spanW x t) s.spans := rfl
  have qw : s.wt = 1 + s.name.size + s.version.size + sumBy GSpan.wt s.spans := rfl
  have ql := sumBy_len GSpan.wt (fun e => by unfold GSpan.wt; omega) s.spans
  refine pcall_of Tryd.func33 rfl Tryd.ntmps33 (by kernel_rfl) rfl fun w0 I0 G0 => ?_
  refine aw_seq ?_
  refine aw_region ?_
  refine g_uG (s_box_imm 1002 rfl rfl rfl rfl) rfl ?_
  refine g_uG (s_box_imm 1003 rfl rfl rfl rfl) rfl ?_
  refine g_u (s_as_imm rfl rfl) ?_
  refine g_nil ?_
  refine normal_thn ?_
  refine aw_seq ?_
  refine aw_share 1003 rfl rfl ?_
  refine aw_draw mixed ?_
  refine g_u (s_fieldAddr rfl rfl fa52_0 rfl) ?_
  refine g_u (s_load_imm rfl rfl rfl tA9 tS9 rfl rfl) ?_
  refine g_u (s_lenS rfl rfl Tryd.underlying9) ?_
  refine g_u (s_fieldAddr rfl rfl fa52_1 rfl) ?_
  refine g_u (s_load_imm rfl rfl rfl tA9 tS9 rfl rfl) ?_
  refine g_u (s_lenS rfl rfl Tryd.underlying9) ?_
  refine g_u (s_add rfl rfl rfl) ?_
  refine g_u (s_mul rfl rfl rfl) ?_
  refine g_u (s_add rfl rfl rfl) ?_
  refine g_u (s_fieldAddr rfl rfl fa52_2 rfl) ?_
  refine g_u (s_load_imm rfl rfl rfl tA50 tS50 rfl rfl) ?_
  refine g_u (s_makeFunc rfl rfl rfl) ?_
  refine g_u (s_call1 (sumS_c s.spans (fun x => spanW x t) 110 [.cp (sv t)] (fun x hx => scope1_c x t (ho.2.2 x hx) (by have := sumBy_mem GSpan.wt hx; omega) ht) (by omega) (by omega)) rfl rfl) ?_
  refine g_u (s_add rfl rfl rfl) ?_
  refine g_u (s_as_imm rfl rfl) ?_
  refine g_nil ⟨by kernel_rfl, ?_⟩
  refine normal_thn ?_
  refine aw_ret ?_
  exact ⟨⟨(rfl : toAV (Al.look _ _) = some _).trans (congrArg some (by (exact congrArg iv (by rw [qe]; ((try simp only [decide_eq_true_eq, decide_eq_false_iff_not, bne_iff_ne, ne_eq, beq_iff_eq, bne_eq_false_iff_eq, beq_eq_false_iff_ne, Bool.not_eq_true', Bool.not_eq_false', gt_iff_lt, ge_iff_le] at *); (repeat simp (disch := omega) only [wrap64, wrap32] at *)); omega)))), rfl⟩, trivial⟩

set_option maxHeartbeats 400000 in
theorem rscopeW_c (s : GScope) (t : ByteArray) (ho : s.ok) (hw : s.wt ≤ 1000000) (ht : t.size ≤ 10000000) : PCall Tryd.prog Γ0 170 [s.av, sv t] [iv (scopeW s t : Nat)] := by
  have q0 := scopeW_le s t ht
  have qe : scopeW s t = 64 + 6 * (s.name.size + s.version.size) + sumBy (fun x => spanW x t) s.spans := rfl
  have qw : s.wt = 1 + s.name.size + s.version.size + sumBy GSpan.wt s.spans := rfl
  have ql := sumBy_len GSpan.wt (fun e => by unfold GSpan.wt; omega) s.spans
  refine pcall_of Tryd.func170 rfl Tryd.ntmps170 (by kernel_rfl) rfl fun w0 I0 G0 => ?_
  refine aw_seq ?_
  refine aw_region ?_
  refine g_uG (s_box_imm 1002 rfl rfl rfl rfl) rfl ?_
  refine g_u (s_as_imm rfl rfl) ?_
  refine g_nil ?_
  refine normal_thn ?_
  refine aw_seq ?_
  refine aw_region ?_
  refine g_u (s_fieldAddr rfl rfl fa52_0 rfl) ?_
  refine g_u (s_load_imm rfl rfl rfl tA9 tS9 rfl rfl) ?_
  refine g_u (s_fieldAddr rfl rfl fa52_1 rfl) ?_
  refine g_u (s_load_imm rfl rfl rfl tA9 tS9 rfl rfl) ?_
  refine g_u (s_catS rfl rfl rfl (by show _ ≤ (9223372036854775807 : Int); (try dsimp only); (try simp only [app_size]); omega)) ?_
  refine g_u (s_lenS rfl rfl Tryd.underlying9) ?_
  refine g_u (s_mul rfl rfl rfl) ?_
  refine g_u (s_add rfl rfl rfl) ?_
  refine g_u (s_as_imm rfl rfl) ?_
  refine g_nil ?_
  refine normal_thn ?_
  refine aw_seq ?_
  refine aw_seq ?_
  refine aw_region ?_
  refine g_u (s_as_imm rfl rfl) ?_
  refine g_nil ?_
  refine normal_thn ?_
  refine aw_block ?_
  refine aw_loop' (fun i : Nat => [(2, .ptr 1002 0), (1002, .box 52 (.imm s.av)), (1, .imm (sv t)), (5, .imm (iv (((64 + 6 * (s.name.size + s.version.size)) + sumBy (fun x => spanW x t) (s.spans.take i) : Nat) : Int))), (6, .imm (iv (i : Int)))]) (fun i => i ≤ s.spans.length) (fun i => s.spans.length - i) (0) ?_ ⟨rfl, rfl, rfl, look_int rfl (by simp only [app_size]; rw [show sumBy (fun x => spanW x t) (s.spans.take 0) = 0 from rfl]; ((try simp only [decide_eq_true_eq, decide_eq_false_iff_not, bne_iff_ne, ne_eq, beq_iff_eq, bne_eq_false_iff_eq, beq_eq_false_iff_ne, Bool.not_eq_true', Bool.not_eq_false', gt_iff_lt, ge_iff_le] at *); (repeat simp (disch := omega) only [wrap64, wrap32] at *)); omega), rfl, trivial⟩ ?_
  · exact Nat.zero_le _
  · rintro i h1; have h1 : i ≤ s.spans.length := h1; have hs0 := sumBy_take (fun x => spanW x t) s.spans i
    refine aw_seq ?_
    refine aw_seq ?_
    refine aw_region ?_
    refine g_u (s_mv_imm rfl rfl) ?_
    refine g_u (s_fieldAddr rfl rfl fa52_2 rfl) ?_
    refine g_u (s_load_imm rfl rfl rfl tA50 tS50 rfl rfl) ?_
    refine g_u (s_lenL rfl rfl Tryd.underlying50) ?_
    refine g_u (s_ltI rfl rfl rfl) ?_
    refine g_nil ?_
    refine normal_thn ?_
    refine aw_cond rfl (fun hb1 => ?_) (fun hb1 => ?_)
    · skip
      have hi : i < s.spans.length := by have := of_decide_eq_true hb1; (try simp only [List.length_map] at this); omega
      have hx : (nthS s.spans i).wt ≤ 1000000 := by have h5 := sumBy_mem GSpan.wt (nthS_mem hi); omega
      refine aw_skip ?_
      refine normal_thn ?_
      refine aw_seq ?_
      refine aw_block ?_
      refine aw_region ?_
      refine g_u (s_mv_imm rfl rfl) ?_
      refine g_u (s_fieldAddr rfl rfl fa52_2 rfl) ?_
      refine g_u (s_load_imm rfl rfl rfl tA50 tS50 rfl rfl) ?_
      refine g_u (s_mv_imm rfl rfl) ?_
      refine g_u (s_indexAddr rfl rfl rfl Tryd.underlying50 tS36 (by omega) (ixS hi)) ?_
      refine g_u (s_load_cp rfl rfl tA36 tS36 rfl (by first | exact getS_w (GSpan.width _) rfl | rfl)) ?_
      refine g_u (s_mv_imm rfl rfl) ?_
      refine g_u (s_call1 (rspanW_c _ t (ho.2.2 _ (nthS_mem hi)) hx ht) rfl rfl) ?_
      refine g_u (s_add rfl rfl rfl) ?_
      refine g_u (s_as_imm rfl rfl) ?_
      refine g_nil ?_
      refine normal_blk ?_
      refine normal_thn ?_
      refine aw_region ?_
      refine g_u (s_mv_imm rfl rfl) ?_
      refine g_u (s_add rfl rfl rfl) ?_
      refine g_u (s_as_imm rfl rfl) ?_
      refine g_nil ?_
      refine normal_thn ?_
      have q1 : sumBy (fun x => spanW x t) (s.spans.take i) + spanW (nthS s.spans i) t ≤ sumBy (fun x => spanW x t) s.spans := sumBy_nth_le (F := (fun x => spanW x t)) (d := gs0) hi
      have q2 : sumBy (fun x => spanW x t) (s.spans.take (i + 1)) = sumBy (fun x => spanW x t) (s.spans.take i) + spanW (nthS s.spans i) t := sumBy_nth (F := (fun x => spanW x t)) (d := gs0) hi
      refine ⟨i + 1, hi, ⟨rfl, rfl, rfl, look_int rfl (by rw [q2]; ((try simp only [decide_eq_true_eq, decide_eq_false_iff_not, bne_iff_ne, ne_eq, beq_iff_eq, bne_eq_false_iff_eq, beq_eq_false_iff_ne, Bool.not_eq_true', Bool.not_eq_false', gt_iff_lt, ge_iff_le] at *); (repeat simp (disch := omega) only [wrap64, wrap32] at *)); omega), look_int rfl (by rw [wrap64 (by omega) (by omega)]; rfl), trivial⟩, by (try dsimp only); omega⟩
    · skip
      have hin : i = s.spans.length := by have := of_decide_eq_false hb1; (try simp only [List.length_map] at this); omega
      refine aw_exit ?_
      refine exit_thn ?_
      refine exit_thn ?_
      refine exit_blk ?_
      refine normal_thn ?_
      refine aw_seq ?_
      refine aw_region ?_
      refine g_u (s_mv_imm rfl rfl) ?_
      refine g_u (s_as_imm rfl rfl) ?_
      refine g_nil ?_
      refine normal_thn ?_
      refine aw_ret ?_
      exact ⟨⟨(rfl : toAV (Al.look _ _) = some _).trans (congrArg some (by (exact congrArg iv (by rw [hin, List.take_length, qe])))), rfl⟩, trivial⟩

set_option maxHeartbeats 400000 in
theorem res1_c (s : GScope) (t : ByteArray) (ho : s.ok) (hw : s.wt ≤ 1000000) (ht : t.size ≤ 10000000) : PCall Tryd.prog Γ0 108 [s.av, .cp (sv t)] [iv (scopeW s t : Nat)] := by
  refine pcall_of Tryd.func108 rfl Tryd.ntmps108 (by kernel_rfl) rfl fun w0 I0 G0 => ?_
  refine aw_seq ?_
  refine aw_region ?_
  refine g_uG (s_box_imm 1002 rfl rfl rfl rfl) rfl ?_
  refine g_u (s_as_imm rfl rfl) ?_
  refine g_nil ?_
  refine normal_thn ?_
  refine aw_seq ?_
  refine aw_region ?_
  refine g_u (s_load_imm rfl rfl rfl tA52 tS52 rfl rfl) ?_
  refine g_u (s_load_cp rfl rfl tA9 tS9 rfl rfl) ?_
  refine g_u (s_call1 (scopeW_c s t ho hw ht) rfl rfl) ?_
  refine g_u (s_as_imm rfl rfl) ?_
  refine g_nil ?_
  refine normal_thn ?_
  refine aw_ret ?_
  exact ⟨⟨(rfl : toAV (Al.look _ _) = some _).trans (congrArg some (by rfl)), rfl⟩, trivial⟩

set_option maxHeartbeats 400000 in
theorem resW_c (r : GRes) (ho : r.ok) (hw : r.wt ≤ 60000) (hr : risA none r.attrs) : PCall Tryd.prog Γ0 32 [r.av] [iv (resW r : Nat)] := by
  have ht : (serviceM r).size ≤ 10000000 := by have := serviceM_le r; omega
  have q0 := resW_le r ht
  have qe : resW r = 64 + attrsW r.attrs + sumBy (fun s => scopeW s (serviceM r)) r.scopes := rfl
  have qw : r.wt = 1 + wtAs r.attrs + sumBy GScope.wt r.scopes := rfl
  have ql := sumBy_len GScope.wt (fun e => by unfold GScope.wt; omega) r.scopes
  refine pcall_of Tryd.func32 rfl Tryd.ntmps32 (by kernel_rfl) rfl fun w0 I0 G0 => ?_
  refine aw_seq ?_
  refine aw_region ?_
  refine g_uG (s_box_imm 1001 rfl rfl rfl rfl) rfl ?_
  refine g_u (s_as_imm rfl rfl) ?_
  refine g_nil ?_
  refine normal_thn ?_
  refine aw_seq ?_
  refine aw_region ?_
  refine g_u (s_load_imm rfl rfl rfl tA47 tS47 rfl rfl) ?_
  refine g_u (s_call1 (service_c r ho.1 (by omega) hr) rfl rfl) ?_
  refine g_uG (s_alloc' 1003 rfl rfl rfl tZ9) rfl ?_
  refine g_u (s_store_imm rfl rfl rfl tS9 rfl rfl) ?_
  refine g_nil ?_
  refine normal_thn ?_
  refine aw_seq ?_
  refine aw_share 1003 rfl rfl ?_
  refine aw_draw mixed ?_
  refine g_u (s_fieldAddr rfl rfl fa47_0 rfl) ?_
  refine g_u (s_load_imm rfl rfl rfl tA30 tS30 rfl rfl) ?_
  refine g_u (s_call1 (wattrs_c _ ho.1 (by omega)) rfl rfl) ?_
  refine g_u (s_add rfl rfl rfl) ?_
  refine g_u (s_fieldAddr rfl rfl fa47_1 rfl) ?_
  refine g_u (s_load_imm rfl rfl rfl tA45 tS45 rfl rfl) ?_
  refine g_u (s_makeFunc rfl rfl rfl) ?_
  refine g_u (s_call1 (sumC_c r.scopes (fun s => scopeW s (serviceM r)) 108 [.cp (sv (serviceM r))] (fun x hx => res1_c x _ (ho.2 x hx) (by have := sumBy_mem GScope.wt hx; omega) ht) (by omega) (by omega)) rfl rfl) ?_
  refine g_u (s_add rfl rfl rfl) ?_
  refine g_u (s_as_imm rfl rfl) ?_
  refine g_nil ⟨by kernel_rfl, ?_⟩
  refine normal_thn ?_
  refine aw_ret ?_
  exact ⟨⟨(rfl : toAV (Al.look _ _) = some _).trans (congrArg some (by (exact congrArg iv (by rw [qe]; ((try simp only [decide_eq_true_eq, decide_eq_false_iff_not, bne_iff_ne, ne_eq, beq_iff_eq, bne_eq_false_iff_eq, beq_eq_false_iff_ne, Bool.not_eq_true', Bool.not_eq_false', gt_iff_lt, ge_iff_le] at *); (repeat simp (disch := omega) only [wrap64, wrap32] at *)); omega)))), rfl⟩, trivial⟩

set_option maxHeartbeats 400000 in
theorem rresW_c (r : GRes) (ho : r.ok) (hw : r.wt ≤ 60000) : PCall Tryd.prog Γ0 98 [r.av] [iv (resW r : Nat)] := by
  have ht : (serviceM r).size ≤ 10000000 := by have := serviceM_le r; omega
  have q0 := resW_le r ht
  have qe : resW r = 64 + attrsW r.attrs + sumBy (fun s => scopeW s (serviceM r)) r.scopes := rfl
  have qw : r.wt = 1 + wtAs r.attrs + sumBy GScope.wt r.scopes := rfl
  have ql := sumBy_len GScope.wt (fun e => by unfold GScope.wt; omega) r.scopes
  refine pcall_of Tryd.func98 rfl Tryd.ntmps98 (by kernel_rfl) rfl fun w0 I0 G0 => ?_
  refine aw_seq ?_
  refine aw_region ?_
  refine g_uG (s_box_imm 1001 rfl rfl rfl rfl) rfl ?_
  refine g_u (s_as_imm rfl rfl) ?_
  refine g_nil ?_
  refine normal_thn ?_
  refine aw_seq ?_
  refine aw_region ?_
  refine g_u (s_fieldAddr rfl rfl fa47_0 rfl) ?_
  refine g_u (s_load_imm rfl rfl rfl tA30 tS30 rfl rfl) ?_
  refine g_u (s_call1 (rattrs_c _ ho.1 (by omega)) rfl rfl) ?_
  refine g_u (s_add rfl rfl rfl) ?_
  refine g_u (s_as_imm rfl rfl) ?_
  refine g_nil ?_
  refine normal_thn ?_
  refine aw_seq ?_
  refine aw_seq ?_
  refine aw_region ?_
  refine g_u (s_as_imm rfl rfl) ?_
  refine g_nil ?_
  refine normal_thn ?_
  refine aw_block ?_
  refine aw_loop' (fun i : Nat => [(1, .ptr 1001 0), (1001, .box 47 (.imm r.av)), (3, .imm (iv (((64 + attrsW r.attrs) + sumBy (fun s => scopeW s (serviceM r)) (r.scopes.take i) : Nat) : Int))), (4, .imm (iv (i : Int)))]) (fun i => i ≤ r.scopes.length) (fun i => r.scopes.length - i) (0) ?_ ⟨rfl, rfl, look_int rfl (by rw [show sumBy (fun s => scopeW s (serviceM r)) (r.scopes.take 0) = 0 from rfl]; ((try simp only [decide_eq_true_eq, decide_eq_false_iff_not, bne_iff_ne, ne_eq, beq_iff_eq, bne_eq_false_iff_eq, beq_eq_false_iff_ne, Bool.not_eq_true', Bool.not_eq_false', gt_iff_lt, ge_iff_le] at *); (repeat simp (disch := omega) only [wrap64, wrap32] at *)); omega), rfl, trivial⟩ ?_
  · exact Nat.zero_le _
  · rintro i h1; have h1 : i ≤ r.scopes.length := h1; have hs0 := sumBy_take (fun s => scopeW s (serviceM r)) r.scopes i
    refine aw_seq ?_
    refine aw_seq ?_
    refine aw_region ?_
    refine g_u (s_mv_imm rfl rfl) ?_
    refine g_u (s_fieldAddr rfl rfl fa47_1 rfl) ?_
    refine g_u (s_load_imm rfl rfl rfl tA45 tS45 rfl rfl) ?_
    refine g_u (s_lenL rfl rfl Tryd.underlying45) ?_
    refine g_u (s_ltI rfl rfl rfl) ?_
    refine g_nil ?_
    refine normal_thn ?_
    refine aw_cond rfl (fun hb1 => ?_) (fun hb1 => ?_)
    · skip
      have hi : i < r.scopes.length := by have := of_decide_eq_true hb1; (try simp only [List.length_map] at this); omega
      have hx : (nthC r.scopes i).wt ≤ 1000000 := by have h5 := sumBy_mem GScope.wt (nthC_mem hi); omega
      refine aw_skip ?_
      refine normal_thn ?_
      refine aw_seq ?_
      refine aw_block ?_
      refine aw_draw mixed ?_
      refine g_u (s_mv_imm rfl rfl) ?_
      refine g_u (s_fieldAddr rfl rfl fa47_1 rfl) ?_
      refine g_u (s_load_imm rfl rfl rfl tA45 tS45 rfl rfl) ?_
      refine g_u (s_mv_imm rfl rfl) ?_
      refine g_u (s_indexAddr rfl rfl rfl Tryd.underlying45 tS52 (by omega) (ixC hi)) ?_
      refine g_u (s_load_cp rfl rfl tA52 tS52 rfl rfl) ?_
      refine g_u (s_load_imm rfl rfl rfl tA47 tS47 rfl rfl) ?_
      refine g_u (s_call1 (rservice_c r ho.1 (by omega)) rfl rfl) ?_
      refine g_u (s_call1 (rscopeW_c _ _ (ho.2 _ (nthC_mem hi)) hx ht) rfl rfl) ?_
      refine g_u (s_add rfl rfl rfl) ?_
      refine g_u (s_as_imm rfl rfl) ?_
      refine g_nil ⟨by kernel_rfl, ?_⟩
      refine normal_blk ?_
      refine normal_thn ?_
      refine aw_region ?_
      refine g_u (s_mv_imm rfl rfl) ?_
      refine g_u (s_add rfl rfl rfl) ?_
      refine g_u (s_as_imm rfl rfl) ?_
      refine g_nil ?_
      refine normal_thn ?_
      have q1 : sumBy (fun s => scopeW s (serviceM r)) (r.scopes.take i) + scopeW (nthC r.scopes i) (serviceM r) ≤ sumBy (fun s => scopeW s (serviceM r)) r.scopes := sumBy_nth_le (F := (fun s => scopeW s (serviceM r))) (d := gc0) hi
      have q2 : sumBy (fun s => scopeW s (serviceM r)) (r.scopes.take (i + 1)) = sumBy (fun s => scopeW s (serviceM r)) (r.scopes.take i) + scopeW (nthC r.scopes i) (serviceM r) := sumBy_nth (F := (fun s => scopeW s (serviceM r))) (d := gc0) hi
      refine ⟨i + 1, hi, ⟨rfl, rfl, look_int rfl (by rw [q2]; ((try simp only [decide_eq_true_eq, decide_eq_false_iff_not, bne_iff_ne, ne_eq, beq_iff_eq, bne_eq_false_iff_eq, beq_eq_false_iff_ne, Bool.not_eq_true', Bool.not_eq_false', gt_iff_lt, ge_iff_le] at *); (repeat simp (disch := omega) only [wrap64, wrap32] at *)); omega), look_int rfl (by rw [wrap64 (by omega) (by omega)]; rfl), trivial⟩, by (try dsimp only); omega⟩
    · skip
      have hin : i = r.scopes.length := by have := of_decide_eq_false hb1; (try simp only [List.length_map] at this); omega
      refine aw_exit ?_
      refine exit_thn ?_
      refine exit_thn ?_
      refine exit_blk ?_
      refine normal_thn ?_
      refine aw_seq ?_
      refine aw_region ?_
      refine g_u (s_mv_imm rfl rfl) ?_
      refine g_u (s_as_imm rfl rfl) ?_
      refine g_nil ?_
      refine normal_thn ?_
      refine aw_ret ?_
      exact ⟨⟨(rfl : toAV (Al.look _ _) = some _).trans (congrArg some (by (exact congrArg iv (by rw [hin, List.take_length, qe])))), rfl⟩, trivial⟩

theorem sumBy_le3 {α : Type} {F G : α → Nat} {k : Nat} : ∀ (l : List α), (∀ x ∈ l, F x ≤ k * G x) → sumBy F l ≤ k * sumBy G l
  | [], _ => by simp [sumBy]
  | x :: xs, h => by simp only [sumBy, Nat.mul_add]; have := h x List.mem_cons_self; have := sumBy_le3 xs (fun y hy => h y (List.mem_cons_of_mem _ hy)); omega

set_option maxHeartbeats 400000 in
theorem batchW_c (b : List GRes) (ho : okB b) (hw : wtB b ≤ 60000) (hr : ∀ r ∈ b, risA none r.attrs) : PCall Tryd.prog Γ0 26 [batchAv b] [iv (batchW b : Nat)] := by
  have ql := sumBy_len GRes.wt (fun e => by unfold GRes.wt; omega) b
  have q0 : sumBy resW b ≤ 100000000 * 60000 := by have h5 := sumBy_le3 (F := resW) (k := 100000000) (G := GRes.wt) b (fun r hr => resW_le r (by have := serviceM_le r; have h6 := sumBy_mem GRes.wt hr; unfold wtB at hw; omega)); unfold wtB at hw; omega
  have qe : batchW b = 16 + sumBy resW b := rfl
  have qw : wtB b = sumBy GRes.wt b := rfl
  refine pcall_of Tryd.func26 rfl Tryd.ntmps26 (by kernel_rfl) rfl fun w0 I0 G0 => ?_
  refine aw_seq ?_
  refine aw_region ?_
  refine g_uG (s_box_imm 1001 rfl rfl rfl rfl) rfl ?_
  refine g_u (s_as_imm rfl rfl) ?_
  refine g_nil ?_
  refine normal_thn ?_
  refine aw_seq ?_
  refine aw_region ?_
  refine g_u (s_fieldAddr rfl rfl fa24_0 rfl) ?_
  refine g_u (s_load_imm rfl rfl rfl tA22 tS22 rfl rfl) ?_
  refine g_u (s_call1 (sumR_c b resW 32 [] (fun r hx => resW_c r (ho r hx) (by have := sumBy_mem GRes.wt hx; omega) (hr r hx)) (by omega) (by omega)) rfl rfl) ?_
  refine g_u (s_add rfl rfl rfl) ?_
  refine g_u (s_as_imm rfl rfl) ?_
  refine g_nil ?_
  refine normal_thn ?_
  refine aw_ret ?_
  exact ⟨⟨(rfl : toAV (Al.look _ _) = some _).trans (congrArg some (by (exact congrArg iv (by rw [qe]; ((try simp only [decide_eq_true_eq, decide_eq_false_iff_not, bne_iff_ne, ne_eq, beq_iff_eq, bne_eq_false_iff_eq, beq_eq_false_iff_ne, Bool.not_eq_true', Bool.not_eq_false', gt_iff_lt, ge_iff_le] at *); (repeat simp (disch := omega) only [wrap64, wrap32] at *)); omega)))), rfl⟩, trivial⟩

set_option maxHeartbeats 400000 in
theorem rbatchW_c (b : List GRes) (ho : okB b) (hw : wtB b ≤ 60000) : PCall Tryd.prog Γ0 27 [batchAv b] [iv (batchW b : Nat)] := by
  have ql := sumBy_len GRes.wt (fun e => by unfold GRes.wt; omega) b
  have q0 : sumBy resW b ≤ 100000000 * 60000 := by have h5 := sumBy_le3 (F := resW) (k := 100000000) (G := GRes.wt) b (fun r hr => resW_le r (by have := serviceM_le r; have h6 := sumBy_mem GRes.wt hr; unfold wtB at hw; omega)); unfold wtB at hw; omega
  have qe : batchW b = 16 + sumBy resW b := rfl
  have qw : wtB b = sumBy GRes.wt b := rfl
  refine pcall_of Tryd.func27 rfl Tryd.ntmps27 (by kernel_rfl) rfl fun w0 I0 G0 => ?_
  refine aw_seq ?_
  refine aw_region ?_
  refine g_uG (s_box_imm 1001 rfl rfl rfl rfl) rfl ?_
  refine g_u (s_as_imm rfl rfl) ?_
  refine g_nil ?_
  refine normal_thn ?_
  refine aw_seq ?_
  refine aw_region ?_
  refine g_u (s_as_imm rfl rfl) ?_
  refine g_nil ?_
  refine normal_thn ?_
  refine aw_seq ?_
  refine aw_seq ?_
  refine aw_region ?_
  refine g_u (s_as_imm rfl rfl) ?_
  refine g_nil ?_
  refine normal_thn ?_
  refine aw_block ?_
  refine aw_loop' (fun i : Nat => [(1, .ptr 1001 0), (1001, .box 24 (.imm (batchAv b))), (3, .imm (iv ((16 + sumBy resW (b.take i) : Nat) : Int))), (4, .imm (iv (i : Int)))]) (fun i => i ≤ b.length) (fun i => b.length - i) (0) ?_ ⟨rfl, rfl, rfl, rfl, trivial⟩ ?_
  · exact Nat.zero_le _
  · rintro i h1; have h1 : i ≤ b.length := h1; have hs0 := sumBy_take resW b i
    refine aw_seq ?_
    refine aw_seq ?_
    refine aw_region ?_
    refine g_u (s_mv_imm rfl rfl) ?_
    refine g_u (s_fieldAddr rfl rfl fa24_0 rfl) ?_
    refine g_u (s_load_imm rfl rfl rfl tA22 tS22 rfl rfl) ?_
    refine g_u (s_lenL rfl rfl Tryd.underlying22) ?_
    refine g_u (s_ltI rfl rfl rfl) ?_
    refine g_nil ?_
    refine normal_thn ?_
    refine aw_cond rfl (fun hb1 => ?_) (fun hb1 => ?_)
    · skip
      have hi : i < b.length := by have := of_decide_eq_true hb1; (try simp only [List.length_map] at this); omega
      have hx : (nthR b i).wt ≤ 60000 := by have h5 := sumBy_mem GRes.wt (nthR_mem hi); omega
      refine aw_skip ?_
      refine normal_thn ?_
      refine aw_seq ?_
      refine aw_block ?_
      refine aw_region ?_
      refine g_u (s_mv_imm rfl rfl) ?_
      refine g_u (s_fieldAddr rfl rfl fa24_0 rfl) ?_
      refine g_u (s_load_imm rfl rfl rfl tA22 tS22 rfl rfl) ?_
      refine g_u (s_mv_imm rfl rfl) ?_
      refine g_u (s_indexAddr rfl rfl rfl Tryd.underlying22 tS47 (by omega) (ixR hi)) ?_
      refine g_u (s_load_cp rfl rfl tA47 tS47 rfl rfl) ?_
      refine g_u (s_call1 (rresW_c _ (ho _ (nthR_mem hi)) hx) rfl rfl) ?_
      refine g_u (s_add rfl rfl rfl) ?_
      refine g_u (s_as_imm rfl rfl) ?_
      refine g_nil ?_
      refine normal_blk ?_
      refine normal_thn ?_
      refine aw_region ?_
      refine g_u (s_mv_imm rfl rfl) ?_
      refine g_u (s_add rfl rfl rfl) ?_
      refine g_u (s_as_imm rfl rfl) ?_
      refine g_nil ?_
      refine normal_thn ?_
      have q1 : sumBy resW (b.take i) + resW (nthR b i) ≤ sumBy resW b := sumBy_nth_le (F := resW) (d := gr0) hi
      have q2 : sumBy resW (b.take (i + 1)) = sumBy resW (b.take i) + resW (nthR b i) := sumBy_nth (F := resW) (d := gr0) hi
      refine ⟨i + 1, hi, ⟨rfl, rfl, look_int rfl (by rw [q2]; ((try simp only [decide_eq_true_eq, decide_eq_false_iff_not, bne_iff_ne, ne_eq, beq_iff_eq, bne_eq_false_iff_eq, beq_eq_false_iff_ne, Bool.not_eq_true', Bool.not_eq_false', gt_iff_lt, ge_iff_le] at *); (repeat simp (disch := omega) only [wrap64, wrap32] at *)); omega), look_int rfl (by rw [wrap64 (by omega) (by omega)]; rfl), trivial⟩, by (try dsimp only); omega⟩
    · skip
      have hin : i = b.length := by have := of_decide_eq_false hb1; (try simp only [List.length_map] at this); omega
      refine aw_exit ?_
      refine exit_thn ?_
      refine exit_thn ?_
      refine exit_blk ?_
      refine normal_thn ?_
      refine aw_seq ?_
      refine aw_region ?_
      refine g_u (s_mv_imm rfl rfl) ?_
      refine g_u (s_as_imm rfl rfl) ?_
      refine g_nil ?_
      refine normal_thn ?_
      refine aw_ret ?_
      exact ⟨⟨(rfl : toAV (Al.look _ _) = some _).trans (congrArg some (by (exact congrArg iv (by rw [hin, List.take_length, qe])))), rfl⟩, trivial⟩

def gA1 : GA := .mk ⟨#[97]⟩ (.mk 3 ⟨#[]⟩ 5 0 [] [])
def gS1 : GSpan := ⟨List.replicate 16 0, List.replicate 8 0, List.replicate 8 0, ⟨#[]⟩, ⟨#[110]⟩, 0, 0, 0, [], [], [], 0, ⟨#[]⟩⟩
def gC1 : GScope := ⟨⟨#[110]⟩, ⟨#[]⟩, []⟩
def gR1 : GRes := ⟨[gA1], []⟩
theorem gA1_ok : ∀ a ∈ [gA1], a.ok := by
  intro a ha
  cases List.mem_singleton.1 ha
  simp only [gA1, GA.ok, GV.ok, okVs, okAs]
  decide
theorem gS1_ok : gS1.ok := ⟨⟨by decide, by decide, by decide⟩, ⟨by decide, by decide, by decide⟩, ⟨by unfold i64; decide, by unfold u64; decide, by unfold u64; decide, by unfold i64; decide⟩, (fun a h => by cases h), (fun a h => by cases h), (fun a h => by cases h)⟩
theorem gC1_ok : gC1.ok := ⟨by decide, by decide, (fun a h => by cases h)⟩
theorem works_1 : attrsW [gA1] = 82 := by decide +kernel

set_option maxHeartbeats 400000 in
theorem works29_c : PCall Tryd.prog Γ0 24 [] [bv true] := by
  refine pcall_of Tryd.func24 rfl Tryd.ntmps24 (by kernel_rfl) rfl fun w0 I0 G0 => ?_
  refine aw_seq ?_
  refine aw_region ?_
  refine g_u (s_as_imm rfl rfl) ?_
  refine g_nil ?_
  refine normal_thn ?_
  refine aw_seq ?_
  refine aw_region ?_
  refine g_u (s_build rfl tU57 us57 pl57 rfl rfl rfl rfl) ?_
  refine g_u (s_build rfl tU61 us61 pl61 rfl rfl rfl rfl) ?_
  refine g_u (s_buildSlice (X0 := z61) rfl Tryd.underlying30 tS61 tZ61 rfl rfl rfl rfl rfl rfl rfl rfl) ?_
  refine g_u (s_as_imm rfl rfl) ?_
  refine g_nil ?_
  refine normal_thn ?_
  refine aw_seq ?_
  refine aw_region ?_
  refine g_u (s_build rfl tU24 us24 pl24 rfl rfl rfl rfl) ?_
  refine g_u (s_call1 (batchW_c [] (fun r h => by cases h) (by decide) (fun r h => by cases h)) rfl rfl) ?_
  refine g_u (s_eqI rfl rfl rfl) ?_
  refine g_u (s_mv_imm rfl rfl) ?_
  refine g_case (t := 8) rfl ?_
  rintro (hb1 | hb1)
  · rw [hb1]
    refine g_run rfl rfl (s_mv_imm rfl rfl) ?_
    refine g_run rfl rfl (s_call1 (wattrs_c [gA1] gA1_ok (by decide)) rfl rfl) ?_
    refine g_run rfl rfl (s_eqI rfl rfl rfl) ?_
    refine g_u (s_pick_t rfl rfl rfl) ?_
    refine g_u (s_mv_imm rfl rfl) ?_
    refine g_case (t := 13) rfl ?_
    rintro (hb2 | hb2)
    · rw [hb2]
      refine g_run rfl rfl (s_build rfl tU36 us36 pl36 rfl rfl rfl rfl) ?_
      refine g_run rfl rfl (s_call1 (spanW_c gS1 ⟨#[97, 98]⟩ gS1_ok (by decide) (by decide)) rfl rfl) ?_
      refine g_run rfl rfl (s_eqI rfl rfl rfl) ?_
      refine g_u (s_pick_t rfl rfl rfl) ?_
      refine g_u (s_mv_imm rfl rfl) ?_
      refine g_case (t := 18) rfl ?_
      rintro (hb3 | hb3)
      · rw [hb3]
        refine g_run rfl rfl (s_build rfl tU52 us52 pl52 rfl rfl rfl rfl) ?_
        refine g_run rfl rfl (s_call1 (scopeW_c gC1 ⟨#[]⟩ gC1_ok (by decide) (by decide)) rfl rfl) ?_
        refine g_run rfl rfl (s_eqI rfl rfl rfl) ?_
        refine g_u (s_pick_t rfl rfl rfl) ?_
        refine g_u (s_mv_imm rfl rfl) ?_
        refine g_case (t := 23) rfl ?_
        rintro (hb4 | hb4)
        · rw [hb4]
          refine g_run rfl rfl (s_mv_imm rfl rfl) ?_
          refine g_run rfl rfl (s_build rfl tU47 us47 pl47 rfl rfl rfl rfl) ?_
          refine g_run rfl rfl (s_call1 (resW_c gR1 ⟨gA1_ok, fun s h => by cases h⟩ (by decide) ⟨trivial, trivial⟩) rfl rfl) ?_
          refine g_run rfl rfl (s_eqI rfl rfl rfl) ?_
          refine g_u (s_pick_t rfl rfl rfl) ?_
          refine g_u (s_as_imm rfl rfl) ?_
          refine g_nil ?_
          refine normal_thn ?_
          refine aw_ret ?_
          exact ⟨⟨(rfl : toAV (Al.look _ _) = some _).trans (congrArg some (by rfl)), rfl⟩, trivial⟩
        · exact killT hb4 (by first | rfl | decide +kernel)
      · exact killT hb3 (by first | rfl | decide +kernel)
    · exact killT hb2 (by first | rfl | decide +kernel)
  · exact killT hb1 (by first | rfl | decide +kernel)

theorem textB_plain (v : GV) : textM (plainV v) = textM v := by
  have h : ¬ ((plainV v).kind = 6 ∨ (plainV v).kind = 7) := by simp [plainV, GV.kind]
  rw [textE h, simp1 (by rfl)]; rfl
theorem leftV_wt {v : GV} {n : Int} (h : ¬ leftV v n < 0) : (v.wt : Int) ≤ n := by rw [leftV_F] at h; unfold leftF at h; split at h <;> (try split at h) <;> omega
theorem plainV_ok {v : GV} (ho : v.ok) (hw : v.wt ≤ 1000000) : (plainV v).ok := by
  rw [GV.ok_iff]
  have := textM_le v
  refine ⟨⟨by show (0 : Int) ≤ 1; decide, by show (1 : Int) < 256; decide⟩, ?_, ⟨by show (-9223372036854775808 : Int) ≤ 0; decide, by show (0 : Int) < 9223372036854775808; decide⟩, ⟨by show (0 : Int) ≤ 0; decide, by show (0 : Int) < 18446744073709551616; decide⟩, fun x hx => absurd hx (by simp [plainV, GV.list]), fun x hx => absurd hx (by simp [plainV, GV.map])⟩
  show (textM v).size ≤ maxLen
  unfold maxLen; omega
theorem avA1 (k : ByteArray) (v : GV) : [GA.mk k v].map avA = [.agg [sv k, v.av]] := by simp only [List.map_cons, List.map_nil, avA_eq]; rfl
theorem wattrs1_c (k : ByteArray) (v : GV) (hk : k.size ≤ maxLen) (ho : v.ok) (hw : k.size + v.wt ≤ 1000000) : PCall Tryd.prog Γ0 30 [.sl 7 [.agg [sv k, v.av]]] [iv (attrsW [.mk k v] : Nat)] := by
  rw [← avA1]
  exact wattrs_c [.mk k v] (fun a ha => by cases List.mem_singleton.1 ha; exact (GA.ok_iff _).2 ⟨hk, ho⟩) (by simp only [wtAs, GA.wt]; omega)
theorem plainV_wt (v : GV) : (plainV v).wt = 1 + (textM v).size := by rw [GV.wt_eq]; simp [plainV, GV.list, GV.map, GV.text, wtVs, wtAs]

set_option maxHeartbeats 400000 in
theorem weighPlain_c (k : ByteArray) (v : GV) (ho : v.ok) (hk : k.size ≤ maxLen) : PCall Tryd.prog Γ0 5 [sv k, v.av] [bv true] := by
  refine pcall_of Tryd.func5 rfl Tryd.ntmps5 (by kernel_rfl) rfl fun w0 I0 G0 => ?_
  refine aw_seq ?_
  refine aw_region ?_
  refine g_uG (s_box_imm 1003 rfl rfl rfl rfl) rfl ?_
  refine g_u (s_as_imm rfl rfl) ?_
  refine g_nil ?_
  refine normal_thn ?_
  refine aw_seq ?_
  refine aw_seq ?_
  refine aw_region ?_
  refine g_u (s_load_imm rfl rfl rfl tA57 tS57 rfl rfl) ?_
  refine g_u (s_call1 (leftV_c v 2000 (by decide)) rfl rfl) ?_
  refine g_u (s_ltI rfl rfl rfl) ?_
  refine g_u (s_mv_imm rfl rfl) ?_
  refine g_case (t := 9) rfl ?_
  rintro (hb1 | hb1)
  · rw [hb1]
    have h1 : leftV v 2000 < 0 := of_decide_eq_true hb1
    refine g_skip rfl rfl rfl ?_
    refine g_skip rfl rfl rfl ?_
    refine g_skip rfl rfl rfl ?_
    refine g_u (s_pick_t rfl rfl rfl) ?_
    refine g_nil ?_
    refine normal_thn ?_
    refine aw_cond_true rfl ?_
    refine aw_seq ?_
    refine aw_region ?_
    refine g_u (s_call1 (works29_c) rfl rfl) ?_
    refine g_u (s_as_imm rfl rfl) ?_
    refine g_nil ?_
    refine normal_thn ?_
    refine aw_ret ?_
    refine ret_thn ?_
    exact ⟨⟨(rfl : toAV (Al.look _ _) = some _).trans (congrArg some (by rfl)), rfl⟩, trivial⟩
  · rw [hb1]
    have h1 : ¬ leftV v 2000 < 0 := of_decide_eq_false hb1
    have hw := leftV_wt h1
    refine g_run rfl rfl (s_mv_imm rfl rfl) ?_
    refine g_run rfl rfl (s_lenS rfl rfl Tryd.underlying9) ?_
    refine g_run rfl rfl (s_gtI rfl rfl rfl) ?_
    refine g_u (s_pick_f rfl rfl rfl) ?_
    refine g_nil ?_
    refine normal_thn ?_
    refine aw_cond rfl (fun hb2 => ?_) (fun hb2 => ?_)
    · skip
      have h2 : (k.size : Int) > 1000 := of_decide_eq_true hb2
      refine aw_seq ?_
      refine aw_region ?_
      refine g_u (s_call1 (works29_c) rfl rfl) ?_
      refine g_u (s_as_imm rfl rfl) ?_
      refine g_nil ?_
      refine normal_thn ?_
      refine aw_ret ?_
      refine ret_thn ?_
      exact ⟨⟨(rfl : toAV (Al.look _ _) = some _).trans (congrArg some (by rfl)), rfl⟩, trivial⟩
    · skip
      have h2 : ¬ (k.size : Int) > 1000 := of_decide_eq_false hb2
      have hp := plainV_wt v
      have hq := textM_le v
      have hpo := plainV_ok ho (by omega)
      have ek : k.size ≤ maxLen := hk
      have e1 : attrsW [.mk k (plainV v)] = attrsW [.mk k v] := by simp only [attrsW, GA.key_mk, GA.val_mk, textB_plain]
      refine aw_skip ?_
      refine normal_thn ?_
      refine aw_seq ?_
      refine aw_region ?_
      refine g_u (s_mv_imm rfl rfl) ?_
      refine g_u (s_load_imm rfl rfl rfl tA57 tS57 rfl rfl) ?_
      refine g_u (s_call1 (rplain_c v ho (by omega)) rfl rfl) ?_
      refine g_u (s_build rfl tU61 us61 pl61 rfl rfl rfl rfl) ?_
      refine g_u (s_buildSlice (X0 := z61) rfl Tryd.underlying30 tS61 tZ61 rfl rfl rfl rfl rfl rfl rfl rfl) ?_
      refine g_u (s_as_imm rfl rfl) ?_
      refine g_nil ?_
      refine normal_thn ?_
      refine aw_seq ?_
      refine aw_draw mixed ?_
      refine g_u (s_mv_imm rfl rfl) ?_
      refine g_u (s_call1 (wattrs1_c k (plainV v) ek hpo (by omega)) rfl rfl) ?_
      refine g_u (s_mv_imm rfl rfl) ?_
      refine g_u (s_load_imm rfl rfl rfl tA57 tS57 rfl rfl) ?_
      refine g_u (s_build rfl tU61 us61 pl61 rfl rfl rfl rfl) ?_
      refine g_u (s_buildSlice (X0 := z61) rfl Tryd.underlying30 tS61 tZ61 rfl rfl rfl rfl rfl rfl rfl rfl) ?_
      refine g_u (s_call1 (wattrs1_c k v ek ho (by omega)) rfl rfl) ?_
      refine g_u (s_eqI rfl rfl rfl) ?_
      refine g_u (s_mv_imm rfl rfl) ?_
      refine g_case (t := 28) rfl ?_
      rintro (hb3 | hb3)
      · rw [hb3]
        refine g_run rfl rfl (s_call1 (works29_c) rfl rfl) ?_
        refine g_u (s_pick_t rfl rfl rfl) ?_
        refine g_u (s_as_imm rfl rfl) ?_
        refine g_nil ⟨by kernel_rfl, ?_⟩
        refine normal_thn ?_
        refine aw_ret ?_
        exact ⟨⟨(rfl : toAV (Al.look _ _) = some _).trans (congrArg some (by rfl)), rfl⟩, trivial⟩
      · exact killT hb3 (by rw [e1]; exact beq_self_eq_true _)

end Go.Proofs
