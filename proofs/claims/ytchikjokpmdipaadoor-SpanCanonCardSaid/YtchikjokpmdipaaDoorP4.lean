/- Texts that the proofs of this claim share, part 4: the abstract logic, plain Lean on values and batches, and walks. No condition but those typed in each lemma. -/
import Derived.Test.YtchikjokpmdipaaDoorP3
set_option linter.unusedSimpArgs false
set_option linter.unusedVariables false
namespace Go.Proofs
open Go Go.Al
set_option maxRecDepth 10000
set_option maxHeartbeats 400000 in
theorem leftV_st (v : GV) (n : Int) (hn : -1 ≤ n ∧ n ≤ 1000000000) (ih : ∀ y ∈ v.list, ∀ n : Int, -1 ≤ n ∧ n ≤ 1000000000 → PCall Tryd.prog Γ0 84 [y.av, iv n] [iv (leftV y n)]) (ihm : ∀ n : Int, -1 ≤ n ∧ n ≤ 1000000000 → PCall Tryd.prog Γ0 37 [.sl 7 (v.map.map avA), iv n] [iv (leftAs v.map n)]) : PCall Tryd.prog Γ0 84 [v.av, iv n] [iv (leftV v n)] := by
  have ek := v.wt_eq
  refine pcall_of Tryd.func84 rfl Tryd.ntmps84 (by kernel_rfl) rfl fun w0 I0 G0 => ?_
  refine aw_seq ?_
  refine aw_region ?_
  refine g_uG (s_box_imm 1002 rfl rfl rfl rfl) rfl ?_
  refine g_u (s_as_imm rfl rfl) ?_
  refine g_nil ?_
  refine normal_thn ?_
  refine aw_seq ?_
  refine aw_seq ?_
  refine aw_region ?_
  refine g_u (s_mv_imm rfl rfl) ?_
  refine g_u (s_ltI rfl rfl rfl) ?_
  refine g_u (s_mv_imm rfl rfl) ?_
  refine g_case (t := 8) rfl ?_
  rintro (hb1 | hb1)
  · rw [hb1]
    have hn0 : n < 0 := of_decide_eq_true hb1
    refine g_skip rfl rfl rfl ?_
    refine g_skip rfl rfl rfl ?_
    refine g_skip rfl rfl rfl ?_
    refine g_skip rfl rfl rfl ?_
    refine g_skip rfl rfl rfl ?_
    refine g_u (s_pick_t rfl rfl rfl) ?_
    refine g_nil ?_
    refine normal_thn ?_
    refine aw_cond_true rfl ?_
    refine aw_seq ?_
    refine aw_region ?_
    refine g_u (s_as_imm rfl rfl) ?_
    refine g_nil ?_
    refine normal_thn ?_
    refine aw_ret ?_
    refine ret_thn ?_
    exact ⟨⟨(rfl : toAV (Al.look _ _) = some _).trans (congrArg some (by (exact congrArg iv (by rw [leftV_F, if_pos hn0])))), rfl⟩, trivial⟩
  · rw [hb1]
    have hn0 : ¬ n < 0 := of_decide_eq_false hb1
    refine g_run rfl rfl (s_fieldAddr rfl rfl fa76_1 rfl) ?_
    refine g_run rfl rfl (s_load_imm rfl rfl rfl tA9 tS9 rfl rfl) ?_
    refine g_run rfl rfl (s_lenS rfl rfl Tryd.underlying9) ?_
    refine g_run rfl rfl (s_mv_imm rfl rfl) ?_
    refine g_run rfl rfl (s_gtI rfl rfl rfl) ?_
    refine g_u (s_pick_f rfl rfl rfl) ?_
    refine g_nil ?_
    refine normal_thn ?_
    refine aw_cond rfl (fun hb2 => ?_) (fun hb2 => ?_)
    · skip
      have ht0 : (v.text.size : Int) > n := of_decide_eq_true hb2
      refine aw_seq ?_
      refine aw_region ?_
      refine g_u (s_as_imm rfl rfl) ?_
      refine g_nil ?_
      refine normal_thn ?_
      refine aw_ret ?_
      refine ret_thn ?_
      exact ⟨⟨(rfl : toAV (Al.look _ _) = some _).trans (congrArg some (by (exact congrArg iv (by rw [leftV_F, if_neg hn0]; unfold leftF; rw [if_neg (by omega)])))), rfl⟩, trivial⟩
    · skip
      have ht0 : ¬ (v.text.size : Int) > n := of_decide_eq_false hb2
      have hL : -1 ≤ n - 1 - v.text.size := by omega
      refine aw_skip ?_
      refine normal_thn ?_
      refine aw_seq ?_
      refine aw_region ?_
      refine g_u (s_mv_imm rfl rfl) ?_
      refine g_u (s_sub rfl rfl rfl) ?_
      refine g_u (s_fieldAddr rfl rfl fa76_1 rfl) ?_
      refine g_u (s_load_imm rfl rfl rfl tA9 tS9 rfl rfl) ?_
      refine g_u (s_lenS rfl rfl Tryd.underlying9) ?_
      refine g_u (s_sub rfl rfl rfl) ?_
      refine g_u (s_as_imm rfl rfl) ?_
      refine g_nil ?_
      refine normal_thn ?_
      refine aw_seq ?_
      refine aw_seq ?_
      refine aw_region ?_
      refine g_u (s_as_imm rfl rfl) ?_
      refine g_nil ?_
      refine normal_thn ?_
      refine aw_block ?_
      refine aw_loop' (fun i : Nat => [(2, .ptr 1002 0), (1002, .box 76 (.imm v.av)), (1, .imm (iv (leftF (n - 1 - v.text.size) (wtVs (v.list.take i))))), (5, .imm (iv (i : Int)))]) (fun i => i ≤ v.list.length) (fun i => v.list.length - i) (0) ?_ ⟨rfl, rfl, look_int rfl (by rw [show wtVs (v.list.take 0) = 0 from rfl, leftF_zero hL, wrap64 (n := n - 1) (by omega) (by omega), wrap64 (by omega) (by omega)]), rfl, trivial⟩ ?_
      · exact Nat.zero_le _
      · rintro i h1; have h1 : i ≤ v.list.length := h1; have bd := leftF_bd hL (wtVs (v.list.take i))
        refine aw_seq ?_
        refine aw_seq ?_
        refine aw_region ?_
        refine g_u (s_mv_imm rfl rfl) ?_
        refine g_u (s_fieldAddr rfl rfl fa76_4 rfl) ?_
        refine g_u (s_load_imm rfl rfl rfl tA74 tS74 rfl rfl) ?_
        refine g_u (s_lenL rfl rfl Tryd.underlying74) ?_
        refine g_u (s_ltI rfl rfl rfl) ?_
        refine g_u (s_mv_imm rfl rfl) ?_
        refine g_case (t := 26) rfl ?_
        rintro (hb3 | hb3)
        · rw [hb3]
          have hiv : i < v.list.length := by have := of_decide_eq_true hb3; (try simp only [List.length_map] at this); omega
          refine g_run rfl rfl (s_mv_imm rfl rfl) ?_
          refine g_run rfl rfl (s_geI rfl rfl rfl) ?_
          refine g_u (s_pick_t rfl rfl rfl) ?_
          refine g_nil ?_
          refine normal_thn ?_
          refine aw_cond rfl (fun hb4 => ?_) (fun hb4 => ?_)
          · skip
            have hs : 0 ≤ leftF (n - 1 - v.text.size) (wtVs (v.list.take i)) := of_decide_eq_true hb4
            have hi9 := leftV_len hs h1
            refine aw_skip ?_
            refine normal_thn ?_
            refine aw_seq ?_
            refine aw_block ?_
            refine aw_region ?_
            refine g_u (s_fieldAddr rfl rfl fa76_4 rfl) ?_
            refine g_u (s_load_imm rfl rfl rfl tA74 tS74 rfl rfl) ?_
            refine g_u (s_mv_imm rfl rfl) ?_
            refine g_u (s_indexAddr rfl rfl rfl Tryd.underlying74 tS76 (by omega) (ixV hiv)) ?_
            refine g_u (s_load_cp rfl rfl tA76 tS76 rfl rfl) ?_
            refine g_u (s_mv_imm rfl rfl) ?_
            refine g_u (s_call1 (ih _ (nthV_mem hiv) _ ⟨bd.1, by have := bd.2; omega⟩) rfl rfl) ?_
            refine g_u (s_as_imm rfl rfl) ?_
            refine g_nil ?_
            refine normal_blk ?_
            refine normal_thn ?_
            refine aw_region ?_
            refine g_u (s_mv_imm rfl rfl) ?_
            refine g_u (s_add rfl rfl rfl) ?_
            refine g_u (s_as_imm rfl rfl) ?_
            refine g_nil ?_
            refine normal_thn ?_
            refine ⟨i + 1, hiv, ⟨rfl, rfl, look_int rfl (leftV_step hiv hs), look_int rfl (by rw [wrap64 (by omega) (by omega)]; rfl), trivial⟩, by (try dsimp only); omega⟩
          · skip
            have hs : ¬ 0 ≤ leftF (n - 1 - v.text.size) (wtVs (v.list.take i)) := of_decide_eq_false hb4
            refine aw_exit ?_
            refine exit_thn ?_
            refine exit_thn ?_
            refine exit_blk ?_
            refine normal_thn ?_
            refine aw_seq ?_
            refine aw_region ?_
            refine g_u (s_fieldAddr rfl rfl fa76_5 rfl) ?_
            refine g_u (s_load_imm rfl rfl rfl tA27 tS27 rfl rfl) ?_
            refine g_u (s_mv_imm rfl rfl) ?_
            refine g_u (s_call1 (ihm _ ⟨bd.1, by have := bd.2; omega⟩) rfl rfl) ?_
            refine g_u (s_as_imm rfl rfl) ?_
            refine g_nil ?_
            refine normal_thn ?_
            refine aw_ret ?_
            exact ⟨⟨(rfl : toAV (Al.look _ _) = some _).trans (congrArg some (by (exact congrArg iv (leftV_fin hn0 ht0 (by first | exact .inl hivn | exact .inr (by omega)))))), rfl⟩, trivial⟩
        · rw [hb3]
          have hivn : i = v.list.length := by have := of_decide_eq_false hb3; (try simp only [List.length_map] at this); omega
          refine g_skip rfl rfl rfl ?_
          refine g_skip rfl rfl rfl ?_
          refine g_u (s_pick_f rfl rfl rfl) ?_
          refine g_nil ?_
          refine normal_thn ?_
          refine aw_cond_false rfl ?_
          refine aw_exit ?_
          refine exit_thn ?_
          refine exit_thn ?_
          refine exit_blk ?_
          refine normal_thn ?_
          refine aw_seq ?_
          refine aw_region ?_
          refine g_u (s_fieldAddr rfl rfl fa76_5 rfl) ?_
          refine g_u (s_load_imm rfl rfl rfl tA27 tS27 rfl rfl) ?_
          refine g_u (s_mv_imm rfl rfl) ?_
          refine g_u (s_call1 (ihm _ ⟨bd.1, by have := bd.2; omega⟩) rfl rfl) ?_
          refine g_u (s_as_imm rfl rfl) ?_
          refine g_nil ?_
          refine normal_thn ?_
          refine aw_ret ?_
          exact ⟨⟨(rfl : toAV (Al.look _ _) = some _).trans (congrArg some (by (exact congrArg iv (leftV_fin hn0 ht0 (by first | exact .inl hivn | exact .inr (by omega)))))), rfl⟩, trivial⟩

set_option maxHeartbeats 400000 in
theorem leftAs_st (l : List GA) (n : Int) (hn : -1000000000000 ≤ n ∧ n ≤ 1000000000) (ih : ∀ a ∈ l, ∀ n : Int, -1 ≤ n ∧ n ≤ 1000000000 → PCall Tryd.prog Γ0 84 [a.val.av, iv n] [iv (leftV a.val n)]) : PCall Tryd.prog Γ0 37 [.sl 7 (l.map avA), iv n] [iv (leftAs l n)] := by
  refine pcall_of Tryd.func37 rfl Tryd.ntmps37 (by kernel_rfl) rfl fun w0 I0 G0 => ?_
  refine aw_seq ?_
  refine aw_region ?_
  refine g_u (s_as_imm rfl rfl) ?_
  refine g_nil ?_
  refine normal_thn ?_
  refine aw_seq ?_
  refine aw_seq ?_
  refine aw_region ?_
  refine g_u (s_as_imm rfl rfl) ?_
  refine g_nil ?_
  refine normal_thn ?_
  refine aw_block ?_
  refine aw_loop' (fun i : Nat => [(0, .imm (.sl 7 (l.map avA))), (1, .imm (iv (leftAs (l.take i) n))), (5, .imm (iv (i : Int)))]) (fun i => i ≤ l.length) (fun i => l.length - i) (0) ?_ ⟨rfl, look_int rfl (leftAs_zero l).symm, rfl, trivial⟩ ?_
  · exact Nat.zero_le _
  · rintro i h1; have h1 : i ≤ l.length := h1; have bd := leftAs_bd' (l.take i) n
    refine aw_seq ?_
    refine aw_seq ?_
    refine aw_region ?_
    refine g_u (s_mv_imm rfl rfl) ?_
    refine g_u (s_mv_imm rfl rfl) ?_
    refine g_u (s_lenL rfl rfl Tryd.underlying27) ?_
    refine g_u (s_ltI rfl rfl rfl) ?_
    refine g_u (s_mv_imm rfl rfl) ?_
    refine g_case (t := 10) rfl ?_
    rintro (hb1 | hb1)
    · rw [hb1]
      have hia : i < l.length := by have := of_decide_eq_true hb1; (try simp only [List.length_map] at this); omega
      refine g_run rfl rfl (s_mv_imm rfl rfl) ?_
      refine g_run rfl rfl (s_geI rfl rfl rfl) ?_
      refine g_u (s_pick_t rfl rfl rfl) ?_
      refine g_nil ?_
      refine normal_thn ?_
      refine aw_cond rfl (fun hb2 => ?_) (fun hb2 => ?_)
      · skip
        have hs : 0 ≤ leftAs (l.take i) n := of_decide_eq_true hb2
        have hi9 := leftAs_len hs h1
        refine aw_skip ?_
        refine normal_thn ?_
        refine aw_seq ?_
        refine aw_block ?_
        refine aw_seq ?_
        refine aw_seq ?_
        refine aw_region ?_
        refine g_u (s_mv_imm rfl rfl) ?_
        refine g_u (s_mv_imm rfl rfl) ?_
        refine g_u (s_indexAddr rfl rfl rfl Tryd.underlying27 tS78 (by omega) (ixA hia)) ?_
        refine g_u (s_fieldAddr_cp rfl rfl fa78_0 rfl rfl) ?_
        refine g_u (s_load_cp rfl rfl tA9 tS9 rfl rfl) ?_
        refine g_u (s_lenS rfl rfl Tryd.underlying9) ?_
        refine g_u (s_mv_imm rfl rfl) ?_
        refine g_u (s_gtI rfl rfl rfl) ?_
        refine g_nil ?_
        refine normal_thn ?_
        refine aw_cond rfl (fun hb3 => ?_) (fun hb3 => ?_)
        · skip
          have hk : ((nthA l i).key.size : Int) > leftAs (l.take i) n := of_decide_eq_true hb3
          refine aw_seq ?_
          refine aw_region ?_
          refine g_u (s_as_imm rfl rfl) ?_
          refine g_nil ?_
          refine normal_thn ?_
          refine aw_ret ?_
          refine ret_thn ?_
          refine ret_blk ?_
          refine ret_thn ?_
          refine ret_thn ?_
          refine ret_blk ?_
          refine ret_thn ?_
          exact ⟨⟨(rfl : toAV (Al.look _ _) = some _).trans (congrArg some (by (exact congrArg iv (leftAs_out hia hs hk)))), rfl⟩, trivial⟩
        · skip
          have hk : ¬ ((nthA l i).key.size : Int) > leftAs (l.take i) n := of_decide_eq_false hb3
          have ew : IntKind.i64.wrap (leftAs (l.take i) n - (nthA l i).key.size) = leftAs (l.take i) n - (nthA l i).key.size := wrap64 (by omega) (by omega)
          refine aw_skip ?_
          refine normal_thn ?_
          refine aw_draw mixed ?_
          refine g_u (s_mv_imm rfl rfl) ?_
          refine g_u (s_mv_imm rfl rfl) ?_
          refine g_u (s_indexAddr rfl rfl rfl Tryd.underlying27 tS78 (by omega) (ixA hia)) ?_
          refine g_u (s_fieldAddr_cp rfl rfl fa78_1 rfl rfl) ?_
          refine g_u (s_load_cp rfl rfl tA76 tS76 rfl rfl) ?_
          refine g_u (s_mv_imm rfl rfl) ?_
          refine g_u (s_mv_imm rfl rfl) ?_
          refine g_u (s_mv_imm rfl rfl) ?_
          refine g_u (s_indexAddr rfl rfl rfl Tryd.underlying27 tS78 (by omega) (ixA hia)) ?_
          refine g_u (s_fieldAddr_cp rfl rfl fa78_0 rfl rfl) ?_
          refine g_u (s_load_cp rfl rfl tA9 tS9 rfl rfl) ?_
          refine g_u (s_lenS rfl rfl Tryd.underlying9) ?_
          refine g_u (s_sub rfl rfl rfl) ?_
          refine g_u (s_call1 ((show PCall Tryd.prog Γ0 84 [(nthA l i).val.av, iv (IntKind.i64.wrap (leftAs (l.take i) n - (nthA l i).key.size))] [iv (leftV (nthA l i).val (leftAs (l.take i) n - (nthA l i).key.size))] from by rw [ew]; exact ih _ (nthA_mem hia) _ ⟨by omega, by omega⟩)) rfl rfl) ?_
          refine g_u (s_as_imm rfl rfl) ?_
          refine g_nil ⟨by kernel_rfl, ?_⟩
          refine normal_blk ?_
          refine normal_thn ?_
          refine aw_region ?_
          refine g_u (s_mv_imm rfl rfl) ?_
          refine g_u (s_add rfl rfl rfl) ?_
          refine g_u (s_as_imm rfl rfl) ?_
          refine g_nil ?_
          refine normal_thn ?_
          refine ⟨i + 1, hia, ⟨rfl, look_int rfl (leftAs_step hia hs hk), look_int rfl (by rw [wrap64 (by omega) (by omega)]; rfl), trivial⟩, by (try dsimp only); omega⟩
      · skip
        have hs : ¬ 0 ≤ leftAs (l.take i) n := of_decide_eq_false hb2
        refine aw_exit ?_
        refine exit_thn ?_
        refine exit_thn ?_
        refine exit_blk ?_
        refine normal_thn ?_
        refine aw_seq ?_
        refine aw_region ?_
        refine g_u (s_mv_imm rfl rfl) ?_
        refine g_u (s_as_imm rfl rfl) ?_
        refine g_nil ?_
        refine normal_thn ?_
        refine aw_ret ?_
        exact ⟨⟨(rfl : toAV (Al.look _ _) = some _).trans (congrArg some (by (exact congrArg iv (leftAs_fin (by first | exact .inl hian | exact .inr (by omega)))))), rfl⟩, trivial⟩
    · rw [hb1]
      have hian : i = l.length := by have := of_decide_eq_false hb1; (try simp only [List.length_map] at this); omega
      refine g_skip rfl rfl rfl ?_
      refine g_skip rfl rfl rfl ?_
      refine g_u (s_pick_f rfl rfl rfl) ?_
      refine g_nil ?_
      refine normal_thn ?_
      refine aw_cond_false rfl ?_
      refine aw_exit ?_
      refine exit_thn ?_
      refine exit_thn ?_
      refine exit_blk ?_
      refine normal_thn ?_
      refine aw_seq ?_
      refine aw_region ?_
      refine g_u (s_mv_imm rfl rfl) ?_
      refine g_u (s_as_imm rfl rfl) ?_
      refine g_nil ?_
      refine normal_thn ?_
      refine aw_ret ?_
      exact ⟨⟨(rfl : toAV (Al.look _ _) = some _).trans (congrArg some (by (exact congrArg iv (leftAs_fin (by first | exact .inl hian | exact .inr (by omega)))))), rfl⟩, trivial⟩

theorem leftV_c (v : GV) : ∀ n : Int, -1 ≤ n ∧ n ≤ 1000000000 → PCall Tryd.prog Γ0 84 [v.av, iv n] [iv (leftV v n)] := by
  refine GV.ind (P := fun v => ∀ n : Int, -1 ≤ n ∧ n ≤ 1000000000 → PCall Tryd.prog Γ0 84 [v.av, iv n] [iv (leftV v n)]) ?_ v
  intro v h1 h2 n hn
  exact leftV_st v n hn h1 fun n hn => leftAs_st v.map n (by omega) h2
theorem leftAs_c (l : List GA) (n : Int) (hn : -1000000000000 ≤ n ∧ n ≤ 1000000000) : PCall Tryd.prog Γ0 37 [.sl 7 (l.map avA), iv n] [iv (leftAs l n)] := leftAs_st l n hn fun a _ => leftV_c a.val

end Go.Proofs

namespace Go.Proofs
open Go Go.Al
set_option maxRecDepth 10000
theorem z33_w : AV.width z33 = 42 := by kernel_rfl
theorem z72_w : AV.width z72 = 26 := by kernel_rfl








end Go.Proofs

namespace Go.Proofs
open Go Go.Al
set_option maxRecDepth 10000
end Go.Proofs

namespace Go.Proofs
open Go Go.Al
set_option maxRecDepth 10000





end Go.Proofs

namespace Go.Proofs
open Go Go.Al
set_option maxRecDepth 10000






end Go.Proofs

namespace Go.Proofs
open Go Go.Al
set_option maxRecDepth 10000
end Go.Proofs

namespace Go.Proofs
open Go Go.Al
set_option maxRecDepth 10000
end Go.Proofs

namespace Go.Proofs
open Go Go.Al
set_option maxRecDepth 10000
set_option maxHeartbeats 400000 in
theorem into_c (l : List GA) (a : GA) (hl : l.length ≤ 1000000000) : PCall Tryd.prog Γ0 99 [.sl 7 (l.map avA), a.av] [.sl 7 ((intoA l a).map avA)] := by
  refine pcall_of Tryd.func99 rfl Tryd.ntmps99 (by kernel_rfl) rfl fun w0 I0 G0 => ?_
  refine aw_seq ?_
  refine aw_region ?_
  refine g_uG (s_box_imm 1003 rfl rfl rfl rfl) rfl ?_
  refine g_u (s_as_imm rfl rfl) ?_
  refine g_nil ?_
  refine normal_thn ?_
  refine aw_seq ?_
  refine aw_region ?_
  refine g_u (s_as_imm rfl rfl) ?_
  refine g_nil ?_
  refine normal_thn ?_
  refine aw_seq ?_
  refine aw_block ?_
  refine aw_loop' (fun i : Nat => [(0, .imm (.sl 7 (l.map avA))), (3, .ptr 1003 0), (1003, .box 78 (.imm a.av)), (5, .imm (iv (i : Int)))]) (fun i => i ≤ l.length ∧ ∀ j, j < i → ltB (nthA l j).key a.key = true) (fun i => l.length - i) (0) ?_ ⟨rfl, rfl, rfl, rfl, trivial⟩ ?_
  · exact ⟨Nat.zero_le _, fun j h => absurd h (Nat.not_lt_zero _)⟩
  · rintro i ⟨h1, h2⟩; (try dsimp only at h1 h2)
    refine aw_seq ?_
    refine aw_seq ?_
    refine aw_draw mixed ?_
    refine g_u (s_mv_imm rfl rfl) ?_
    refine g_u (s_mv_imm rfl rfl) ?_
    refine g_u (s_lenL rfl rfl Tryd.underlying27) ?_
    refine g_u (s_ltI rfl rfl rfl) ?_
    refine g_u (s_mv_imm rfl rfl) ?_
    refine g_case (t := 11) rfl ?_
    rintro (hb1 | hb1)
    · rw [hb1]
      have hi : i < l.length := by have := of_decide_eq_true hb1; (try simp only [List.length_map] at this); omega
      refine g_run rfl rfl (s_mv_imm rfl rfl) ?_
      refine g_run rfl rfl (s_mv_imm rfl rfl) ?_
      refine g_run rfl rfl (s_indexAddr rfl rfl rfl Tryd.underlying27 tS78 (by omega) (ixA hi)) ?_
      refine g_run rfl rfl (s_fieldAddr_cp rfl rfl fa78_0 rfl rfl) ?_
      refine g_run rfl rfl (s_load_cp rfl rfl tA9 tS9 rfl rfl) ?_
      refine g_run rfl rfl (s_fieldAddr rfl rfl fa78_0 rfl) ?_
      refine g_run rfl rfl (s_load_imm rfl rfl rfl tA9 tS9 rfl rfl) ?_
      refine g_run rfl rfl (s_ltS rfl rfl rfl) ?_
      refine g_u (s_pick_t rfl rfl rfl) ?_
      refine g_nil ⟨by kernel_rfl, ?_⟩
      refine normal_thn ?_
      refine aw_cond rfl (fun hb2 => ?_) (fun hb2 => ?_)
      · skip
        have hk : ltB (nthA l i).key a.key = true := (less_eq _ _).symm.trans hb2
        refine aw_skip ?_
        refine normal_thn ?_
        refine aw_block ?_
        refine aw_region ?_
        refine g_u (s_mv_imm rfl rfl) ?_
        refine g_u (s_add rfl rfl rfl) ?_
        refine g_u (s_as_imm rfl rfl) ?_
        refine g_nil ?_
        refine normal_blk ?_
        refine normal_thn ?_
        refine ⟨i + 1, ⟨hi, fun j hj => by rcases Nat.lt_or_ge j i with h | h; exact h2 j h; rw [show j = i by omega]; exact hk⟩, ⟨rfl, rfl, rfl, look_int rfl (by rw [wrap64 (by omega) (by omega)]; rfl), trivial⟩, by (try dsimp only); omega⟩
      · skip
        have hk : ltB (nthA l i).key a.key = false := (less_eq _ _).symm.trans hb2
        have hp : i = posA l a.key := posA_first l a.key i h2 h1 (fun _ => hk)
        refine aw_exit ?_
        refine exit_thn ?_
        refine exit_thn ?_
        refine exit_blk ?_
        refine normal_thn ?_
        refine aw_seq ?_
        refine aw_draw mixed ?_
        refine g_uG (s_build0 1023 3023 rfl rfl rfl rfl rfl rfl Tryd.underlying27 tS78) rfl ?_
        refine g_u (s_mv_imm rfl rfl) ?_
        refine g_u (s_mv_imm rfl rfl) ?_
        refine g_u (s_slL_h i rfl rfl rfl Tryd.underlying27 tS78 (by omega) (by rw [List.length_map]; omega)) ?_
        refine g_u (s_append rfl rfl rfl rfl rfl Tryd.underlying27 Tryd.underlying27 tS78 zv78 rfl (by decide) by78 (by (try dsimp only); simp only [List.length_append, List.length_cons, List.length_nil, List.length_map, List.length_take, List.length_drop]; omega) (by (try dsimp only); simp only [List.length_append, List.length_cons, List.length_nil, List.length_map, List.length_take, List.length_drop]; omega)) ?_
        refine g_u (s_load_imm rfl rfl rfl tA78 tS78 rfl rfl) ?_
        refine g_u (s_buildSlice (X0 := z78) rfl Tryd.underlying27 tS78 tZ78 rfl rfl rfl rfl rfl rfl rfl rfl) ?_
        refine g_u (s_append rfl rfl rfl rfl rfl Tryd.underlying27 Tryd.underlying27 tS78 zv78 rfl (by decide) by78 (by (try dsimp only); simp only [List.length_append, List.length_cons, List.length_nil, List.length_map, List.length_take, List.length_drop]; omega) (by (try dsimp only); simp only [List.length_append, List.length_cons, List.length_nil, List.length_map, List.length_take, List.length_drop]; omega)) ?_
        refine g_u (s_as_slg rfl rfl) ?_
        refine g_nil ⟨by kernel_rfl, ?_⟩
        refine normal_thn ?_
        refine aw_seq ?_
        refine aw_seq ?_
        refine aw_draw mixed ?_
        refine g_u (s_mv_imm rfl rfl) ?_
        refine g_u (s_mv_imm rfl rfl) ?_
        refine g_u (s_lenL rfl rfl Tryd.underlying27) ?_
        refine g_u (s_ltI rfl rfl rfl) ?_
        refine g_u (s_mv_imm rfl rfl) ?_
        refine g_case (t := 35) rfl ?_
        rintro (hb3 | hb3)
        · rw [hb3]
          have hpl : i < l.length := by have := of_decide_eq_true hb3; (try simp only [List.length_map] at this); omega
          refine g_run rfl rfl (s_mv_imm rfl rfl) ?_
          refine g_run rfl rfl (s_mv_imm rfl rfl) ?_
          refine g_run rfl rfl (s_indexAddr rfl rfl rfl Tryd.underlying27 tS78 (by omega) (ixA hpl)) ?_
          refine g_run rfl rfl (s_fieldAddr_cp rfl rfl fa78_0 rfl rfl) ?_
          refine g_run rfl rfl (s_load_cp rfl rfl tA9 tS9 rfl rfl) ?_
          refine g_run rfl rfl (s_fieldAddr rfl rfl fa78_0 rfl) ?_
          refine g_run rfl rfl (s_load_imm rfl rfl rfl tA9 tS9 rfl rfl) ?_
          refine g_run rfl rfl (s_eqS rfl rfl rfl) ?_
          refine g_u (s_pick_t rfl rfl rfl) ?_
          refine g_nil ⟨by kernel_rfl, ?_⟩
          refine normal_thn ?_
          refine aw_cond rfl (fun hb4 => ?_) (fun hb4 => ?_)
          · skip
            have he : (nthA l i).key = a.key := by have e := hb4; rw [str_beq] at e; exact of_decide_eq_true e
            refine aw_region ?_
            refine g_u (s_mv_imm rfl rfl) ?_
            refine g_u (s_add rfl rfl rfl) ?_
            refine g_u (s_as_imm rfl rfl) ?_
            refine g_nil ?_
            refine normal_thn ?_
            refine aw_seq ?_
            refine aw_region ?_
            refine g_u (s_mv_slg rfl rfl) ?_
            refine g_u (s_mv_imm rfl rfl) ?_
            refine g_u (s_mv_imm rfl rfl) ?_
            refine g_u (s_slL_l (i + 1) rfl rfl rfl Tryd.underlying27 tS78 (by rw [wrap64 (by omega) (by omega)]; omega) (by rw [List.length_map]; omega)) ?_
            refine g_u (s_append rfl rfl rfl rfl rfl Tryd.underlying27 Tryd.underlying27 tS78 zv78 rfl (by decide) by78 (by (try dsimp only); simp only [List.length_append, List.length_cons, List.length_nil, List.length_map, List.length_take, List.length_drop]; omega) (by (try dsimp only); simp only [List.length_append, List.length_cons, List.length_nil, List.length_map, List.length_take, List.length_drop]; omega)) ?_
            refine g_u (s_as_slg rfl rfl) ?_
            refine g_nil ?_
            refine normal_thn ?_
            refine aw_ret ?_
            exact ⟨⟨(rfl : toAV (Al.look _ _) = some _).trans (congrArg some (by (refine congrArg (AV.sl 7) ?_; rw [intoA_pos, ← hp]; first | (have hh : hasA l a.key = true := (by rw [hasA, ← hp, decide_eq_true hpl, Bool.true_and]; exact decide_eq_true he); rw [if_pos hh]; simp [avA_eq, List.take_of_length_le]) | (have hh : hasA l a.key = false := (by rw [hasA, ← hp, decide_eq_true hpl, Bool.true_and]; exact decide_eq_false he); rw [if_neg (by rw [hh]; decide)]; simp [avA_eq, List.take_of_length_le]) | (have hh : hasA l a.key = false := (by rw [hasA, ← hp, decide_eq_false hpl, Bool.false_and]); rw [if_neg (by rw [hh]; decide)]; simp [avA_eq, List.take_of_length_le])))), rfl⟩, trivial⟩
          · skip
            have he : ¬ (nthA l i).key = a.key := by first | (have e := hb4; rw [str_beq] at e; exact of_decide_eq_false e) | (intro _; omega)
            refine aw_skip ?_
            refine normal_thn ?_
            refine aw_seq ?_
            refine aw_region ?_
            refine g_u (s_mv_slg rfl rfl) ?_
            refine g_u (s_mv_imm rfl rfl) ?_
            refine g_u (s_mv_imm rfl rfl) ?_
            refine g_u (s_slL_l i rfl rfl rfl Tryd.underlying27 tS78 (by omega) (by rw [List.length_map]; omega)) ?_
            refine g_u (s_append rfl rfl rfl rfl rfl Tryd.underlying27 Tryd.underlying27 tS78 zv78 rfl (by decide) by78 (by (try dsimp only); simp only [List.length_append, List.length_cons, List.length_nil, List.length_map, List.length_take, List.length_drop]; omega) (by (try dsimp only); simp only [List.length_append, List.length_cons, List.length_nil, List.length_map, List.length_take, List.length_drop]; omega)) ?_
            refine g_u (s_as_slg rfl rfl) ?_
            refine g_nil ?_
            refine normal_thn ?_
            refine aw_ret ?_
            exact ⟨⟨(rfl : toAV (Al.look _ _) = some _).trans (congrArg some (by (refine congrArg (AV.sl 7) ?_; rw [intoA_pos, ← hp]; first | (have hh : hasA l a.key = true := (by rw [hasA, ← hp, decide_eq_true hpl, Bool.true_and]; exact decide_eq_true he); rw [if_pos hh]; simp [avA_eq, List.take_of_length_le]) | (have hh : hasA l a.key = false := (by rw [hasA, ← hp, decide_eq_true hpl, Bool.true_and]; exact decide_eq_false he); rw [if_neg (by rw [hh]; decide)]; simp [avA_eq, List.take_of_length_le]) | (have hh : hasA l a.key = false := (by rw [hasA, ← hp, decide_eq_false hpl, Bool.false_and]); rw [if_neg (by rw [hh]; decide)]; simp [avA_eq, List.take_of_length_le])))), rfl⟩, trivial⟩
        · rw [hb3]
          have hpl : ¬ i < l.length := by have := of_decide_eq_false hb3; (try simp only [List.length_map] at this); omega
          refine g_skip rfl rfl rfl ?_
          refine g_skip rfl rfl rfl ?_
          refine g_skip rfl rfl rfl ?_
          refine g_skip rfl rfl rfl ?_
          refine g_skip rfl rfl rfl ?_
          refine g_skip rfl rfl rfl ?_
          refine g_skip rfl rfl rfl ?_
          refine g_skip rfl rfl rfl ?_
          refine g_u (s_pick_f rfl rfl rfl) ?_
          refine g_nil ⟨by kernel_rfl, ?_⟩
          refine normal_thn ?_
          refine aw_cond_false rfl ?_
          refine aw_skip ?_
          refine normal_thn ?_
          refine aw_seq ?_
          refine aw_region ?_
          refine g_u (s_mv_slg rfl rfl) ?_
          refine g_u (s_mv_imm rfl rfl) ?_
          refine g_u (s_mv_imm rfl rfl) ?_
          refine g_u (s_slL_l i rfl rfl rfl Tryd.underlying27 tS78 (by omega) (by rw [List.length_map]; omega)) ?_
          refine g_u (s_append rfl rfl rfl rfl rfl Tryd.underlying27 Tryd.underlying27 tS78 zv78 rfl (by decide) by78 (by (try dsimp only); simp only [List.length_append, List.length_cons, List.length_nil, List.length_map, List.length_take, List.length_drop]; omega) (by (try dsimp only); simp only [List.length_append, List.length_cons, List.length_nil, List.length_map, List.length_take, List.length_drop]; omega)) ?_
          refine g_u (s_as_slg rfl rfl) ?_
          refine g_nil ?_
          refine normal_thn ?_
          refine aw_ret ?_
          exact ⟨⟨(rfl : toAV (Al.look _ _) = some _).trans (congrArg some (by (refine congrArg (AV.sl 7) ?_; rw [intoA_pos, ← hp]; first | (have hh : hasA l a.key = true := (by rw [hasA, ← hp, decide_eq_true hpl, Bool.true_and]; exact decide_eq_true he); rw [if_pos hh]; simp [avA_eq, List.take_of_length_le]) | (have hh : hasA l a.key = false := (by rw [hasA, ← hp, decide_eq_true hpl, Bool.true_and]; exact decide_eq_false he); rw [if_neg (by rw [hh]; decide)]; simp [avA_eq, List.take_of_length_le]) | (have hh : hasA l a.key = false := (by rw [hasA, ← hp, decide_eq_false hpl, Bool.false_and]); rw [if_neg (by rw [hh]; decide)]; simp [avA_eq, List.take_of_length_le])))), rfl⟩, trivial⟩
    · rw [hb1]
      have hin : i = l.length := by have := of_decide_eq_false hb1; (try simp only [List.length_map] at this); omega
      have hp : i = posA l a.key := posA_first l a.key i h2 h1 (fun h => absurd h (by omega))
      refine g_skip rfl rfl rfl ?_
      refine g_skip rfl rfl rfl ?_
      refine g_skip rfl rfl rfl ?_
      refine g_skip rfl rfl rfl ?_
      refine g_skip rfl rfl rfl ?_
      refine g_skip rfl rfl rfl ?_
      refine g_skip rfl rfl rfl ?_
      refine g_skip rfl rfl rfl ?_
      refine g_u (s_pick_f rfl rfl rfl) ?_
      refine g_nil ⟨by kernel_rfl, ?_⟩
      refine normal_thn ?_
      refine aw_cond_false rfl ?_
      refine aw_exit ?_
      refine exit_thn ?_
      refine exit_thn ?_
      refine exit_blk ?_
      refine normal_thn ?_
      refine aw_seq ?_
      refine aw_draw mixed ?_
      refine g_uG (s_build0 1023 3023 rfl rfl rfl rfl rfl rfl Tryd.underlying27 tS78) rfl ?_
      refine g_u (s_mv_imm rfl rfl) ?_
      refine g_u (s_mv_imm rfl rfl) ?_
      refine g_u (s_slL_h i rfl rfl rfl Tryd.underlying27 tS78 (by omega) (by rw [List.length_map]; omega)) ?_
      refine g_u (s_append rfl rfl rfl rfl rfl Tryd.underlying27 Tryd.underlying27 tS78 zv78 rfl (by decide) by78 (by (try dsimp only); simp only [List.length_append, List.length_cons, List.length_nil, List.length_map, List.length_take, List.length_drop]; omega) (by (try dsimp only); simp only [List.length_append, List.length_cons, List.length_nil, List.length_map, List.length_take, List.length_drop]; omega)) ?_
      refine g_u (s_load_imm rfl rfl rfl tA78 tS78 rfl rfl) ?_
      refine g_u (s_buildSlice (X0 := z78) rfl Tryd.underlying27 tS78 tZ78 rfl rfl rfl rfl rfl rfl rfl rfl) ?_
      refine g_u (s_append rfl rfl rfl rfl rfl Tryd.underlying27 Tryd.underlying27 tS78 zv78 rfl (by decide) by78 (by (try dsimp only); simp only [List.length_append, List.length_cons, List.length_nil, List.length_map, List.length_take, List.length_drop]; omega) (by (try dsimp only); simp only [List.length_append, List.length_cons, List.length_nil, List.length_map, List.length_take, List.length_drop]; omega)) ?_
      refine g_u (s_as_slg rfl rfl) ?_
      refine g_nil ⟨by kernel_rfl, ?_⟩
      refine normal_thn ?_
      refine aw_seq ?_
      refine aw_seq ?_
      refine aw_draw mixed ?_
      refine g_u (s_mv_imm rfl rfl) ?_
      refine g_u (s_mv_imm rfl rfl) ?_
      refine g_u (s_lenL rfl rfl Tryd.underlying27) ?_
      refine g_u (s_ltI rfl rfl rfl) ?_
      refine g_u (s_mv_imm rfl rfl) ?_
      refine g_case (t := 35) rfl ?_
      rintro (hb5 | hb5)
      · rw [hb5]
        have hpl : i < l.length := by have := of_decide_eq_true hb5; (try simp only [List.length_map] at this); omega
        refine g_run rfl rfl (s_mv_imm rfl rfl) ?_
        refine g_run rfl rfl (s_mv_imm rfl rfl) ?_
        refine g_run rfl rfl (s_indexAddr rfl rfl rfl Tryd.underlying27 tS78 (by omega) (ixA hpl)) ?_
        refine g_run rfl rfl (s_fieldAddr_cp rfl rfl fa78_0 rfl rfl) ?_
        refine g_run rfl rfl (s_load_cp rfl rfl tA9 tS9 rfl rfl) ?_
        refine g_run rfl rfl (s_fieldAddr rfl rfl fa78_0 rfl) ?_
        refine g_run rfl rfl (s_load_imm rfl rfl rfl tA9 tS9 rfl rfl) ?_
        refine g_run rfl rfl (s_eqS rfl rfl rfl) ?_
        refine g_u (s_pick_t rfl rfl rfl) ?_
        refine g_nil ⟨by kernel_rfl, ?_⟩
        refine normal_thn ?_
        refine aw_cond rfl (fun hb6 => ?_) (fun hb6 => ?_)
        · skip
          have he : (nthA l i).key = a.key := by have e := hb6; rw [str_beq] at e; exact of_decide_eq_true e
          refine aw_region ?_
          refine g_u (s_mv_imm rfl rfl) ?_
          refine g_u (s_add rfl rfl rfl) ?_
          refine g_u (s_as_imm rfl rfl) ?_
          refine g_nil ?_
          refine normal_thn ?_
          refine aw_seq ?_
          refine aw_region ?_
          refine g_u (s_mv_slg rfl rfl) ?_
          refine g_u (s_mv_imm rfl rfl) ?_
          refine g_u (s_mv_imm rfl rfl) ?_
          refine g_u (s_slL_l (i + 1) rfl rfl rfl Tryd.underlying27 tS78 (by rw [wrap64 (by omega) (by omega)]; omega) (by rw [List.length_map]; omega)) ?_
          refine g_u (s_append rfl rfl rfl rfl rfl Tryd.underlying27 Tryd.underlying27 tS78 zv78 rfl (by decide) by78 (by (try dsimp only); simp only [List.length_append, List.length_cons, List.length_nil, List.length_map, List.length_take, List.length_drop]; omega) (by (try dsimp only); simp only [List.length_append, List.length_cons, List.length_nil, List.length_map, List.length_take, List.length_drop]; omega)) ?_
          refine g_u (s_as_slg rfl rfl) ?_
          refine g_nil ?_
          refine normal_thn ?_
          refine aw_ret ?_
          exact ⟨⟨(rfl : toAV (Al.look _ _) = some _).trans (congrArg some (by (refine congrArg (AV.sl 7) ?_; rw [intoA_pos, ← hp]; first | (have hh : hasA l a.key = true := (by rw [hasA, ← hp, decide_eq_true hpl, Bool.true_and]; exact decide_eq_true he); rw [if_pos hh]; simp [avA_eq, List.take_of_length_le]) | (have hh : hasA l a.key = false := (by rw [hasA, ← hp, decide_eq_true hpl, Bool.true_and]; exact decide_eq_false he); rw [if_neg (by rw [hh]; decide)]; simp [avA_eq, List.take_of_length_le]) | (have hh : hasA l a.key = false := (by rw [hasA, ← hp, decide_eq_false hpl, Bool.false_and]); rw [if_neg (by rw [hh]; decide)]; simp [avA_eq, List.take_of_length_le])))), rfl⟩, trivial⟩
        · skip
          have he : ¬ (nthA l i).key = a.key := by first | (have e := hb6; rw [str_beq] at e; exact of_decide_eq_false e) | (intro _; omega)
          refine aw_skip ?_
          refine normal_thn ?_
          refine aw_seq ?_
          refine aw_region ?_
          refine g_u (s_mv_slg rfl rfl) ?_
          refine g_u (s_mv_imm rfl rfl) ?_
          refine g_u (s_mv_imm rfl rfl) ?_
          refine g_u (s_slL_l i rfl rfl rfl Tryd.underlying27 tS78 (by omega) (by rw [List.length_map]; omega)) ?_
          refine g_u (s_append rfl rfl rfl rfl rfl Tryd.underlying27 Tryd.underlying27 tS78 zv78 rfl (by decide) by78 (by (try dsimp only); simp only [List.length_append, List.length_cons, List.length_nil, List.length_map, List.length_take, List.length_drop]; omega) (by (try dsimp only); simp only [List.length_append, List.length_cons, List.length_nil, List.length_map, List.length_take, List.length_drop]; omega)) ?_
          refine g_u (s_as_slg rfl rfl) ?_
          refine g_nil ?_
          refine normal_thn ?_
          refine aw_ret ?_
          exact ⟨⟨(rfl : toAV (Al.look _ _) = some _).trans (congrArg some (by (refine congrArg (AV.sl 7) ?_; rw [intoA_pos, ← hp]; first | (have hh : hasA l a.key = true := (by rw [hasA, ← hp, decide_eq_true hpl, Bool.true_and]; exact decide_eq_true he); rw [if_pos hh]; simp [avA_eq, List.take_of_length_le]) | (have hh : hasA l a.key = false := (by rw [hasA, ← hp, decide_eq_true hpl, Bool.true_and]; exact decide_eq_false he); rw [if_neg (by rw [hh]; decide)]; simp [avA_eq, List.take_of_length_le]) | (have hh : hasA l a.key = false := (by rw [hasA, ← hp, decide_eq_false hpl, Bool.false_and]); rw [if_neg (by rw [hh]; decide)]; simp [avA_eq, List.take_of_length_le])))), rfl⟩, trivial⟩
      · rw [hb5]
        have hpl : ¬ i < l.length := by have := of_decide_eq_false hb5; (try simp only [List.length_map] at this); omega
        refine g_skip rfl rfl rfl ?_
        refine g_skip rfl rfl rfl ?_
        refine g_skip rfl rfl rfl ?_
        refine g_skip rfl rfl rfl ?_
        refine g_skip rfl rfl rfl ?_
        refine g_skip rfl rfl rfl ?_
        refine g_skip rfl rfl rfl ?_
        refine g_skip rfl rfl rfl ?_
        refine g_u (s_pick_f rfl rfl rfl) ?_
        refine g_nil ⟨by kernel_rfl, ?_⟩
        refine normal_thn ?_
        refine aw_cond_false rfl ?_
        refine aw_skip ?_
        refine normal_thn ?_
        refine aw_seq ?_
        refine aw_region ?_
        refine g_u (s_mv_slg rfl rfl) ?_
        refine g_u (s_mv_imm rfl rfl) ?_
        refine g_u (s_mv_imm rfl rfl) ?_
        refine g_u (s_slL_l i rfl rfl rfl Tryd.underlying27 tS78 (by omega) (by rw [List.length_map]; omega)) ?_
        refine g_u (s_append rfl rfl rfl rfl rfl Tryd.underlying27 Tryd.underlying27 tS78 zv78 rfl (by decide) by78 (by (try dsimp only); simp only [List.length_append, List.length_cons, List.length_nil, List.length_map, List.length_take, List.length_drop]; omega) (by (try dsimp only); simp only [List.length_append, List.length_cons, List.length_nil, List.length_map, List.length_take, List.length_drop]; omega)) ?_
        refine g_u (s_as_slg rfl rfl) ?_
        refine g_nil ?_
        refine normal_thn ?_
        refine aw_ret ?_
        exact ⟨⟨(rfl : toAV (Al.look _ _) = some _).trans (congrArg some (by (refine congrArg (AV.sl 7) ?_; rw [intoA_pos, ← hp]; first | (have hh : hasA l a.key = true := (by rw [hasA, ← hp, decide_eq_true hpl, Bool.true_and]; exact decide_eq_true he); rw [if_pos hh]; simp [avA_eq, List.take_of_length_le]) | (have hh : hasA l a.key = false := (by rw [hasA, ← hp, decide_eq_true hpl, Bool.true_and]; exact decide_eq_false he); rw [if_neg (by rw [hh]; decide)]; simp [avA_eq, List.take_of_length_le]) | (have hh : hasA l a.key = false := (by rw [hasA, ← hp, decide_eq_false hpl, Bool.false_and]); rw [if_neg (by rw [hh]; decide)]; simp [avA_eq, List.take_of_length_le])))), rfl⟩, trivial⟩

set_option maxHeartbeats 400000 in
theorem canonAs_st (l : List GA) (hl : l.length ≤ 1000000000) (ih : ∀ a ∈ l, PCall Tryd.prog Γ0 100 [a.val.av] [(canonV a.val).av]) : PCall Tryd.prog Γ0 63 [.sl 7 (l.map avA)] [.sl 7 ((canonAs l).map avA)] := by
  refine pcall_of Tryd.func63 rfl Tryd.ntmps63 (by kernel_rfl) rfl fun w0 I0 G0 => ?_
  refine aw_seq ?_
  refine aw_region ?_
  refine g_u (s_as_imm rfl rfl) ?_
  refine g_nil ?_
  refine normal_thn ?_
  refine aw_seq ?_
  refine aw_region ?_
  refine g_u (s_as_imm rfl rfl) ?_
  refine g_nil ?_
  refine normal_thn ?_
  refine aw_seq ?_
  refine aw_seq ?_
  refine aw_up 3 rfl (Up.nil 7) ?_
  refine aw_region ?_
  refine g_u (s_as_imm rfl rfl) ?_
  refine g_nil ?_
  refine normal_thn ?_
  refine aw_block ?_
  refine aw_loop' (fun i : Nat => [(0, .imm (.sl 7 (l.map avA))), (3, .imm (.sl 7 ((intoAll [] ((l.take i).map canonP)).map avA))), (4, .imm (iv (i : Int)))]) (fun i => i ≤ l.length) (fun i => l.length - i) (0) ?_ ⟨rfl, rfl, rfl, trivial⟩ ?_
  · exact Nat.zero_le _
  · rintro i h1; have h1 : i ≤ l.length := h1
    refine aw_seq ?_
    refine aw_seq ?_
    refine aw_region ?_
    refine g_u (s_mv_imm rfl rfl) ?_
    refine g_u (s_mv_imm rfl rfl) ?_
    refine g_u (s_lenL rfl rfl Tryd.underlying27) ?_
    refine g_u (s_ltI rfl rfl rfl) ?_
    refine g_nil ?_
    refine normal_thn ?_
    refine aw_cond rfl (fun hb1 => ?_) (fun hb1 => ?_)
    · skip
      have hi : i < l.length := by have := of_decide_eq_true hb1; (try simp only [List.length_map] at this); omega
      refine aw_skip ?_
      refine normal_thn ?_
      refine aw_seq ?_
      refine aw_block ?_
      refine aw_draw mixed ?_
      refine g_u (s_mv_imm rfl rfl) ?_
      refine g_u (s_mv_imm rfl rfl) ?_
      refine g_u (s_mv_imm rfl rfl) ?_
      refine g_u (s_indexAddr rfl rfl rfl Tryd.underlying27 tS78 (by omega) (ixA hi)) ?_
      refine g_u (s_fieldAddr_cp rfl rfl fa78_0 rfl rfl) ?_
      refine g_u (s_load_cp rfl rfl tA9 tS9 rfl rfl) ?_
      refine g_u (s_mv_imm rfl rfl) ?_
      refine g_u (s_mv_imm rfl rfl) ?_
      refine g_u (s_indexAddr rfl rfl rfl Tryd.underlying27 tS78 (by omega) (ixA hi)) ?_
      refine g_u (s_fieldAddr_cp rfl rfl fa78_1 rfl rfl) ?_
      refine g_u (s_load_cp rfl rfl tA76 tS76 rfl rfl) ?_
      refine g_u (s_call1 (ih _ (nthA_mem hi)) rfl rfl) ?_
      refine g_u (s_build rfl tU78 us78 pl78 rfl rfl rfl rfl) ?_
      refine g_u (s_call1 (into_c _ (.mk (nthA l i).key (canonV (nthA l i).val)) (by have := len_intoAll ((l.take i).map canonP) []; simp only [List.length_map, List.length_take, List.length_nil] at this; omega)) rfl rfl) ?_
      refine g_u (s_as_imm rfl rfl) ?_
      refine g_nil ⟨by kernel_rfl, ?_⟩
      refine normal_blk ?_
      refine normal_thn ?_
      refine aw_region ?_
      refine g_u (s_mv_imm rfl rfl) ?_
      refine g_u (s_add rfl rfl rfl) ?_
      refine g_u (s_as_imm rfl rfl) ?_
      refine g_nil ?_
      refine normal_thn ?_
      refine ⟨i + 1, hi, ⟨rfl, look_imm rfl (by rw [canonAs_take hi, canonP_eq]), look_int rfl (by rw [wrap64 (by omega) (by omega)]; rfl), trivial⟩, by (try dsimp only); omega⟩
    · skip
      have hin : i = l.length := by have := of_decide_eq_false hb1; (try simp only [List.length_map] at this); omega
      refine aw_exit ?_
      refine exit_thn ?_
      refine exit_thn ?_
      refine exit_blk ?_
      refine normal_thn ?_
      refine aw_seq ?_
      refine aw_region ?_
      refine g_u (s_mv_imm rfl rfl) ?_
      refine g_u (s_as_imm rfl rfl) ?_
      refine g_nil ?_
      refine normal_thn ?_
      refine aw_ret ?_
      exact ⟨⟨(rfl : toAV (Al.look _ _) = some _).trans (congrArg some (by (rw [hin, List.take_length]; rfl))), rfl⟩, trivial⟩

set_option maxHeartbeats 400000 in
theorem canonV_st (v : GV) (hw : v.wt ≤ 10000000) (ih : ∀ y ∈ v.list, PCall Tryd.prog Γ0 100 [y.av] [(canonV y).av]) (ihm : PCall Tryd.prog Γ0 63 [.sl 7 (v.map.map avA)] [.sl 7 ((canonAs v.map).map avA)]) : PCall Tryd.prog Γ0 100 [v.av] [(canonV v).av] := by
  have ek := v.wt_eq
  have lv := len_wtVs v.list
  refine pcall_of Tryd.func100 rfl Tryd.ntmps100 (by kernel_rfl) rfl fun w0 I0 G0 => ?_
  refine aw_seq ?_
  refine aw_region ?_
  refine g_uG (s_box_imm 1001 rfl rfl rfl rfl) rfl ?_
  refine g_uG (s_alloc' 1002 rfl rfl rfl tZ76) rfl ?_
  refine g_nil ?_
  refine normal_thn ?_
  refine aw_seq ?_
  refine aw_region ?_
  refine g_u (s_as_imm rfl rfl) ?_
  refine g_nil ?_
  refine normal_thn ?_
  refine aw_seq ?_
  refine aw_seq ?_
  refine aw_newtok 3003 3 6 rfl rfl rfl rfl ?_
  refine aw_region ?_
  refine g_u (s_as_imm rfl rfl) ?_
  refine g_nil ?_
  refine normal_thn ?_
  refine aw_block ?_
  refine aw_loop' (fun i : Nat => [(1, .ptr 1001 0), (1001, .box 76 (.imm v.av)), (2, .ptr 1002 0), (1002, .box 76 (.imm z76)), (3, .slg 3003 6 ((v.list.take i).map fun x => (canonV x).av)), (3003, .tok 6 ((v.list.take i).map fun x => (canonV x).av)), (4, .imm (iv (i : Int)))]) (fun i => i ≤ v.list.length) (fun i => v.list.length - i) (0) ?_ ⟨rfl, rfl, rfl, rfl, rfl, rfl, rfl, trivial⟩ ?_
  · exact Nat.zero_le _
  · rintro i h1; have h1 : i ≤ v.list.length := h1
    refine aw_seq ?_
    refine aw_seq ?_
    refine aw_region ?_
    refine g_u (s_mv_imm rfl rfl) ?_
    refine g_u (s_fieldAddr rfl rfl fa76_4 rfl) ?_
    refine g_u (s_load_imm rfl rfl rfl tA74 tS74 rfl rfl) ?_
    refine g_u (s_lenL rfl rfl Tryd.underlying74) ?_
    refine g_u (s_ltI rfl rfl rfl) ?_
    refine g_nil ?_
    refine normal_thn ?_
    refine aw_cond rfl (fun hb1 => ?_) (fun hb1 => ?_)
    · skip
      have hi : i < v.list.length := by have := of_decide_eq_true hb1; (try simp only [List.length_map] at this); omega
      refine aw_skip ?_
      refine normal_thn ?_
      refine aw_seq ?_
      refine aw_block ?_
      refine aw_region ?_
      refine g_u (s_mv_slg rfl rfl) ?_
      refine g_u (s_fieldAddr rfl rfl fa76_4 rfl) ?_
      refine g_u (s_load_imm rfl rfl rfl tA74 tS74 rfl rfl) ?_
      refine g_u (s_mv_imm rfl rfl) ?_
      refine g_u (s_indexAddr rfl rfl rfl Tryd.underlying74 tS76 (by omega) (ixV hi)) ?_
      refine g_u (s_load_cp rfl rfl tA76 tS76 rfl rfl) ?_
      refine g_u (s_call1 (ih _ (nthV_mem hi)) rfl rfl) ?_
      refine g_u (s_buildSlice (X0 := z76) rfl Tryd.underlying74 tS76 tZ76 rfl rfl rfl rfl rfl rfl rfl rfl) ?_
      refine g_u (s_append rfl rfl rfl rfl rfl Tryd.underlying74 Tryd.underlying74 tS76 zv76 rfl (by decide) by76 (by (try dsimp only); simp only [List.length_append, List.length_cons, List.length_nil, List.length_map, List.length_take, List.length_drop]; omega) (by (try dsimp only); simp only [List.length_append, List.length_cons, List.length_nil, List.length_map, List.length_take, List.length_drop]; omega)) ?_
      refine g_u (s_as_slg rfl rfl) ?_
      refine g_nil ?_
      refine normal_blk ?_
      refine normal_thn ?_
      refine aw_region ?_
      refine g_u (s_mv_imm rfl rfl) ?_
      refine g_u (s_add rfl rfl rfl) ?_
      refine g_u (s_as_imm rfl rfl) ?_
      refine g_nil ?_
      refine normal_thn ?_
      have et : (v.list.take (i + 1)).map (fun x => (canonV x).av) = (v.list.take i).map (fun x => (canonV x).av) ++ [(canonV (nthV v.list i)).av] := by rw [take_snoc (nth_get (d := v0) hi), List.map_append]; rfl
      refine ⟨i + 1, hi, ⟨rfl, rfl, rfl, rfl, look_slg rfl et.symm, look_tok rfl et.symm, look_int rfl (by rw [wrap64 (by omega) (by omega)]; rfl), trivial⟩, by (try dsimp only); omega⟩
    · skip
      have hin : i = v.list.length := by have := of_decide_eq_false hb1; (try simp only [List.length_map] at this); omega
      refine aw_exit ?_
      refine exit_thn ?_
      refine exit_thn ?_
      refine exit_blk ?_
      refine normal_thn ?_
      refine aw_seq ?_
      refine aw_region ?_
      refine g_u (s_mv_slg rfl rfl) ?_
      refine g_u (s_fieldAddr rfl rfl fa76_4 rfl) ?_
      refine g_u (s_store rfl rfl rfl rfl tS74 rfl rfl) ?_
      refine g_nil ?_
      refine normal_thn ?_
      refine aw_seq ?_
      refine aw_region ?_
      refine g_u (s_fieldAddr rfl rfl fa76_5 rfl) ?_
      refine g_u (s_load_imm rfl rfl rfl tA27 tS27 rfl rfl) ?_
      refine g_u (s_call1 (ihm) rfl rfl) ?_
      refine g_u (s_fieldAddr rfl rfl fa76_5 rfl) ?_
      refine g_u (s_store_imm rfl rfl rfl tS27 rfl rfl) ?_
      refine g_nil ?_
      refine normal_thn ?_
      refine aw_seq ?_
      refine aw_region ?_
      refine g_u (s_load_agg rfl rfl rfl tA76 tS76 rfl rfl) ?_
      refine g_u (s_store_imm rfl rfl rfl tS76 rfl rfl) ?_
      refine g_nil ?_
      refine normal_thn ?_
      refine aw_ret ?_
      exact ⟨⟨_, _, _, _, _, _, _, rfl, rfl, tA76, tS76, rfl, rfl, (rfl : toAV _ = some _).trans (congrArg some (by (rw [canonV_eq, hin, List.take_length]; show AV.agg _ = AV.agg [_, _, _, _, .sl 6 ((v.list.map canonV).map avV), _]; rw [List.map_map, show avV ∘ canonV = fun x => (canonV x).av from funext fun x => avV_eq _]; rfl)))⟩, trivial⟩

theorem canonV_c (v : GV) : v.wt ≤ 10000000 → PCall Tryd.prog Γ0 100 [v.av] [(canonV v).av] := by
  refine GV.ind (P := fun v => v.wt ≤ 10000000 → PCall Tryd.prog Γ0 100 [v.av] [(canonV v).av]) ?_ v
  intro v h1 h2 hw
  have ek := v.wt_eq
  have la := len_wtAs v.map
  exact canonV_st v hw (fun y hy => h1 y hy (by have := wtVs_mem hy; omega)) (canonAs_st v.map (by omega) fun a ha => h2 a ha (by have := wtAs_mem ha; have := a.wt_eq; omega))
theorem canonAs_c (l : List GA) (hw : wtAs l ≤ 10000000) : PCall Tryd.prog Γ0 63 [.sl 7 (l.map avA)] [.sl 7 ((canonAs l).map avA)] := by
  have la := len_wtAs l
  exact canonAs_st l (by omega) fun a ha => canonV_c a.val (by have := wtAs_mem ha; have := a.wt_eq; omega)

end Go.Proofs

namespace Go.Proofs
open Go Go.Al
set_option maxRecDepth 10000
set_option maxHeartbeats 8000000 in
theorem canonS_c (s : GSpan) (hw : s.wt ≤ 1000000) : PCall Tryd.prog Γ0 16 [s.av] [(canonS s).av] := by
  have qw : s.wt = 1 + s.state.size + s.name.size + s.note.size + wtAs s.attrs + sumBy GE.wt s.events + sumBy GL.wt s.links := rfl
  have ql := sumBy_len GE.wt (fun e => by unfold GE.wt; omega) s.events
  have qm := sumBy_len GL.wt (fun e => by unfold GL.wt; omega) s.links
  refine pcall_of Tryd.func16 rfl Tryd.ntmps16 (by kernel_rfl) rfl fun w0 I0 G0 => ?_
  refine aw_seq ?_
  refine aw_region ?_
  refine g_uG (s_box_imm 1001 rfl rfl rfl rfl) rfl ?_
  refine g_uG (s_alloc' 1002 rfl rfl rfl tZ33) rfl ?_
  refine g_nil ?_
  refine normal_thn ?_
  refine aw_seq ?_
  refine aw_region ?_
  refine g_u (s_load_imm rfl rfl rfl tA33 tS33 rfl (by first | exact getS_w (GSpan.width _) rfl | rfl)) ?_
  refine g_uG (s_alloc' 1003 rfl rfl rfl tZ33) rfl ?_
  refine g_u (s_store_imm rfl rfl rfl tS33 (by first | exact beqW (GSpan.width _) | rfl) (by first | exact setS_w (z33_w.trans (GSpan.width _).symm) rfl | rfl)) ?_
  refine g_nil ?_
  refine normal_thn ?_
  refine aw_seq ?_
  refine aw_region ?_
  refine g_u (s_fieldAddr rfl rfl fa33_8 rfl) ?_
  refine g_u (s_load_imm rfl rfl rfl tA27 tS27 rfl rfl) ?_
  refine g_u (s_call1 (canonAs_c s.attrs (by omega)) rfl rfl) ?_
  refine g_u (s_fieldAddr rfl rfl fa33_8 rfl) ?_
  refine g_u (s_store_imm rfl rfl rfl tS27 rfl rfl) ?_
  refine g_nil ?_
  refine normal_thn ?_
  refine aw_seq ?_
  refine aw_region ?_
  refine g_u (s_fieldAddr rfl rfl fa33_9 rfl) ?_
  refine g_u (s_store_imm rfl rfl rfl tS28 rfl rfl) ?_
  refine g_nil ?_
  refine normal_thn ?_
  refine aw_seq ?_
  refine aw_region ?_
  refine g_u (s_fieldAddr rfl rfl fa33_10 rfl) ?_
  refine g_u (s_store_imm rfl rfl rfl tS29 rfl rfl) ?_
  refine g_nil ?_
  refine normal_thn ?_
  refine aw_seq ?_
  refine aw_seq ?_
  refine aw_newtokB 3009 1003 3 38 rfl rfl rfl rfl rfl rfl rfl ?_
  refine aw_region ?_
  refine g_u (s_as_imm rfl rfl) ?_
  refine g_nil ?_
  refine normal_thn ?_
  refine aw_block ?_
  refine aw_loop' (fun i : Nat => [(1, .ptr 1001 0), (1001, .box 33 (.imm s.av)), (2, .ptr 1002 0), (1002, .box 33 (.imm z33)), (3, .ptr 1003 0), (1003, .box 33 (.agg [.imm (.arr 16 s.trace), .imm (.arr 8 s.id), .imm (.arr 8 s.parent), .imm (sv s.state), .imm (sv s.name), .imm (iv s.kind), .imm (uv s.start), .imm (uv s.fin), .imm (.sl 7 ((canonAs s.attrs).map avA)), .slg 3009 3 ((s.events.take i).map fun e => (canonE e).av), .imm (.v (.slice none 0 0)), .imm (.agg [iv s.code, sv s.note])])), (3009, .tok 3 ((s.events.take i).map fun e => (canonE e).av)), (4, .imm (iv (i : Int)))]) (fun i => i ≤ s.events.length) (fun i => s.events.length - i) (0) ?_ ⟨rfl, rfl, rfl, rfl, rfl, rfl, rfl, rfl, trivial⟩ ?_
  · exact Nat.zero_le _
  · rintro i h1; have h1 : i ≤ s.events.length := h1
    refine aw_seq ?_
    refine aw_seq ?_
    refine aw_region ?_
    refine g_u (s_mv_imm rfl rfl) ?_
    refine g_u (s_fieldAddr rfl rfl fa33_9 rfl) ?_
    refine g_u (s_load_imm rfl rfl rfl tA28 tS28 rfl rfl) ?_
    refine g_u (s_lenL rfl rfl Tryd.underlying28) ?_
    refine g_u (s_ltI rfl rfl rfl) ?_
    refine g_nil ?_
    refine normal_thn ?_
    refine aw_cond rfl (fun hb1 => ?_) (fun hb1 => ?_)
    · skip
      have hi : i < s.events.length := by have := of_decide_eq_true hb1; (try simp only [List.length_map] at this); omega
      have hx : wtAs (nthE s.events i).attrs ≤ 10000000 := by have h5 := sumBy_mem GE.wt (nthE_mem hi); have h6 : (nthE s.events i).wt = 1 + (nthE s.events i).name.size + wtAs (nthE s.events i).attrs := rfl; omega
      refine aw_skip ?_
      refine normal_thn ?_
      refine aw_seq ?_
      refine aw_block ?_
      refine aw_seq ?_
      refine aw_region ?_
      refine g_u (s_fieldAddr rfl rfl fa33_9 rfl) ?_
      refine g_u (s_load_imm rfl rfl rfl tA28 tS28 rfl rfl) ?_
      refine g_u (s_mv_imm rfl rfl) ?_
      refine g_u (s_indexAddr rfl rfl rfl Tryd.underlying28 tS70 (by omega) (ixE hi)) ?_
      refine g_u (s_load_cp rfl rfl tA70 tS70 rfl rfl) ?_
      refine g_uG (s_alloc' 1005 rfl rfl rfl tZ70) rfl ?_
      refine g_u (s_store_imm rfl rfl rfl tS70 rfl rfl) ?_
      refine g_nil ?_
      refine normal_thn ?_
      refine aw_draw mixed ?_
      refine g_u (s_fieldAddr rfl rfl fa33_9 rfl) ?_
      refine g_u (s_load_slg rfl rfl rfl tA28 tS28 rfl rfl) ?_
      refine g_u (s_fieldAddr rfl rfl fa70_0 rfl) ?_
      refine g_u (s_load_imm rfl rfl rfl tA26 tS26 rfl rfl) ?_
      refine g_u (s_fieldAddr rfl rfl fa70_1 rfl) ?_
      refine g_u (s_load_imm rfl rfl rfl tA9 tS9 rfl rfl) ?_
      refine g_u (s_fieldAddr rfl rfl fa70_2 rfl) ?_
      refine g_u (s_load_imm rfl rfl rfl tA27 tS27 rfl rfl) ?_
      refine g_u (s_call1 (canonAs_c (nthE s.events i).attrs hx) rfl rfl) ?_
      refine g_u (s_build rfl tU70 us70 pl70 rfl rfl rfl rfl) ?_
      refine g_u (s_buildSlice (X0 := z70) rfl Tryd.underlying28 tS70 tZ70 rfl rfl rfl rfl rfl rfl rfl rfl) ?_
      refine g_u (s_append rfl rfl rfl rfl rfl Tryd.underlying28 Tryd.underlying28 tS70 zv70 rfl (by decide) by70 (by (try dsimp only); simp only [List.length_append, List.length_cons, List.length_nil, List.length_map, List.length_take, List.length_drop]; omega) (by (try dsimp only); simp only [List.length_append, List.length_cons, List.length_nil, List.length_map, List.length_take, List.length_drop]; omega)) ?_
      refine g_u (s_fieldAddr rfl rfl fa33_9 rfl) ?_
      refine g_u (s_store rfl rfl rfl rfl tS28 rfl rfl) ?_
      refine g_nil ⟨by kernel_rfl, ?_⟩
      refine normal_blk ?_
      refine normal_thn ?_
      refine aw_region ?_
      refine g_u (s_mv_imm rfl rfl) ?_
      refine g_u (s_add rfl rfl rfl) ?_
      refine g_u (s_as_imm rfl rfl) ?_
      refine g_nil ?_
      refine normal_thn ?_
      have et : ((s.events.take (i + 1)).map fun e => (canonE e).av) = ((s.events.take i).map fun e => (canonE e).av) ++ [(canonE (nthE s.events i)).av] := by rw [take_snoc (nth_get (d := ge0) hi), List.map_append]; rfl
      refine ⟨i + 1, hi, ⟨rfl, rfl, rfl, rfl, rfl, (by rw [et]; rfl), look_tok rfl et.symm, look_int rfl (by rw [wrap64 (by omega) (by omega)]; rfl), trivial⟩, by (try dsimp only); omega⟩
    · skip
      have hin : i = s.events.length := by have := of_decide_eq_false hb1; (try simp only [List.length_map] at this); omega
      refine aw_exit ?_
      refine exit_thn ?_
      refine exit_thn ?_
      refine exit_blk ?_
      refine normal_thn ?_
      refine aw_seq ?_
      refine aw_seq ?_
      refine aw_newtokB 3010 1003 26 39 rfl rfl rfl rfl rfl rfl rfl ?_
      refine aw_region ?_
      refine g_u (s_as_imm rfl rfl) ?_
      refine g_nil ?_
      refine normal_thn ?_
      refine aw_block ?_
      refine aw_loop' (fun i : Nat => [(1, .ptr 1001 0), (1001, .box 33 (.imm s.av)), (2, .ptr 1002 0), (1002, .box 33 (.imm z33)), (3, .ptr 1003 0), (1003, .box 33 (.agg [.imm (.arr 16 s.trace), .imm (.arr 8 s.id), .imm (.arr 8 s.parent), .imm (sv s.state), .imm (sv s.name), .imm (iv s.kind), .imm (uv s.start), .imm (uv s.fin), .imm (.sl 7 ((canonAs s.attrs).map avA)), .slg 3009 3 (s.events.map fun e => (canonE e).av), .slg 3010 26 ((s.links.take i).map fun e => (canonL e).av), .imm (.agg [iv s.code, sv s.note])])), (3010, .tok 26 ((s.links.take i).map fun e => (canonL e).av)), (6, .imm (iv (i : Int)))]) (fun i => i ≤ s.links.length) (fun i => s.links.length - i) (0) ?_ ⟨rfl, rfl, rfl, rfl, rfl, (by rw [hin, List.take_length]; rfl), rfl, rfl, trivial⟩ ?_
      · exact Nat.zero_le _
      · rintro i h1; have h1 : i ≤ s.links.length := h1
        refine aw_seq ?_
        refine aw_seq ?_
        refine aw_region ?_
        refine g_u (s_mv_imm rfl rfl) ?_
        refine g_u (s_fieldAddr rfl rfl fa33_10 rfl) ?_
        refine g_u (s_load_imm rfl rfl rfl tA29 tS29 rfl rfl) ?_
        refine g_u (s_lenL rfl rfl Tryd.underlying29) ?_
        refine g_u (s_ltI rfl rfl rfl) ?_
        refine g_nil ?_
        refine normal_thn ?_
        refine aw_cond rfl (fun hb2 => ?_) (fun hb2 => ?_)
        · skip
          have hi : i < s.links.length := by have := of_decide_eq_true hb2; (try simp only [List.length_map] at this); omega
          have hx : wtAs (nthL s.links i).attrs ≤ 10000000 := by have h5 := sumBy_mem GL.wt (nthL_mem hi); have h6 : (nthL s.links i).wt = 1 + (nthL s.links i).state.size + wtAs (nthL s.links i).attrs := rfl; omega
          refine aw_skip ?_
          refine normal_thn ?_
          refine aw_seq ?_
          refine aw_block ?_
          refine aw_seq ?_
          refine aw_region ?_
          refine g_u (s_fieldAddr rfl rfl fa33_10 rfl) ?_
          refine g_u (s_load_imm rfl rfl rfl tA29 tS29 rfl rfl) ?_
          refine g_u (s_mv_imm rfl rfl) ?_
          refine g_u (s_indexAddr rfl rfl rfl Tryd.underlying29 tS72 (by omega) (ixL hi)) ?_
          refine g_u (s_load_cp rfl rfl tA72 tS72 rfl (by first | exact getS_w (GL.width _) rfl | rfl)) ?_
          refine g_uG (s_alloc' 1007 rfl rfl rfl tZ72) rfl ?_
          refine g_u (s_store_imm rfl rfl rfl tS72 (by first | exact beqW (GL.width _) | rfl) (by first | exact setS_w (z72_w.trans (GL.width _).symm) rfl | rfl)) ?_
          refine g_nil ?_
          refine normal_thn ?_
          refine aw_draw mixed ?_
          refine g_u (s_fieldAddr rfl rfl fa33_10 rfl) ?_
          refine g_u (s_load_slg rfl rfl rfl tA29 tS29 rfl rfl) ?_
          refine g_u (s_fieldAddr rfl rfl fa72_0 rfl) ?_
          refine g_u (s_load_agg rfl rfl rfl tA23 tS23 rfl rfl) ?_
          refine g_u (s_fieldAddr rfl rfl fa72_1 rfl) ?_
          refine g_u (s_load_imm rfl rfl rfl tA25 tS25 rfl rfl) ?_
          refine g_u (s_fieldAddr rfl rfl fa72_2 rfl) ?_
          refine g_u (s_load_imm rfl rfl rfl tA9 tS9 rfl rfl) ?_
          refine g_u (s_fieldAddr rfl rfl fa72_3 rfl) ?_
          refine g_u (s_load_imm rfl rfl rfl tA27 tS27 rfl rfl) ?_
          refine g_u (s_call1 (canonAs_c (nthL s.links i).attrs hx) rfl rfl) ?_
          refine g_u (s_build rfl tU72 us72 pl72 rfl rfl rfl rfl) ?_
          refine g_u (s_buildSlice (X0 := z72) rfl Tryd.underlying29 tS72 tZ72 rfl rfl rfl rfl rfl rfl rfl rfl) ?_
          refine g_u (s_append rfl rfl rfl rfl rfl Tryd.underlying29 Tryd.underlying29 tS72 zv72 rfl (by decide) by72 (by (try dsimp only); simp only [List.length_append, List.length_cons, List.length_nil, List.length_map, List.length_take, List.length_drop]; omega) (by (try dsimp only); simp only [List.length_append, List.length_cons, List.length_nil, List.length_map, List.length_take, List.length_drop]; omega)) ?_
          refine g_u (s_fieldAddr rfl rfl fa33_10 rfl) ?_
          refine g_u (s_store rfl rfl rfl rfl tS29 rfl rfl) ?_
          refine g_nil ⟨by kernel_rfl, ?_⟩
          refine normal_blk ?_
          refine normal_thn ?_
          refine aw_region ?_
          refine g_u (s_mv_imm rfl rfl) ?_
          refine g_u (s_add rfl rfl rfl) ?_
          refine g_u (s_as_imm rfl rfl) ?_
          refine g_nil ?_
          refine normal_thn ?_
          have et : ((s.links.take (i + 1)).map fun e => (canonL e).av) = ((s.links.take i).map fun e => (canonL e).av) ++ [(canonL (nthL s.links i)).av] := by rw [take_snoc (nth_get (d := gl0) hi), List.map_append]; rfl
          refine ⟨i + 1, hi, ⟨rfl, rfl, rfl, rfl, rfl, (by rw [et]; rfl), look_tok rfl et.symm, look_int rfl (by rw [wrap64 (by omega) (by omega)]; rfl), trivial⟩, by (try dsimp only); omega⟩
        · skip
          have hin2 : i = s.links.length := by have := of_decide_eq_false hb2; (try simp only [List.length_map] at this); omega
          refine aw_exit ?_
          refine exit_thn ?_
          refine exit_thn ?_
          refine exit_blk ?_
          refine normal_thn ?_
          refine aw_seq ?_
          refine aw_region ?_
          refine g_u (s_load_agg rfl rfl rfl tA33 tS33 rfl rfl) ?_
          refine g_u (s_store_imm rfl rfl rfl tS33 (by first | exact beqW (GSpan.width _) | rfl) (by first | exact setS_w (z33_w.trans (GSpan.width _).symm) rfl | rfl)) ?_
          refine g_nil ?_
          refine normal_thn ?_
          refine aw_ret ?_
          exact ⟨⟨_, _, _, _, _, _, _, rfl, rfl, tA33, tS33, rfl, rfl, (rfl : toAV _ = some _).trans (congrArg some (by (rw [hin2, List.take_length]; show _ = GSpan.av (canonS s); simp only [GSpan.av, canonS, List.map_map]; rfl)))⟩, trivial⟩

end Go.Proofs

namespace Go.Proofs
open Go Go.Al
set_option maxRecDepth 10000
end Go.Proofs

namespace Go.Proofs
open Go Go.Al
set_option maxRecDepth 10000
set_option maxHeartbeats 4000000 in
theorem leftS_c (s : GSpan) (n : Int) (hn : -1000000000000 ≤ n ∧ n ≤ 1000000000) : PCall Tryd.prog Γ0 10 [s.av, iv n] [iv (leftS s n)] := by
  refine pcall_of Tryd.func10 rfl Tryd.ntmps10 (by kernel_rfl) rfl fun w0 I0 G0 => ?_
  refine aw_seq ?_
  refine aw_region ?_
  refine g_uG (s_box_imm 1002 rfl rfl rfl rfl) rfl ?_
  refine g_u (s_as_imm rfl rfl) ?_
  refine g_nil ?_
  refine normal_thn ?_
  refine aw_seq ?_
  refine aw_seq ?_
  refine aw_region ?_
  refine g_u (s_mv_imm rfl rfl) ?_
  refine g_u (s_ltI rfl rfl rfl) ?_
  refine g_u (s_mv_imm rfl rfl) ?_
  refine g_case (t := 9) rfl ?_
  rintro (hb1 | hb1)
  · rw [hb1]
    have z1 : n < 0 := of_decide_eq_true hb1
    refine g_skip rfl rfl rfl ?_
    refine g_skip rfl rfl rfl ?_
    refine g_skip rfl rfl rfl ?_
    refine g_skip rfl rfl rfl ?_
    refine g_skip rfl rfl rfl ?_
    refine g_u (s_pick_t rfl rfl rfl) ?_
    refine g_u (s_mv_imm rfl rfl) ?_
    refine g_skip rfl rfl rfl ?_
    refine g_skip rfl rfl rfl ?_
    refine g_skip rfl rfl rfl ?_
    refine g_skip rfl rfl rfl ?_
    refine g_skip rfl rfl rfl ?_
    refine g_u (s_pick_t rfl rfl rfl) ?_
    refine g_u (s_mv_imm rfl rfl) ?_
    refine g_skip rfl rfl rfl ?_
    refine g_skip rfl rfl rfl ?_
    refine g_skip rfl rfl rfl ?_
    refine g_skip rfl rfl rfl ?_
    refine g_skip rfl rfl rfl ?_
    refine g_skip rfl rfl rfl ?_
    refine g_u (s_pick_t rfl rfl rfl) ?_
    refine g_nil ?_
    refine normal_thn ?_
    refine aw_cond_true rfl ?_
    refine aw_seq ?_
    refine aw_region ?_
    refine g_u (s_as_imm rfl rfl) ?_
    refine g_nil ?_
    refine normal_thn ?_
    refine aw_ret ?_
    refine ret_thn ?_
    exact ⟨⟨(rfl : toAV (Al.look _ _) = some _).trans (congrArg some (by (exact congrArg iv (by unfold leftS; first | (rw [if_pos (by omega)]; done) | (rw [if_neg (by omega), g4, gfin]; done) | (rw [if_neg (by omega), g4, leftL_out hi2 (by omega) hk2]; done) | (rw [if_neg (by omega), h4, leftE_out hi (by omega) hk]; exact (leftL_neg _ (by omega)).symm))))), rfl⟩, trivial⟩
  · rw [hb1]
    have z1 : ¬ n < 0 := of_decide_eq_false hb1
    refine g_run rfl rfl (s_fieldAddr rfl rfl fa33_3 rfl) ?_
    refine g_run rfl rfl (s_load_imm rfl rfl rfl tA9 tS9 rfl rfl) ?_
    refine g_run rfl rfl (s_lenS rfl rfl Tryd.underlying9) ?_
    refine g_run rfl rfl (s_mv_imm rfl rfl) ?_
    refine g_run rfl rfl (s_gtI rfl rfl rfl) ?_
    refine g_u (s_pick_f rfl rfl rfl) ?_
    refine g_u (s_mv_imm rfl rfl) ?_
    refine g_case (t := 16) rfl ?_
    rintro (hb2 | hb2)
    · rw [hb2]
      have z2 : (s.state.size : Int) > n := of_decide_eq_true hb2
      refine g_skip rfl rfl rfl ?_
      refine g_skip rfl rfl rfl ?_
      refine g_skip rfl rfl rfl ?_
      refine g_skip rfl rfl rfl ?_
      refine g_skip rfl rfl rfl ?_
      refine g_u (s_pick_t rfl rfl rfl) ?_
      refine g_u (s_mv_imm rfl rfl) ?_
      refine g_skip rfl rfl rfl ?_
      refine g_skip rfl rfl rfl ?_
      refine g_skip rfl rfl rfl ?_
      refine g_skip rfl rfl rfl ?_
      refine g_skip rfl rfl rfl ?_
      refine g_skip rfl rfl rfl ?_
      refine g_u (s_pick_t rfl rfl rfl) ?_
      refine g_nil ?_
      refine normal_thn ?_
      refine aw_cond_true rfl ?_
      refine aw_seq ?_
      refine aw_region ?_
      refine g_u (s_as_imm rfl rfl) ?_
      refine g_nil ?_
      refine normal_thn ?_
      refine aw_ret ?_
      refine ret_thn ?_
      exact ⟨⟨(rfl : toAV (Al.look _ _) = some _).trans (congrArg some (by (exact congrArg iv (by unfold leftS; first | (rw [if_pos (by omega)]; done) | (rw [if_neg (by omega), g4, gfin]; done) | (rw [if_neg (by omega), g4, leftL_out hi2 (by omega) hk2]; done) | (rw [if_neg (by omega), h4, leftE_out hi (by omega) hk]; exact (leftL_neg _ (by omega)).symm))))), rfl⟩, trivial⟩
    · rw [hb2]
      have z2 : ¬ (s.state.size : Int) > n := of_decide_eq_false hb2
      refine g_run rfl rfl (s_fieldAddr rfl rfl fa33_4 rfl) ?_
      refine g_run rfl rfl (s_load_imm rfl rfl rfl tA9 tS9 rfl rfl) ?_
      refine g_run rfl rfl (s_lenS rfl rfl Tryd.underlying9) ?_
      refine g_run rfl rfl (s_mv_imm rfl rfl) ?_
      refine g_run rfl rfl (s_gtI rfl rfl rfl) ?_
      refine g_u (s_pick_f rfl rfl rfl) ?_
      refine g_u (s_mv_imm rfl rfl) ?_
      refine g_case (t := 23) rfl ?_
      rintro (hb3 | hb3)
      · rw [hb3]
        have z3 : (s.name.size : Int) > n := of_decide_eq_true hb3
        refine g_skip rfl rfl rfl ?_
        refine g_skip rfl rfl rfl ?_
        refine g_skip rfl rfl rfl ?_
        refine g_skip rfl rfl rfl ?_
        refine g_skip rfl rfl rfl ?_
        refine g_skip rfl rfl rfl ?_
        refine g_u (s_pick_t rfl rfl rfl) ?_
        refine g_nil ?_
        refine normal_thn ?_
        refine aw_cond_true rfl ?_
        refine aw_seq ?_
        refine aw_region ?_
        refine g_u (s_as_imm rfl rfl) ?_
        refine g_nil ?_
        refine normal_thn ?_
        refine aw_ret ?_
        refine ret_thn ?_
        exact ⟨⟨(rfl : toAV (Al.look _ _) = some _).trans (congrArg some (by (exact congrArg iv (by unfold leftS; first | (rw [if_pos (by omega)]; done) | (rw [if_neg (by omega), g4, gfin]; done) | (rw [if_neg (by omega), g4, leftL_out hi2 (by omega) hk2]; done) | (rw [if_neg (by omega), h4, leftE_out hi (by omega) hk]; exact (leftL_neg _ (by omega)).symm))))), rfl⟩, trivial⟩
      · rw [hb3]
        have z3 : ¬ (s.name.size : Int) > n := of_decide_eq_false hb3
        refine g_run rfl rfl (s_fieldAddr rfl rfl fa33_11 rfl) ?_
        refine g_run rfl rfl (s_fieldAddr rfl rfl fa31_1 rfl) ?_
        refine g_run rfl rfl (s_load_imm rfl rfl rfl tA9 tS9 rfl rfl) ?_
        refine g_run rfl rfl (s_lenS rfl rfl Tryd.underlying9) ?_
        refine g_run rfl rfl (s_mv_imm rfl rfl) ?_
        refine g_run rfl rfl (s_gtI rfl rfl rfl) ?_
        refine g_u (s_pick_f rfl rfl rfl) ?_
        refine g_nil ?_
        refine normal_thn ?_
        refine aw_cond rfl (fun hb4 => ?_) (fun hb4 => ?_)
        · skip
          have z4 : (s.note.size : Int) > n := of_decide_eq_true hb4
          refine aw_seq ?_
          refine aw_region ?_
          refine g_u (s_as_imm rfl rfl) ?_
          refine g_nil ?_
          refine normal_thn ?_
          refine aw_ret ?_
          refine ret_thn ?_
          exact ⟨⟨(rfl : toAV (Al.look _ _) = some _).trans (congrArg some (by (exact congrArg iv (by unfold leftS; first | (rw [if_pos (by omega)]; done) | (rw [if_neg (by omega), g4, gfin]; done) | (rw [if_neg (by omega), g4, leftL_out hi2 (by omega) hk2]; done) | (rw [if_neg (by omega), h4, leftE_out hi (by omega) hk]; exact (leftL_neg _ (by omega)).symm))))), rfl⟩, trivial⟩
        · skip
          have z4 : ¬ (s.note.size : Int) > n := of_decide_eq_false hb4
          have bm := leftAs_bd' s.attrs (n - 1 - s.state.size - s.name.size - s.note.size)
          have ew : leftAs s.attrs (IntKind.i64.wrap (IntKind.i64.wrap (IntKind.i64.wrap (IntKind.i64.wrap (n - 1) - s.state.size) - s.name.size) - s.note.size)) = leftAs s.attrs (n - 1 - s.state.size - s.name.size - s.note.size) := by rw [wrap64 (n := n - 1) (by omega) (by omega), wrap64 (n := n - 1 - s.state.size) (by omega) (by omega), wrap64 (n := n - 1 - s.state.size - s.name.size) (by omega) (by omega), wrap64 (by omega) (by omega)]
          refine aw_skip ?_
          refine normal_thn ?_
          refine aw_seq ?_
          refine aw_region ?_
          refine g_u (s_fieldAddr rfl rfl fa33_8 rfl) ?_
          refine g_u (s_load_imm rfl rfl rfl tA27 tS27 rfl rfl) ?_
          refine g_u (s_mv_imm rfl rfl) ?_
          refine g_u (s_sub rfl rfl rfl) ?_
          refine g_u (s_fieldAddr rfl rfl fa33_3 rfl) ?_
          refine g_u (s_load_imm rfl rfl rfl tA9 tS9 rfl rfl) ?_
          refine g_u (s_lenS rfl rfl Tryd.underlying9) ?_
          refine g_u (s_sub rfl rfl rfl) ?_
          refine g_u (s_fieldAddr rfl rfl fa33_4 rfl) ?_
          refine g_u (s_load_imm rfl rfl rfl tA9 tS9 rfl rfl) ?_
          refine g_u (s_lenS rfl rfl Tryd.underlying9) ?_
          refine g_u (s_sub rfl rfl rfl) ?_
          refine g_u (s_fieldAddr rfl rfl fa33_11 rfl) ?_
          refine g_u (s_fieldAddr rfl rfl fa31_1 rfl) ?_
          refine g_u (s_load_imm rfl rfl rfl tA9 tS9 rfl rfl) ?_
          refine g_u (s_lenS rfl rfl Tryd.underlying9) ?_
          refine g_u (s_sub rfl rfl rfl) ?_
          refine g_u (s_call1 (leftAs_c _ _ ⟨by ((try simp only [decide_eq_true_eq, decide_eq_false_iff_not, bne_iff_ne, ne_eq, beq_iff_eq, bne_eq_false_iff_eq, beq_eq_false_iff_ne, Bool.not_eq_true', Bool.not_eq_false', gt_iff_lt, ge_iff_le] at *); (repeat simp (disch := omega) only [wrap64, wrap32] at *)); omega, by ((try simp only [decide_eq_true_eq, decide_eq_false_iff_not, bne_iff_ne, ne_eq, beq_iff_eq, bne_eq_false_iff_eq, beq_eq_false_iff_ne, Bool.not_eq_true', Bool.not_eq_false', gt_iff_lt, ge_iff_le] at *); (repeat simp (disch := omega) only [wrap64, wrap32] at *)); omega⟩) rfl rfl) ?_
          refine g_u (s_as_imm rfl rfl) ?_
          refine g_nil ?_
          refine normal_thn ?_
          refine aw_seq ?_
          refine aw_seq ?_
          refine aw_region ?_
          refine g_u (s_as_imm rfl rfl) ?_
          refine g_nil ?_
          refine normal_thn ?_
          refine aw_block ?_
          refine aw_loop' (fun j : Nat × Int => [(2, .ptr 1002 0), (1002, .box 33 (.imm s.av)), (1, .imm (iv j.2)), (5, .imm (iv (j.1 : Int)))]) (fun j => j.1 ≤ s.events.length ∧ (-1000000000000 ≤ j.2 ∧ j.2 ≤ 1000000000) ∧ ((j.1 : Int) ≤ leftAs s.attrs (n - 1 - s.state.size - s.name.size - s.note.size) - j.2) ∧ leftE s.events (leftAs s.attrs (n - 1 - s.state.size - s.name.size - s.note.size)) = leftE (s.events.drop j.1) j.2) (fun j => s.events.length - j.1) (⟨0, leftAs s.attrs (n - 1 - s.state.size - s.name.size - s.note.size)⟩) ?_ ⟨rfl, rfl, look_int rfl (by rw [ew]), rfl, trivial⟩ ?_
          · exact ⟨Nat.zero_le _, ⟨by have := bm.2.1; omega, by omega⟩, by simp, rfl⟩
          · rintro ⟨i, m⟩ ⟨h1, h2, h3, h4⟩; dsimp only at h1 h2 h3 h4
            refine aw_seq ?_
            refine aw_seq ?_
            refine aw_region ?_
            refine g_u (s_mv_imm rfl rfl) ?_
            refine g_u (s_fieldAddr rfl rfl fa33_9 rfl) ?_
            refine g_u (s_load_imm rfl rfl rfl tA28 tS28 rfl rfl) ?_
            refine g_u (s_lenL rfl rfl Tryd.underlying28) ?_
            refine g_u (s_ltI rfl rfl rfl) ?_
            refine g_u (s_mv_imm rfl rfl) ?_
            refine g_case (t := 54) rfl ?_
            rintro (hb5 | hb5)
            · rw [hb5]
              have hi : i < s.events.length := by have := of_decide_eq_true hb5; (try simp only [List.length_map] at this); omega
              refine g_run rfl rfl (s_mv_imm rfl rfl) ?_
              refine g_run rfl rfl (s_geI rfl rfl rfl) ?_
              refine g_u (s_pick_t rfl rfl rfl) ?_
              refine g_nil ?_
              refine normal_thn ?_
              refine aw_cond rfl (fun hb6 => ?_) (fun hb6 => ?_)
              · skip
                have hs : ¬ m < 0 := by have := of_decide_eq_true hb6; omega
                refine aw_skip ?_
                refine normal_thn ?_
                refine aw_seq ?_
                refine aw_block ?_
                refine aw_seq ?_
                refine aw_seq ?_
                refine aw_region ?_
                refine g_u (s_fieldAddr rfl rfl fa33_9 rfl) ?_
                refine g_u (s_load_imm rfl rfl rfl tA28 tS28 rfl rfl) ?_
                refine g_u (s_mv_imm rfl rfl) ?_
                refine g_u (s_indexAddr rfl rfl rfl Tryd.underlying28 tS70 (by omega) (ixE hi)) ?_
                refine g_u (s_fieldAddr_cp rfl rfl fa70_1 rfl rfl) ?_
                refine g_u (s_load_cp rfl rfl tA9 tS9 rfl rfl) ?_
                refine g_u (s_lenS rfl rfl Tryd.underlying9) ?_
                refine g_u (s_mv_imm rfl rfl) ?_
                refine g_u (s_gtI rfl rfl rfl) ?_
                refine g_nil ?_
                refine normal_thn ?_
                refine aw_cond rfl (fun hb7 => ?_) (fun hb7 => ?_)
                · skip
                  have hk : ((nthE s.events i).name.size : Int) > m := of_decide_eq_true hb7
                  refine aw_seq ?_
                  refine aw_region ?_
                  refine g_u (s_as_imm rfl rfl) ?_
                  refine g_nil ?_
                  refine normal_thn ?_
                  refine aw_ret ?_
                  refine ret_thn ?_
                  refine ret_blk ?_
                  refine ret_thn ?_
                  refine ret_thn ?_
                  refine ret_blk ?_
                  refine ret_thn ?_
                  exact ⟨⟨(rfl : toAV (Al.look _ _) = some _).trans (congrArg some (by (exact congrArg iv (by unfold leftS; first | (rw [if_pos (by omega)]; done) | (rw [if_neg (by omega), g4, gfin]; done) | (rw [if_neg (by omega), g4, leftL_out hi2 (by omega) hk2]; done) | (rw [if_neg (by omega), h4, leftE_out hi (by omega) hk]; exact (leftL_neg _ (by omega)).symm))))), rfl⟩, trivial⟩
                · skip
                  have hk : ¬ ((nthE s.events i).name.size : Int) > m := of_decide_eq_false hb7
                  refine aw_skip ?_
                  refine normal_thn ?_
                  refine aw_draw mixed ?_
                  refine g_u (s_fieldAddr rfl rfl fa33_9 rfl) ?_
                  refine g_u (s_load_imm rfl rfl rfl tA28 tS28 rfl rfl) ?_
                  refine g_u (s_mv_imm rfl rfl) ?_
                  refine g_u (s_indexAddr rfl rfl rfl Tryd.underlying28 tS70 (by omega) (ixE hi)) ?_
                  refine g_u (s_fieldAddr_cp rfl rfl fa70_2 rfl rfl) ?_
                  refine g_u (s_load_cp rfl rfl tA27 tS27 rfl rfl) ?_
                  refine g_u (s_mv_imm rfl rfl) ?_
                  refine g_u (s_sub rfl rfl rfl) ?_
                  refine g_u (s_fieldAddr rfl rfl fa33_9 rfl) ?_
                  refine g_u (s_load_imm rfl rfl rfl tA28 tS28 rfl rfl) ?_
                  refine g_u (s_mv_imm rfl rfl) ?_
                  refine g_u (s_indexAddr rfl rfl rfl Tryd.underlying28 tS70 (by omega) (ixE hi)) ?_
                  refine g_u (s_fieldAddr_cp rfl rfl fa70_1 rfl rfl) ?_
                  refine g_u (s_load_cp rfl rfl tA9 tS9 rfl rfl) ?_
                  refine g_u (s_lenS rfl rfl Tryd.underlying9) ?_
                  refine g_u (s_sub rfl rfl rfl) ?_
                  refine g_u (s_call1 (leftAs_c _ _ ⟨by ((try simp only [decide_eq_true_eq, decide_eq_false_iff_not, bne_iff_ne, ne_eq, beq_iff_eq, bne_eq_false_iff_eq, beq_eq_false_iff_ne, Bool.not_eq_true', Bool.not_eq_false', gt_iff_lt, ge_iff_le] at *); (repeat simp (disch := omega) only [wrap64, wrap32] at *)); omega, by ((try simp only [decide_eq_true_eq, decide_eq_false_iff_not, bne_iff_ne, ne_eq, beq_iff_eq, bne_eq_false_iff_eq, beq_eq_false_iff_ne, Bool.not_eq_true', Bool.not_eq_false', gt_iff_lt, ge_iff_le] at *); (repeat simp (disch := omega) only [wrap64, wrap32] at *)); omega⟩) rfl rfl) ?_
                  refine g_u (s_as_imm rfl rfl) ?_
                  refine g_nil ⟨by kernel_rfl, ?_⟩
                  refine normal_blk ?_
                  refine normal_thn ?_
                  refine aw_region ?_
                  refine g_u (s_mv_imm rfl rfl) ?_
                  refine g_u (s_add rfl rfl rfl) ?_
                  refine g_u (s_as_imm rfl rfl) ?_
                  refine g_nil ?_
                  refine normal_thn ?_
                  have ed := leftE_drop (m := m) hi (by omega) hk
                  have bl := leftAs_bd' (nthE s.events i).attrs (m - 1 - (nthE s.events i).name.size)
                  refine ⟨⟨i + 1, leftAs (nthE s.events i).attrs (m - 1 - (nthE s.events i).name.size)⟩, ⟨hi, ⟨by dsimp only; omega, by dsimp only; omega⟩, by dsimp only; omega, by dsimp only; rw [h4, ed]⟩, ⟨rfl, rfl, look_int rfl (by dsimp only; rw [wrap64 (n := m - 1) (by omega) (by omega), wrap64 (by omega) (by omega)]), look_int rfl (by rw [wrap64 (by omega) (by omega)]; rfl), trivial⟩, by dsimp only; omega⟩
              · skip
                have hs : m < 0 := by have := of_decide_eq_false hb6; omega
                have hm : leftE s.events (leftAs s.attrs (n - 1 - s.state.size - s.name.size - s.note.size)) = m := by rw [h4]; exact leftE_neg _ hs
                refine aw_exit ?_
                refine exit_thn ?_
                refine exit_thn ?_
                refine exit_blk ?_
                refine normal_thn ?_
                refine aw_seq ?_
                refine aw_seq ?_
                refine aw_region ?_
                refine g_u (s_as_imm rfl rfl) ?_
                refine g_nil ?_
                refine normal_thn ?_
                refine aw_block ?_
                refine aw_loop' (fun j : Nat × Int => [(2, .ptr 1002 0), (1002, .box 33 (.imm s.av)), (1, .imm (iv j.2)), (6, .imm (iv (j.1 : Int)))]) (fun j => j.1 ≤ s.links.length ∧ (-1000000000000 ≤ j.2 ∧ j.2 ≤ 1000000000) ∧ ((j.1 : Int) ≤ leftE s.events (leftAs s.attrs (n - 1 - s.state.size - s.name.size - s.note.size)) - j.2) ∧ leftL s.links (leftE s.events (leftAs s.attrs (n - 1 - s.state.size - s.name.size - s.note.size))) = leftL (s.links.drop j.1) j.2) (fun j => s.links.length - j.1) (⟨0, m⟩) ?_ ⟨rfl, rfl, rfl, rfl, trivial⟩ ?_
                · exact ⟨Nat.zero_le _, h2, by rw [hm]; simp, by rw [hm]; rfl⟩
                · rintro ⟨i2, m2⟩ ⟨g1, g2, g3, g4⟩; dsimp only at g1 g2 g3 g4
                  refine aw_seq ?_
                  refine aw_seq ?_
                  refine aw_region ?_
                  refine g_u (s_mv_imm rfl rfl) ?_
                  refine g_u (s_fieldAddr rfl rfl fa33_10 rfl) ?_
                  refine g_u (s_load_imm rfl rfl rfl tA29 tS29 rfl rfl) ?_
                  refine g_u (s_lenL rfl rfl Tryd.underlying29) ?_
                  refine g_u (s_ltI rfl rfl rfl) ?_
                  refine g_u (s_mv_imm rfl rfl) ?_
                  refine g_case (t := 91) rfl ?_
                  rintro (hb8 | hb8)
                  · rw [hb8]
                    have hi2 : i2 < s.links.length := by have := of_decide_eq_true hb8; (try simp only [List.length_map] at this); omega
                    refine g_run rfl rfl (s_mv_imm rfl rfl) ?_
                    refine g_run rfl rfl (s_geI rfl rfl rfl) ?_
                    refine g_u (s_pick_t rfl rfl rfl) ?_
                    refine g_nil ?_
                    refine normal_thn ?_
                    refine aw_cond rfl (fun hb9 => ?_) (fun hb9 => ?_)
                    · skip
                      have hs2 : ¬ m2 < 0 := by have := of_decide_eq_true hb9; omega
                      refine aw_skip ?_
                      refine normal_thn ?_
                      refine aw_seq ?_
                      refine aw_block ?_
                      refine aw_seq ?_
                      refine aw_seq ?_
                      refine aw_region ?_
                      refine g_u (s_fieldAddr rfl rfl fa33_10 rfl) ?_
                      refine g_u (s_load_imm rfl rfl rfl tA29 tS29 rfl rfl) ?_
                      refine g_u (s_mv_imm rfl rfl) ?_
                      refine g_u (s_indexAddr rfl rfl rfl Tryd.underlying29 tS72 (by omega) (ixL hi2)) ?_
                      refine g_u (s_fieldAddr_cp rfl rfl fa72_2 rfl rfl) ?_
                      refine g_u (s_load_cp rfl rfl tA9 tS9 rfl rfl) ?_
                      refine g_u (s_lenS rfl rfl Tryd.underlying9) ?_
                      refine g_u (s_mv_imm rfl rfl) ?_
                      refine g_u (s_gtI rfl rfl rfl) ?_
                      refine g_nil ?_
                      refine normal_thn ?_
                      refine aw_cond rfl (fun hb10 => ?_) (fun hb10 => ?_)
                      · skip
                        have hk2 : ((nthL s.links i2).state.size : Int) > m2 := of_decide_eq_true hb10
                        refine aw_seq ?_
                        refine aw_region ?_
                        refine g_u (s_as_imm rfl rfl) ?_
                        refine g_nil ?_
                        refine normal_thn ?_
                        refine aw_ret ?_
                        refine ret_thn ?_
                        refine ret_blk ?_
                        refine ret_thn ?_
                        refine ret_thn ?_
                        refine ret_blk ?_
                        refine ret_thn ?_
                        exact ⟨⟨(rfl : toAV (Al.look _ _) = some _).trans (congrArg some (by (exact congrArg iv (by unfold leftS; first | (rw [if_pos (by omega)]; done) | (rw [if_neg (by omega), g4, gfin]; done) | (rw [if_neg (by omega), g4, leftL_out hi2 (by omega) hk2]; done) | (rw [if_neg (by omega), h4, leftE_out hi (by omega) hk]; exact (leftL_neg _ (by omega)).symm))))), rfl⟩, trivial⟩
                      · skip
                        have hk2 : ¬ ((nthL s.links i2).state.size : Int) > m2 := of_decide_eq_false hb10
                        refine aw_skip ?_
                        refine normal_thn ?_
                        refine aw_draw mixed ?_
                        refine g_u (s_fieldAddr rfl rfl fa33_10 rfl) ?_
                        refine g_u (s_load_imm rfl rfl rfl tA29 tS29 rfl rfl) ?_
                        refine g_u (s_mv_imm rfl rfl) ?_
                        refine g_u (s_indexAddr rfl rfl rfl Tryd.underlying29 tS72 (by omega) (ixL hi2)) ?_
                        refine g_u (s_fieldAddr_cp rfl rfl fa72_3 rfl rfl) ?_
                        refine g_u (s_load_cp rfl rfl tA27 tS27 rfl rfl) ?_
                        refine g_u (s_mv_imm rfl rfl) ?_
                        refine g_u (s_sub rfl rfl rfl) ?_
                        refine g_u (s_fieldAddr rfl rfl fa33_10 rfl) ?_
                        refine g_u (s_load_imm rfl rfl rfl tA29 tS29 rfl rfl) ?_
                        refine g_u (s_mv_imm rfl rfl) ?_
                        refine g_u (s_indexAddr rfl rfl rfl Tryd.underlying29 tS72 (by omega) (ixL hi2)) ?_
                        refine g_u (s_fieldAddr_cp rfl rfl fa72_2 rfl rfl) ?_
                        refine g_u (s_load_cp rfl rfl tA9 tS9 rfl rfl) ?_
                        refine g_u (s_lenS rfl rfl Tryd.underlying9) ?_
                        refine g_u (s_sub rfl rfl rfl) ?_
                        refine g_u (s_call1 (leftAs_c _ _ ⟨by ((try simp only [decide_eq_true_eq, decide_eq_false_iff_not, bne_iff_ne, ne_eq, beq_iff_eq, bne_eq_false_iff_eq, beq_eq_false_iff_ne, Bool.not_eq_true', Bool.not_eq_false', gt_iff_lt, ge_iff_le] at *); (repeat simp (disch := omega) only [wrap64, wrap32] at *)); omega, by ((try simp only [decide_eq_true_eq, decide_eq_false_iff_not, bne_iff_ne, ne_eq, beq_iff_eq, bne_eq_false_iff_eq, beq_eq_false_iff_ne, Bool.not_eq_true', Bool.not_eq_false', gt_iff_lt, ge_iff_le] at *); (repeat simp (disch := omega) only [wrap64, wrap32] at *)); omega⟩) rfl rfl) ?_
                        refine g_u (s_as_imm rfl rfl) ?_
                        refine g_nil ⟨by kernel_rfl, ?_⟩
                        refine normal_blk ?_
                        refine normal_thn ?_
                        refine aw_region ?_
                        refine g_u (s_mv_imm rfl rfl) ?_
                        refine g_u (s_add rfl rfl rfl) ?_
                        refine g_u (s_as_imm rfl rfl) ?_
                        refine g_nil ?_
                        refine normal_thn ?_
                        have ed := leftL_drop (m := m2) hi2 (by omega) hk2
                        have bl := leftAs_bd' (nthL s.links i2).attrs (m2 - 1 - (nthL s.links i2).state.size)
                        refine ⟨⟨i2 + 1, leftAs (nthL s.links i2).attrs (m2 - 1 - (nthL s.links i2).state.size)⟩, ⟨hi2, ⟨by dsimp only; omega, by dsimp only; omega⟩, by dsimp only; omega, by dsimp only; rw [g4, ed]⟩, ⟨rfl, rfl, look_int rfl (by dsimp only; rw [wrap64 (n := m2 - 1) (by omega) (by omega), wrap64 (by omega) (by omega)]), look_int rfl (by rw [wrap64 (by omega) (by omega)]; rfl), trivial⟩, by dsimp only; omega⟩
                    · skip
                      have hs2 : m2 < 0 := by have := of_decide_eq_false hb9; omega
                      have gfin : leftL (s.links.drop i2) m2 = m2 := leftL_neg _ hs2
                      refine aw_exit ?_
                      refine exit_thn ?_
                      refine exit_thn ?_
                      refine exit_blk ?_
                      refine normal_thn ?_
                      refine aw_seq ?_
                      refine aw_region ?_
                      refine g_u (s_mv_imm rfl rfl) ?_
                      refine g_u (s_as_imm rfl rfl) ?_
                      refine g_nil ?_
                      refine normal_thn ?_
                      refine aw_ret ?_
                      exact ⟨⟨(rfl : toAV (Al.look _ _) = some _).trans (congrArg some (by (exact congrArg iv (by unfold leftS; first | (rw [if_pos (by omega)]; done) | (rw [if_neg (by omega), g4, gfin]; done) | (rw [if_neg (by omega), g4, leftL_out hi2 (by omega) hk2]; done) | (rw [if_neg (by omega), h4, leftE_out hi (by omega) hk]; exact (leftL_neg _ (by omega)).symm))))), rfl⟩, trivial⟩
                  · rw [hb8]
                    have hin2 : i2 = s.links.length := by have := of_decide_eq_false hb8; (try simp only [List.length_map] at this); omega
                    have gfin : leftL (s.links.drop i2) m2 = m2 := by rw [hin2, List.drop_length]; rfl
                    refine g_skip rfl rfl rfl ?_
                    refine g_skip rfl rfl rfl ?_
                    refine g_u (s_pick_f rfl rfl rfl) ?_
                    refine g_nil ?_
                    refine normal_thn ?_
                    refine aw_cond_false rfl ?_
                    refine aw_exit ?_
                    refine exit_thn ?_
                    refine exit_thn ?_
                    refine exit_blk ?_
                    refine normal_thn ?_
                    refine aw_seq ?_
                    refine aw_region ?_
                    refine g_u (s_mv_imm rfl rfl) ?_
                    refine g_u (s_as_imm rfl rfl) ?_
                    refine g_nil ?_
                    refine normal_thn ?_
                    refine aw_ret ?_
                    exact ⟨⟨(rfl : toAV (Al.look _ _) = some _).trans (congrArg some (by (exact congrArg iv (by unfold leftS; first | (rw [if_pos (by omega)]; done) | (rw [if_neg (by omega), g4, gfin]; done) | (rw [if_neg (by omega), g4, leftL_out hi2 (by omega) hk2]; done) | (rw [if_neg (by omega), h4, leftE_out hi (by omega) hk]; exact (leftL_neg _ (by omega)).symm))))), rfl⟩, trivial⟩
            · rw [hb5]
              have hin : i = s.events.length := by have := of_decide_eq_false hb5; (try simp only [List.length_map] at this); omega
              have hm : leftE s.events (leftAs s.attrs (n - 1 - s.state.size - s.name.size - s.note.size)) = m := by rw [h4, hin, List.drop_length]; rfl
              refine g_skip rfl rfl rfl ?_
              refine g_skip rfl rfl rfl ?_
              refine g_u (s_pick_f rfl rfl rfl) ?_
              refine g_nil ?_
              refine normal_thn ?_
              refine aw_cond_false rfl ?_
              refine aw_exit ?_
              refine exit_thn ?_
              refine exit_thn ?_
              refine exit_blk ?_
              refine normal_thn ?_
              refine aw_seq ?_
              refine aw_seq ?_
              refine aw_region ?_
              refine g_u (s_as_imm rfl rfl) ?_
              refine g_nil ?_
              refine normal_thn ?_
              refine aw_block ?_
              refine aw_loop' (fun j : Nat × Int => [(2, .ptr 1002 0), (1002, .box 33 (.imm s.av)), (1, .imm (iv j.2)), (6, .imm (iv (j.1 : Int)))]) (fun j => j.1 ≤ s.links.length ∧ (-1000000000000 ≤ j.2 ∧ j.2 ≤ 1000000000) ∧ ((j.1 : Int) ≤ leftE s.events (leftAs s.attrs (n - 1 - s.state.size - s.name.size - s.note.size)) - j.2) ∧ leftL s.links (leftE s.events (leftAs s.attrs (n - 1 - s.state.size - s.name.size - s.note.size))) = leftL (s.links.drop j.1) j.2) (fun j => s.links.length - j.1) (⟨0, m⟩) ?_ ⟨rfl, rfl, rfl, rfl, trivial⟩ ?_
              · exact ⟨Nat.zero_le _, h2, by rw [hm]; simp, by rw [hm]; rfl⟩
              · rintro ⟨i2, m2⟩ ⟨g1, g2, g3, g4⟩; dsimp only at g1 g2 g3 g4
                refine aw_seq ?_
                refine aw_seq ?_
                refine aw_region ?_
                refine g_u (s_mv_imm rfl rfl) ?_
                refine g_u (s_fieldAddr rfl rfl fa33_10 rfl) ?_
                refine g_u (s_load_imm rfl rfl rfl tA29 tS29 rfl rfl) ?_
                refine g_u (s_lenL rfl rfl Tryd.underlying29) ?_
                refine g_u (s_ltI rfl rfl rfl) ?_
                refine g_u (s_mv_imm rfl rfl) ?_
                refine g_case (t := 91) rfl ?_
                rintro (hb11 | hb11)
                · rw [hb11]
                  have hi2 : i2 < s.links.length := by have := of_decide_eq_true hb11; (try simp only [List.length_map] at this); omega
                  refine g_run rfl rfl (s_mv_imm rfl rfl) ?_
                  refine g_run rfl rfl (s_geI rfl rfl rfl) ?_
                  refine g_u (s_pick_t rfl rfl rfl) ?_
                  refine g_nil ?_
                  refine normal_thn ?_
                  refine aw_cond rfl (fun hb12 => ?_) (fun hb12 => ?_)
                  · skip
                    have hs2 : ¬ m2 < 0 := by have := of_decide_eq_true hb12; omega
                    refine aw_skip ?_
                    refine normal_thn ?_
                    refine aw_seq ?_
                    refine aw_block ?_
                    refine aw_seq ?_
                    refine aw_seq ?_
                    refine aw_region ?_
                    refine g_u (s_fieldAddr rfl rfl fa33_10 rfl) ?_
                    refine g_u (s_load_imm rfl rfl rfl tA29 tS29 rfl rfl) ?_
                    refine g_u (s_mv_imm rfl rfl) ?_
                    refine g_u (s_indexAddr rfl rfl rfl Tryd.underlying29 tS72 (by omega) (ixL hi2)) ?_
                    refine g_u (s_fieldAddr_cp rfl rfl fa72_2 rfl rfl) ?_
                    refine g_u (s_load_cp rfl rfl tA9 tS9 rfl rfl) ?_
                    refine g_u (s_lenS rfl rfl Tryd.underlying9) ?_
                    refine g_u (s_mv_imm rfl rfl) ?_
                    refine g_u (s_gtI rfl rfl rfl) ?_
                    refine g_nil ?_
                    refine normal_thn ?_
                    refine aw_cond rfl (fun hb13 => ?_) (fun hb13 => ?_)
                    · skip
                      have hk2 : ((nthL s.links i2).state.size : Int) > m2 := of_decide_eq_true hb13
                      refine aw_seq ?_
                      refine aw_region ?_
                      refine g_u (s_as_imm rfl rfl) ?_
                      refine g_nil ?_
                      refine normal_thn ?_
                      refine aw_ret ?_
                      refine ret_thn ?_
                      refine ret_blk ?_
                      refine ret_thn ?_
                      refine ret_thn ?_
                      refine ret_blk ?_
                      refine ret_thn ?_
                      exact ⟨⟨(rfl : toAV (Al.look _ _) = some _).trans (congrArg some (by (exact congrArg iv (by unfold leftS; first | (rw [if_pos (by omega)]; done) | (rw [if_neg (by omega), g4, gfin]; done) | (rw [if_neg (by omega), g4, leftL_out hi2 (by omega) hk2]; done) | (rw [if_neg (by omega), h4, leftE_out hi (by omega) hk]; exact (leftL_neg _ (by omega)).symm))))), rfl⟩, trivial⟩
                    · skip
                      have hk2 : ¬ ((nthL s.links i2).state.size : Int) > m2 := of_decide_eq_false hb13
                      refine aw_skip ?_
                      refine normal_thn ?_
                      refine aw_draw mixed ?_
                      refine g_u (s_fieldAddr rfl rfl fa33_10 rfl) ?_
                      refine g_u (s_load_imm rfl rfl rfl tA29 tS29 rfl rfl) ?_
                      refine g_u (s_mv_imm rfl rfl) ?_
                      refine g_u (s_indexAddr rfl rfl rfl Tryd.underlying29 tS72 (by omega) (ixL hi2)) ?_
                      refine g_u (s_fieldAddr_cp rfl rfl fa72_3 rfl rfl) ?_
                      refine g_u (s_load_cp rfl rfl tA27 tS27 rfl rfl) ?_
                      refine g_u (s_mv_imm rfl rfl) ?_
                      refine g_u (s_sub rfl rfl rfl) ?_
                      refine g_u (s_fieldAddr rfl rfl fa33_10 rfl) ?_
                      refine g_u (s_load_imm rfl rfl rfl tA29 tS29 rfl rfl) ?_
                      refine g_u (s_mv_imm rfl rfl) ?_
                      refine g_u (s_indexAddr rfl rfl rfl Tryd.underlying29 tS72 (by omega) (ixL hi2)) ?_
                      refine g_u (s_fieldAddr_cp rfl rfl fa72_2 rfl rfl) ?_
                      refine g_u (s_load_cp rfl rfl tA9 tS9 rfl rfl) ?_
                      refine g_u (s_lenS rfl rfl Tryd.underlying9) ?_
                      refine g_u (s_sub rfl rfl rfl) ?_
                      refine g_u (s_call1 (leftAs_c _ _ ⟨by ((try simp only [decide_eq_true_eq, decide_eq_false_iff_not, bne_iff_ne, ne_eq, beq_iff_eq, bne_eq_false_iff_eq, beq_eq_false_iff_ne, Bool.not_eq_true', Bool.not_eq_false', gt_iff_lt, ge_iff_le] at *); (repeat simp (disch := omega) only [wrap64, wrap32] at *)); omega, by ((try simp only [decide_eq_true_eq, decide_eq_false_iff_not, bne_iff_ne, ne_eq, beq_iff_eq, bne_eq_false_iff_eq, beq_eq_false_iff_ne, Bool.not_eq_true', Bool.not_eq_false', gt_iff_lt, ge_iff_le] at *); (repeat simp (disch := omega) only [wrap64, wrap32] at *)); omega⟩) rfl rfl) ?_
                      refine g_u (s_as_imm rfl rfl) ?_
                      refine g_nil ⟨by kernel_rfl, ?_⟩
                      refine normal_blk ?_
                      refine normal_thn ?_
                      refine aw_region ?_
                      refine g_u (s_mv_imm rfl rfl) ?_
                      refine g_u (s_add rfl rfl rfl) ?_
                      refine g_u (s_as_imm rfl rfl) ?_
                      refine g_nil ?_
                      refine normal_thn ?_
                      have ed := leftL_drop (m := m2) hi2 (by omega) hk2
                      have bl := leftAs_bd' (nthL s.links i2).attrs (m2 - 1 - (nthL s.links i2).state.size)
                      refine ⟨⟨i2 + 1, leftAs (nthL s.links i2).attrs (m2 - 1 - (nthL s.links i2).state.size)⟩, ⟨hi2, ⟨by dsimp only; omega, by dsimp only; omega⟩, by dsimp only; omega, by dsimp only; rw [g4, ed]⟩, ⟨rfl, rfl, look_int rfl (by dsimp only; rw [wrap64 (n := m2 - 1) (by omega) (by omega), wrap64 (by omega) (by omega)]), look_int rfl (by rw [wrap64 (by omega) (by omega)]; rfl), trivial⟩, by dsimp only; omega⟩
                  · skip
                    have hs2 : m2 < 0 := by have := of_decide_eq_false hb12; omega
                    have gfin : leftL (s.links.drop i2) m2 = m2 := leftL_neg _ hs2
                    refine aw_exit ?_
                    refine exit_thn ?_
                    refine exit_thn ?_
                    refine exit_blk ?_
                    refine normal_thn ?_
                    refine aw_seq ?_
                    refine aw_region ?_
                    refine g_u (s_mv_imm rfl rfl) ?_
                    refine g_u (s_as_imm rfl rfl) ?_
                    refine g_nil ?_
                    refine normal_thn ?_
                    refine aw_ret ?_
                    exact ⟨⟨(rfl : toAV (Al.look _ _) = some _).trans (congrArg some (by (exact congrArg iv (by unfold leftS; first | (rw [if_pos (by omega)]; done) | (rw [if_neg (by omega), g4, gfin]; done) | (rw [if_neg (by omega), g4, leftL_out hi2 (by omega) hk2]; done) | (rw [if_neg (by omega), h4, leftE_out hi (by omega) hk]; exact (leftL_neg _ (by omega)).symm))))), rfl⟩, trivial⟩
                · rw [hb11]
                  have hin2 : i2 = s.links.length := by have := of_decide_eq_false hb11; (try simp only [List.length_map] at this); omega
                  have gfin : leftL (s.links.drop i2) m2 = m2 := by rw [hin2, List.drop_length]; rfl
                  refine g_skip rfl rfl rfl ?_
                  refine g_skip rfl rfl rfl ?_
                  refine g_u (s_pick_f rfl rfl rfl) ?_
                  refine g_nil ?_
                  refine normal_thn ?_
                  refine aw_cond_false rfl ?_
                  refine aw_exit ?_
                  refine exit_thn ?_
                  refine exit_thn ?_
                  refine exit_blk ?_
                  refine normal_thn ?_
                  refine aw_seq ?_
                  refine aw_region ?_
                  refine g_u (s_mv_imm rfl rfl) ?_
                  refine g_u (s_as_imm rfl rfl) ?_
                  refine g_nil ?_
                  refine normal_thn ?_
                  refine aw_ret ?_
                  exact ⟨⟨(rfl : toAV (Al.look _ _) = some _).trans (congrArg some (by (exact congrArg iv (by unfold leftS; first | (rw [if_pos (by omega)]; done) | (rw [if_neg (by omega), g4, gfin]; done) | (rw [if_neg (by omega), g4, leftL_out hi2 (by omega) hk2]; done) | (rw [if_neg (by omega), h4, leftE_out hi (by omega) hk]; exact (leftL_neg _ (by omega)).symm))))), rfl⟩, trivial⟩

end Go.Proofs

namespace Go.Proofs
open Go Go.Al

theorem leftS_le {s : GSpan} {n : Int} (h : ¬ leftS s n < 0) : (s.wt : Int) ≤ n := by have := leftS_wt (s := s) (n := n) (by omega); omega
end Go.Proofs

namespace Go.Proofs
open Go Go.Al
set_option maxRecDepth 10000
end Go.Proofs

namespace Go.Proofs
open Go Go.Al
set_option maxRecDepth 10000
set_option maxHeartbeats 400000 in
theorem length_c (c : Int) : PCall Tryd.prog Γ0 153 [cv c] [iv (lengthM c)] := by
  refine pcall_of Tryd.func153 rfl Tryd.ntmps153 (by kernel_rfl) rfl fun w0 I0 G0 => ?_
  refine aw_seq ?_
  refine aw_region ?_
  refine g_u (s_as_imm rfl rfl) ?_
  refine g_nil ?_
  refine normal_thn ?_
  refine aw_seq ?_
  refine aw_block ?_
  refine aw_seq ?_
  refine aw_region ?_
  refine g_u (s_mv_imm rfl rfl) ?_
  refine g_u (s_ltI rfl rfl rfl) ?_
  refine g_u (s_as_imm rfl rfl) ?_
  refine g_nil ?_
  refine normal_thn ?_
  refine aw_cond rfl (fun hb1 => ?_) (fun hb1 => ?_)
  · skip
    refine aw_seq ?_
    refine aw_region ?_
    refine g_u (s_as_imm rfl rfl) ?_
    refine g_nil ?_
    refine normal_thn ?_
    refine aw_ret ?_
    refine ret_blk ?_
    refine ret_thn ?_
    exact ⟨⟨(rfl : toAV (Al.look _ _) = some _).trans (congrArg some (by (unfold lengthM; (((try simp only [decide_eq_true_eq, decide_eq_false_iff_not, bne_iff_ne, ne_eq, beq_iff_eq, bne_eq_false_iff_eq, beq_eq_false_iff_ne, Bool.not_eq_true', Bool.not_eq_false', gt_iff_lt, ge_iff_le] at *); (repeat simp (disch := omega) only [wrap64, wrap32] at *)); (repeat' split); all_goals first | rfl | omega)))), rfl⟩, trivial⟩
  · skip
    refine aw_seq ?_
    refine aw_region ?_
    refine g_u (s_mv_imm rfl rfl) ?_
    refine g_u (s_ltI rfl rfl rfl) ?_
    refine g_u (s_as_imm rfl rfl) ?_
    refine g_nil ?_
    refine normal_thn ?_
    refine aw_cond rfl (fun hb2 => ?_) (fun hb2 => ?_)
    · skip
      refine aw_seq ?_
      refine aw_region ?_
      refine g_u (s_as_imm rfl rfl) ?_
      refine g_nil ?_
      refine normal_thn ?_
      refine aw_ret ?_
      refine ret_blk ?_
      refine ret_thn ?_
      exact ⟨⟨(rfl : toAV (Al.look _ _) = some _).trans (congrArg some (by (unfold lengthM; (((try simp only [decide_eq_true_eq, decide_eq_false_iff_not, bne_iff_ne, ne_eq, beq_iff_eq, bne_eq_false_iff_eq, beq_eq_false_iff_ne, Bool.not_eq_true', Bool.not_eq_false', gt_iff_lt, ge_iff_le] at *); (repeat simp (disch := omega) only [wrap64, wrap32] at *)); (repeat' split); all_goals first | rfl | omega)))), rfl⟩, trivial⟩
    · skip
      refine aw_seq ?_
      refine aw_region ?_
      refine g_u (s_mv_imm rfl rfl) ?_
      refine g_u (s_ltI rfl rfl rfl) ?_
      refine g_u (s_as_imm rfl rfl) ?_
      refine g_nil ?_
      refine normal_thn ?_
      refine aw_cond rfl (fun hb3 => ?_) (fun hb3 => ?_)
      · skip
        refine aw_seq ?_
        refine aw_region ?_
        refine g_u (s_as_imm rfl rfl) ?_
        refine g_nil ?_
        refine normal_thn ?_
        refine aw_ret ?_
        refine ret_blk ?_
        refine ret_thn ?_
        exact ⟨⟨(rfl : toAV (Al.look _ _) = some _).trans (congrArg some (by (unfold lengthM; (((try simp only [decide_eq_true_eq, decide_eq_false_iff_not, bne_iff_ne, ne_eq, beq_iff_eq, bne_eq_false_iff_eq, beq_eq_false_iff_ne, Bool.not_eq_true', Bool.not_eq_false', gt_iff_lt, ge_iff_le] at *); (repeat simp (disch := omega) only [wrap64, wrap32] at *)); (repeat' split); all_goals first | rfl | omega)))), rfl⟩, trivial⟩
      · skip
        refine aw_seq ?_
        refine aw_region ?_
        refine g_u (s_mv_imm rfl rfl) ?_
        refine g_u (s_ltI rfl rfl rfl) ?_
        refine g_u (s_as_imm rfl rfl) ?_
        refine g_nil ?_
        refine normal_thn ?_
        refine aw_cond rfl (fun hb4 => ?_) (fun hb4 => ?_)
        · skip
          refine aw_seq ?_
          refine aw_region ?_
          refine g_u (s_as_imm rfl rfl) ?_
          refine g_nil ?_
          refine normal_thn ?_
          refine aw_ret ?_
          refine ret_blk ?_
          refine ret_thn ?_
          exact ⟨⟨(rfl : toAV (Al.look _ _) = some _).trans (congrArg some (by (unfold lengthM; (((try simp only [decide_eq_true_eq, decide_eq_false_iff_not, bne_iff_ne, ne_eq, beq_iff_eq, bne_eq_false_iff_eq, beq_eq_false_iff_ne, Bool.not_eq_true', Bool.not_eq_false', gt_iff_lt, ge_iff_le] at *); (repeat simp (disch := omega) only [wrap64, wrap32] at *)); (repeat' split); all_goals first | rfl | omega)))), rfl⟩, trivial⟩
        · skip
          refine aw_seq ?_
          refine aw_region ?_
          refine g_u (s_mv_imm rfl rfl) ?_
          refine g_u (s_ltI rfl rfl rfl) ?_
          refine g_u (s_as_imm rfl rfl) ?_
          refine g_nil ?_
          refine normal_thn ?_
          refine aw_cond rfl (fun hb5 => ?_) (fun hb5 => ?_)
          · skip
            refine aw_seq ?_
            refine aw_region ?_
            refine g_u (s_as_imm rfl rfl) ?_
            refine g_nil ?_
            refine normal_thn ?_
            refine aw_ret ?_
            refine ret_blk ?_
            refine ret_thn ?_
            exact ⟨⟨(rfl : toAV (Al.look _ _) = some _).trans (congrArg some (by (unfold lengthM; (((try simp only [decide_eq_true_eq, decide_eq_false_iff_not, bne_iff_ne, ne_eq, beq_iff_eq, bne_eq_false_iff_eq, beq_eq_false_iff_ne, Bool.not_eq_true', Bool.not_eq_false', gt_iff_lt, ge_iff_le] at *); (repeat simp (disch := omega) only [wrap64, wrap32] at *)); (repeat' split); all_goals first | rfl | omega)))), rfl⟩, trivial⟩
          · skip
            refine aw_skip ?_
            refine normal_blk ?_
            refine normal_thn ?_
            refine aw_seq ?_
            refine aw_region ?_
            refine g_u (s_as_imm rfl rfl) ?_
            refine g_nil ?_
            refine normal_thn ?_
            refine aw_ret ?_
            exact ⟨⟨(rfl : toAV (Al.look _ _) = some _).trans (congrArg some (by (unfold lengthM; (((try simp only [decide_eq_true_eq, decide_eq_false_iff_not, bne_iff_ne, ne_eq, beq_iff_eq, bne_eq_false_iff_eq, beq_eq_false_iff_ne, Bool.not_eq_true', Bool.not_eq_false', gt_iff_lt, ge_iff_le] at *); (repeat simp (disch := omega) only [wrap64, wrap32] at *)); (repeat' split); all_goals first | rfl | omega)))), rfl⟩, trivial⟩

set_option maxHeartbeats 400000 in
theorem least_c (k : Int) : PCall Tryd.prog Γ0 154 [iv k] [rv (leastM k)] := by
  refine pcall_of Tryd.func154 rfl Tryd.ntmps154 (by kernel_rfl) rfl fun w0 I0 G0 => ?_
  refine aw_seq ?_
  refine aw_region ?_
  refine g_u (s_as_imm rfl rfl) ?_
  refine g_nil ?_
  refine normal_thn ?_
  refine aw_seq ?_
  refine aw_seq ?_
  refine aw_region ?_
  refine g_u (s_mv_imm rfl rfl) ?_
  refine g_nil ?_
  refine normal_thn ?_
  refine aw_block ?_
  refine aw_seq ?_
  refine aw_region ?_
  refine g_u (s_eqI rfl rfl rfl) ?_
  refine g_u (s_as_imm rfl rfl) ?_
  refine g_nil ?_
  refine normal_thn ?_
  refine aw_cond rfl (fun hb1 => ?_) (fun hb1 => ?_)
  · skip
    refine aw_seq ?_
    refine aw_region ?_
    refine g_u (s_as_imm rfl rfl) ?_
    refine g_nil ?_
    refine normal_thn ?_
    refine aw_ret ?_
    refine ret_blk ?_
    refine ret_thn ?_
    exact ⟨⟨(rfl : toAV (Al.look _ _) = some _).trans (congrArg some (by (unfold leastM; (((try simp only [decide_eq_true_eq, decide_eq_false_iff_not, bne_iff_ne, ne_eq, beq_iff_eq, bne_eq_false_iff_eq, beq_eq_false_iff_ne, Bool.not_eq_true', Bool.not_eq_false', gt_iff_lt, ge_iff_le] at *); (repeat simp (disch := omega) only [wrap64, wrap32] at *)); (repeat' split); all_goals first | rfl | omega)))), rfl⟩, trivial⟩
  · skip
    refine aw_seq ?_
    refine aw_region ?_
    refine g_u (s_eqI rfl rfl rfl) ?_
    refine g_u (s_as_imm rfl rfl) ?_
    refine g_nil ?_
    refine normal_thn ?_
    refine aw_cond rfl (fun hb2 => ?_) (fun hb2 => ?_)
    · skip
      refine aw_seq ?_
      refine aw_region ?_
      refine g_u (s_as_imm rfl rfl) ?_
      refine g_nil ?_
      refine normal_thn ?_
      refine aw_ret ?_
      refine ret_blk ?_
      refine ret_thn ?_
      exact ⟨⟨(rfl : toAV (Al.look _ _) = some _).trans (congrArg some (by (unfold leastM; (((try simp only [decide_eq_true_eq, decide_eq_false_iff_not, bne_iff_ne, ne_eq, beq_iff_eq, bne_eq_false_iff_eq, beq_eq_false_iff_ne, Bool.not_eq_true', Bool.not_eq_false', gt_iff_lt, ge_iff_le] at *); (repeat simp (disch := omega) only [wrap64, wrap32] at *)); (repeat' split); all_goals first | rfl | omega)))), rfl⟩, trivial⟩
    · skip
      refine aw_seq ?_
      refine aw_region ?_
      refine g_u (s_eqI rfl rfl rfl) ?_
      refine g_u (s_as_imm rfl rfl) ?_
      refine g_nil ?_
      refine normal_thn ?_
      refine aw_cond rfl (fun hb3 => ?_) (fun hb3 => ?_)
      · skip
        refine aw_seq ?_
        refine aw_region ?_
        refine g_u (s_as_imm rfl rfl) ?_
        refine g_nil ?_
        refine normal_thn ?_
        refine aw_ret ?_
        refine ret_blk ?_
        refine ret_thn ?_
        exact ⟨⟨(rfl : toAV (Al.look _ _) = some _).trans (congrArg some (by (unfold leastM; (((try simp only [decide_eq_true_eq, decide_eq_false_iff_not, bne_iff_ne, ne_eq, beq_iff_eq, bne_eq_false_iff_eq, beq_eq_false_iff_ne, Bool.not_eq_true', Bool.not_eq_false', gt_iff_lt, ge_iff_le] at *); (repeat simp (disch := omega) only [wrap64, wrap32] at *)); (repeat' split); all_goals first | rfl | omega)))), rfl⟩, trivial⟩
      · skip
        refine aw_skip ?_
        refine normal_blk ?_
        refine normal_thn ?_
        refine aw_seq ?_
        refine aw_region ?_
        refine g_u (s_as_imm rfl rfl) ?_
        refine g_nil ?_
        refine normal_thn ?_
        refine aw_ret ?_
        exact ⟨⟨(rfl : toAV (Al.look _ _) = some _).trans (congrArg some (by (unfold leastM; (((try simp only [decide_eq_true_eq, decide_eq_false_iff_not, bne_iff_ne, ne_eq, beq_iff_eq, bne_eq_false_iff_eq, beq_eq_false_iff_ne, Bool.not_eq_true', Bool.not_eq_false', gt_iff_lt, ge_iff_le] at *); (repeat simp (disch := omega) only [wrap64, wrap32] at *)); (repeat' split); all_goals first | rfl | omega)))), rfl⟩, trivial⟩

set_option maxHeartbeats 400000 in
theorem is_c (r : Int) : PCall Tryd.prog Γ0 155 [rv r] [bv (isM r)] := by
  refine pcall_of Tryd.func155 rfl Tryd.ntmps155 (by kernel_rfl) rfl fun w0 I0 G0 => ?_
  refine aw_seq ?_
  refine aw_region ?_
  refine g_u (s_as_imm rfl rfl) ?_
  refine g_nil ?_
  refine normal_thn ?_
  refine aw_seq ?_
  refine aw_region ?_
  refine g_u (s_mv_imm rfl rfl) ?_
  refine g_u (s_geI rfl rfl rfl) ?_
  refine g_u (s_mv_imm rfl rfl) ?_
  refine g_case (t := 5) rfl ?_
  rintro (hb1 | hb1)
  · rw [hb1]
    refine g_run rfl rfl (s_mv_imm rfl rfl) ?_
    refine g_run rfl rfl (s_ltI rfl rfl rfl) ?_
    refine g_u (s_pick_t rfl rfl rfl) ?_
    refine g_u (s_mv_imm rfl rfl) ?_
    refine g_case (t := 9) rfl ?_
    rintro (hb2 | hb2)
    · rw [hb2]
      refine g_skip rfl rfl rfl ?_
      refine g_skip rfl rfl rfl ?_
      refine g_skip rfl rfl rfl ?_
      refine g_skip' rfl rfl rfl ?_
      refine g_skip' rfl rfl rfl ?_
      refine g_skip rfl rfl rfl ?_
      refine g_u (s_pick_t rfl rfl rfl) ?_
      refine g_u (s_as_imm rfl rfl) ?_
      refine g_nil ?_
      refine normal_thn ?_
      refine aw_ret ?_
      exact ⟨⟨(rfl : toAV (Al.look _ _) = some _).trans (congrArg some (by (unfold isM; ((try simp only [decide_eq_true_eq, decide_eq_false_iff_not, bne_iff_ne, ne_eq, beq_iff_eq, bne_eq_false_iff_eq, beq_eq_false_iff_ne, Bool.not_eq_true', Bool.not_eq_false', gt_iff_lt, ge_iff_le] at *); (repeat simp (disch := omega) only [wrap64, wrap32] at *)); refine congrArg bv ?_; first | exact (decide_eq_true (by omega)).symm | exact (decide_eq_false (by omega)).symm | exact decide_eq_decide.2 (by omega)))), rfl⟩, trivial⟩
    · rw [hb2]
      refine g_run rfl rfl (s_mv_imm rfl rfl) ?_
      refine g_run rfl rfl (s_geI rfl rfl rfl) ?_
      refine g_run rfl rfl (s_mv_imm rfl rfl) ?_
      refine g_case (t := 12) rfl ?_
      rintro (hb3 | hb3)
      · rw [hb3]
        refine g_run rfl rfl (s_mv_imm rfl rfl) ?_
        refine g_run rfl rfl (s_ltI rfl rfl rfl) ?_
        refine g_run rfl rfl (s_pick_t rfl rfl rfl) ?_
        refine g_u (s_pick_f rfl rfl rfl) ?_
        refine g_u (s_as_imm rfl rfl) ?_
        refine g_nil ?_
        refine normal_thn ?_
        refine aw_ret ?_
        exact ⟨⟨(rfl : toAV (Al.look _ _) = some _).trans (congrArg some (by (unfold isM; ((try simp only [decide_eq_true_eq, decide_eq_false_iff_not, bne_iff_ne, ne_eq, beq_iff_eq, bne_eq_false_iff_eq, beq_eq_false_iff_ne, Bool.not_eq_true', Bool.not_eq_false', gt_iff_lt, ge_iff_le] at *); (repeat simp (disch := omega) only [wrap64, wrap32] at *)); refine congrArg bv ?_; first | exact (decide_eq_true (by omega)).symm | exact (decide_eq_false (by omega)).symm | exact decide_eq_decide.2 (by omega)))), rfl⟩, trivial⟩
      · rw [hb3]
        refine g_skip rfl rfl rfl ?_
        refine g_skip rfl rfl rfl ?_
        refine g_run rfl rfl (s_pick_f rfl rfl rfl) ?_
        refine g_u (s_pick_f rfl rfl rfl) ?_
        refine g_u (s_as_imm rfl rfl) ?_
        refine g_nil ?_
        refine normal_thn ?_
        refine aw_ret ?_
        exact ⟨⟨(rfl : toAV (Al.look _ _) = some _).trans (congrArg some (by (unfold isM; ((try simp only [decide_eq_true_eq, decide_eq_false_iff_not, bne_iff_ne, ne_eq, beq_iff_eq, bne_eq_false_iff_eq, beq_eq_false_iff_ne, Bool.not_eq_true', Bool.not_eq_false', gt_iff_lt, ge_iff_le] at *); (repeat simp (disch := omega) only [wrap64, wrap32] at *)); refine congrArg bv ?_; first | exact (decide_eq_true (by omega)).symm | exact (decide_eq_false (by omega)).symm | exact decide_eq_decide.2 (by omega)))), rfl⟩, trivial⟩
  · rw [hb1]
    refine g_skip rfl rfl rfl ?_
    refine g_skip rfl rfl rfl ?_
    refine g_u (s_pick_f rfl rfl rfl) ?_
    refine g_u (s_mv_imm rfl rfl) ?_
    refine g_run rfl rfl (s_mv_imm rfl rfl) ?_
    refine g_run rfl rfl (s_geI rfl rfl rfl) ?_
    refine g_run rfl rfl (s_mv_imm rfl rfl) ?_
    refine g_case (t := 12) rfl ?_
    rintro (hb4 | hb4)
    · rw [hb4]
      refine g_run rfl rfl (s_mv_imm rfl rfl) ?_
      refine g_run rfl rfl (s_ltI rfl rfl rfl) ?_
      refine g_run rfl rfl (s_pick_t rfl rfl rfl) ?_
      refine g_u (s_pick_f rfl rfl rfl) ?_
      refine g_u (s_as_imm rfl rfl) ?_
      refine g_nil ?_
      refine normal_thn ?_
      refine aw_ret ?_
      exact ⟨⟨(rfl : toAV (Al.look _ _) = some _).trans (congrArg some (by (unfold isM; ((try simp only [decide_eq_true_eq, decide_eq_false_iff_not, bne_iff_ne, ne_eq, beq_iff_eq, bne_eq_false_iff_eq, beq_eq_false_iff_ne, Bool.not_eq_true', Bool.not_eq_false', gt_iff_lt, ge_iff_le] at *); (repeat simp (disch := omega) only [wrap64, wrap32] at *)); refine congrArg bv ?_; first | exact (decide_eq_true (by omega)).symm | exact (decide_eq_false (by omega)).symm | exact decide_eq_decide.2 (by omega)))), rfl⟩, trivial⟩
    · rw [hb4]
      refine g_skip rfl rfl rfl ?_
      refine g_skip rfl rfl rfl ?_
      refine g_run rfl rfl (s_pick_f rfl rfl rfl) ?_
      refine g_u (s_pick_f rfl rfl rfl) ?_
      refine g_u (s_as_imm rfl rfl) ?_
      refine g_nil ?_
      refine normal_thn ?_
      refine aw_ret ?_
      exact ⟨⟨(rfl : toAV (Al.look _ _) = some _).trans (congrArg some (by (unfold isM; ((try simp only [decide_eq_true_eq, decide_eq_false_iff_not, bne_iff_ne, ne_eq, beq_iff_eq, bne_eq_false_iff_eq, beq_eq_false_iff_ne, Bool.not_eq_true', Bool.not_eq_false', gt_iff_lt, ge_iff_le] at *); (repeat simp (disch := omega) only [wrap64, wrap32] at *)); refine congrArg bv ?_; first | exact (decide_eq_true (by omega)).symm | exact (decide_eq_false (by omega)).symm | exact decide_eq_decide.2 (by omega)))), rfl⟩, trivial⟩

set_option maxHeartbeats 400000 in
theorem rune_c (s : ByteArray) (p : Int) (hs : s.size < 9223372036854775808) : PCall Tryd.prog Γ0 126 [sv s, iv p] [rv (runeM s p).1, iv (runeM s p).2] := by
  have hk := lengthM_range (bAt s p)
  refine pcall_of Tryd.func126 rfl Tryd.ntmps126 (by kernel_rfl) rfl fun w0 I0 G0 => ?_
  refine aw_seq ?_
  refine aw_region ?_
  refine g_u (s_as_imm rfl rfl) ?_
  refine g_u (s_as_imm rfl rfl) ?_
  refine g_nil ?_
  refine normal_thn ?_
  refine aw_seq ?_
  refine aw_seq ?_
  refine aw_region ?_
  refine g_u (s_mv_imm rfl rfl) ?_
  refine g_u (s_ltI rfl rfl rfl) ?_
  refine g_u (s_mv_imm rfl rfl) ?_
  refine g_case (t := 11) rfl ?_
  rintro (hb1 | hb1)
  · rw [hb1]
    refine g_skip rfl rfl rfl ?_
    refine g_skip rfl rfl rfl ?_
    refine g_skip rfl rfl rfl ?_
    refine g_skip rfl rfl rfl ?_
    refine g_u (s_pick_t rfl rfl rfl) ?_
    refine g_nil ?_
    refine normal_thn ?_
    refine aw_cond_true rfl ?_
    refine aw_seq ?_
    refine aw_region ?_
    refine g_u (s_as_imm rfl rfl) ?_
    refine g_u (s_as_imm rfl rfl) ?_
    refine g_nil ?_
    refine normal_thn ?_
    refine aw_ret ?_
    refine ret_thn ?_
    exact ⟨⟨(rfl : toAV (Al.look _ _) = some _).trans (congrArg some (by (unfold runeM; ((try simp only [decide_eq_true_eq, decide_eq_false_iff_not, bne_iff_ne, ne_eq, beq_iff_eq, bne_eq_false_iff_eq, beq_eq_false_iff_ne, Bool.not_eq_true', Bool.not_eq_false', gt_iff_lt, ge_iff_le] at *); (repeat simp (disch := omega) only [wrap64, wrap32] at *)); first | (rw [if_pos (by omega)]; first | done | rfl) | (rw [if_neg (by omega), if_pos (by omega)]; first | done | rfl) | (rw [if_neg (by omega), if_neg (by omega), if_pos (by omega)]; first | done | rfl)))), rfl⟩, ⟨(rfl : toAV (Al.look _ _) = some _).trans (congrArg some (by (unfold runeM; ((try simp only [decide_eq_true_eq, decide_eq_false_iff_not, bne_iff_ne, ne_eq, beq_iff_eq, bne_eq_false_iff_eq, beq_eq_false_iff_ne, Bool.not_eq_true', Bool.not_eq_false', gt_iff_lt, ge_iff_le] at *); (repeat simp (disch := omega) only [wrap64, wrap32] at *)); first | (rw [if_pos (by omega)]; first | done | rfl) | (rw [if_neg (by omega), if_pos (by omega)]; first | done | rfl) | (rw [if_neg (by omega), if_neg (by omega), if_pos (by omega)]; first | done | rfl)))), rfl⟩, trivial⟩
  · rw [hb1]
    refine g_run rfl rfl (s_mv_imm rfl rfl) ?_
    refine g_run rfl rfl (s_mv_imm rfl rfl) ?_
    refine g_run rfl rfl (s_lenS rfl rfl Tryd.underlying9) ?_
    refine g_run rfl rfl (s_geI rfl rfl rfl) ?_
    refine g_u (s_pick_f rfl rfl rfl) ?_
    refine g_nil ?_
    refine normal_thn ?_
    refine aw_cond rfl (fun hb2 => ?_) (fun hb2 => ?_)
    · skip
      refine aw_seq ?_
      refine aw_region ?_
      refine g_u (s_as_imm rfl rfl) ?_
      refine g_u (s_as_imm rfl rfl) ?_
      refine g_nil ?_
      refine normal_thn ?_
      refine aw_ret ?_
      refine ret_thn ?_
      exact ⟨⟨(rfl : toAV (Al.look _ _) = some _).trans (congrArg some (by (unfold runeM; ((try simp only [decide_eq_true_eq, decide_eq_false_iff_not, bne_iff_ne, ne_eq, beq_iff_eq, bne_eq_false_iff_eq, beq_eq_false_iff_ne, Bool.not_eq_true', Bool.not_eq_false', gt_iff_lt, ge_iff_le] at *); (repeat simp (disch := omega) only [wrap64, wrap32] at *)); first | (rw [if_pos (by omega)]; first | done | rfl) | (rw [if_neg (by omega), if_pos (by omega)]; first | done | rfl) | (rw [if_neg (by omega), if_neg (by omega), if_pos (by omega)]; first | done | rfl)))), rfl⟩, ⟨(rfl : toAV (Al.look _ _) = some _).trans (congrArg some (by (unfold runeM; ((try simp only [decide_eq_true_eq, decide_eq_false_iff_not, bne_iff_ne, ne_eq, beq_iff_eq, bne_eq_false_iff_eq, beq_eq_false_iff_ne, Bool.not_eq_true', Bool.not_eq_false', gt_iff_lt, ge_iff_le] at *); (repeat simp (disch := omega) only [wrap64, wrap32] at *)); first | (rw [if_pos (by omega)]; first | done | rfl) | (rw [if_neg (by omega), if_pos (by omega)]; first | done | rfl) | (rw [if_neg (by omega), if_neg (by omega), if_pos (by omega)]; first | done | rfl)))), rfl⟩, trivial⟩
    · skip
      refine aw_skip ?_
      refine normal_thn ?_
      refine aw_seq ?_
      refine aw_region ?_
      refine g_u (s_mv_imm rfl rfl) ?_
      refine g_u (s_mv_imm rfl rfl) ?_
      refine g_u (si_ix rfl rfl rfl Tryd.underlying9 (by ((try simp only [decide_eq_true_eq, decide_eq_false_iff_not, bne_iff_ne, ne_eq, beq_iff_eq, bne_eq_false_iff_eq, beq_eq_false_iff_ne, Bool.not_eq_true', Bool.not_eq_false', gt_iff_lt, ge_iff_le] at *); (repeat simp (disch := omega) only [wrap64, wrap32] at *)); omega)) ?_
      refine g_u (s_call1 (length_c _) rfl rfl) ?_
      refine g_u (s_as_imm rfl rfl) ?_
      refine g_nil ?_
      refine normal_thn ?_
      refine aw_seq ?_
      refine aw_seq ?_
      refine aw_region ?_
      refine g_u (s_mv_imm rfl rfl) ?_
      refine g_u (s_eqI rfl rfl rfl) ?_
      refine g_u (s_mv_imm rfl rfl) ?_
      refine g_case (t := 23) rfl ?_
      rintro (hb3 | hb3)
      · rw [hb3]
        refine g_skip rfl rfl rfl ?_
        refine g_skip rfl rfl rfl ?_
        refine g_skip rfl rfl rfl ?_
        refine g_skip rfl rfl rfl ?_
        refine g_skip rfl rfl rfl ?_
        refine g_skip rfl rfl rfl ?_
        refine g_u (s_pick_t rfl rfl rfl) ?_
        refine g_nil ?_
        refine normal_thn ?_
        refine aw_cond_true rfl ?_
        refine aw_seq ?_
        refine aw_region ?_
        refine g_u (s_as_imm rfl rfl) ?_
        refine g_u (s_as_imm rfl rfl) ?_
        refine g_nil ?_
        refine normal_thn ?_
        refine aw_ret ?_
        refine ret_thn ?_
        exact ⟨⟨(rfl : toAV (Al.look _ _) = some _).trans (congrArg some (by (unfold runeM; ((try simp only [decide_eq_true_eq, decide_eq_false_iff_not, bne_iff_ne, ne_eq, beq_iff_eq, bne_eq_false_iff_eq, beq_eq_false_iff_ne, Bool.not_eq_true', Bool.not_eq_false', gt_iff_lt, ge_iff_le] at *); (repeat simp (disch := omega) only [wrap64, wrap32] at *)); first | (rw [if_pos (by omega)]; first | done | rfl) | (rw [if_neg (by omega), if_pos (by omega)]; first | done | rfl) | (rw [if_neg (by omega), if_neg (by omega), if_pos (by omega)]; first | done | rfl)))), rfl⟩, ⟨(rfl : toAV (Al.look _ _) = some _).trans (congrArg some (by (unfold runeM; ((try simp only [decide_eq_true_eq, decide_eq_false_iff_not, bne_iff_ne, ne_eq, beq_iff_eq, bne_eq_false_iff_eq, beq_eq_false_iff_ne, Bool.not_eq_true', Bool.not_eq_false', gt_iff_lt, ge_iff_le] at *); (repeat simp (disch := omega) only [wrap64, wrap32] at *)); first | (rw [if_pos (by omega)]; first | done | rfl) | (rw [if_neg (by omega), if_pos (by omega)]; first | done | rfl) | (rw [if_neg (by omega), if_neg (by omega), if_pos (by omega)]; first | done | rfl)))), rfl⟩, trivial⟩
      · rw [hb3]
        refine g_run rfl rfl (s_mv_imm rfl rfl) ?_
        refine g_run rfl rfl (s_mv_imm rfl rfl) ?_
        refine g_run rfl rfl (s_lenS rfl rfl Tryd.underlying9) ?_
        refine g_run rfl rfl (s_mv_imm rfl rfl) ?_
        refine g_run rfl rfl (s_sub rfl rfl rfl) ?_
        refine g_run rfl rfl (s_gtI rfl rfl rfl) ?_
        refine g_u (s_pick_f rfl rfl rfl) ?_
        refine g_nil ?_
        refine normal_thn ?_
        refine aw_cond rfl (fun hb4 => ?_) (fun hb4 => ?_)
        · skip
          refine aw_seq ?_
          refine aw_region ?_
          refine g_u (s_as_imm rfl rfl) ?_
          refine g_u (s_as_imm rfl rfl) ?_
          refine g_nil ?_
          refine normal_thn ?_
          refine aw_ret ?_
          refine ret_thn ?_
          exact ⟨⟨(rfl : toAV (Al.look _ _) = some _).trans (congrArg some (by (unfold runeM; ((try simp only [decide_eq_true_eq, decide_eq_false_iff_not, bne_iff_ne, ne_eq, beq_iff_eq, bne_eq_false_iff_eq, beq_eq_false_iff_ne, Bool.not_eq_true', Bool.not_eq_false', gt_iff_lt, ge_iff_le] at *); (repeat simp (disch := omega) only [wrap64, wrap32] at *)); first | (rw [if_pos (by omega)]; first | done | rfl) | (rw [if_neg (by omega), if_pos (by omega)]; first | done | rfl) | (rw [if_neg (by omega), if_neg (by omega), if_pos (by omega)]; first | done | rfl)))), rfl⟩, ⟨(rfl : toAV (Al.look _ _) = some _).trans (congrArg some (by (unfold runeM; ((try simp only [decide_eq_true_eq, decide_eq_false_iff_not, bne_iff_ne, ne_eq, beq_iff_eq, bne_eq_false_iff_eq, beq_eq_false_iff_ne, Bool.not_eq_true', Bool.not_eq_false', gt_iff_lt, ge_iff_le] at *); (repeat simp (disch := omega) only [wrap64, wrap32] at *)); first | (rw [if_pos (by omega)]; first | done | rfl) | (rw [if_neg (by omega), if_pos (by omega)]; first | done | rfl) | (rw [if_neg (by omega), if_neg (by omega), if_pos (by omega)]; first | done | rfl)))), rfl⟩, trivial⟩
        · skip
          refine aw_skip ?_
          refine normal_thn ?_
          refine aw_seq ?_
          refine aw_seq ?_
          refine aw_region ?_
          refine g_u (s_mv_imm rfl rfl) ?_
          refine g_u (s_eqI rfl rfl rfl) ?_
          refine g_nil ?_
          refine normal_thn ?_
          refine aw_cond rfl (fun hb5 => ?_) (fun hb5 => ?_)
          · skip
            refine aw_seq ?_
            refine aw_region ?_
            refine g_u (s_mv_imm rfl rfl) ?_
            refine g_u (s_mv_imm rfl rfl) ?_
            refine g_u (si_ix rfl rfl rfl Tryd.underlying9 (by ((try simp only [decide_eq_true_eq, decide_eq_false_iff_not, bne_iff_ne, ne_eq, beq_iff_eq, bne_eq_false_iff_eq, beq_eq_false_iff_ne, Bool.not_eq_true', Bool.not_eq_false', gt_iff_lt, ge_iff_le] at *); (repeat simp (disch := omega) only [wrap64, wrap32] at *)); omega)) ?_
            refine g_u (s_cvII rfl rfl Tryd.underlying5 Tryd.underlying21) ?_
            refine g_u (s_as_imm rfl rfl) ?_
            refine g_u (s_as_imm rfl rfl) ?_
            refine g_nil ?_
            refine normal_thn ?_
            refine aw_ret ?_
            refine ret_thn ?_
            exact ⟨⟨(rfl : toAV (Al.look _ _) = some _).trans (congrArg some (by (unfold runeM; ((try simp only [decide_eq_true_eq, decide_eq_false_iff_not, bne_iff_ne, ne_eq, beq_iff_eq, bne_eq_false_iff_eq, beq_eq_false_iff_ne, Bool.not_eq_true', Bool.not_eq_false', gt_iff_lt, ge_iff_le] at *); (repeat simp (disch := omega) only [wrap64, wrap32] at *)); first | (rw [if_pos (by omega)]; first | done | rfl) | (rw [if_neg (by omega), if_pos (by omega)]; first | done | rfl) | (rw [if_neg (by omega), if_neg (by omega), if_pos (by omega)]; first | done | rfl)))), rfl⟩, ⟨(rfl : toAV (Al.look _ _) = some _).trans (congrArg some (by (unfold runeM; ((try simp only [decide_eq_true_eq, decide_eq_false_iff_not, bne_iff_ne, ne_eq, beq_iff_eq, bne_eq_false_iff_eq, beq_eq_false_iff_ne, Bool.not_eq_true', Bool.not_eq_false', gt_iff_lt, ge_iff_le] at *); (repeat simp (disch := omega) only [wrap64, wrap32] at *)); first | (rw [if_pos (by omega)]; first | done | rfl) | (rw [if_neg (by omega), if_pos (by omega)]; first | done | rfl) | (rw [if_neg (by omega), if_neg (by omega), if_pos (by omega)]; first | done | rfl)))), rfl⟩, trivial⟩
          · skip
            refine aw_skip ?_
            refine normal_thn ?_
            refine aw_seq ?_
            refine aw_draw mixed ?_
            refine g_u (s_mv_imm rfl rfl) ?_
            refine g_u (s_mv_imm rfl rfl) ?_
            refine g_u (si_ix rfl rfl rfl Tryd.underlying9 (by ((try simp only [decide_eq_true_eq, decide_eq_false_iff_not, bne_iff_ne, ne_eq, beq_iff_eq, bne_eq_false_iff_eq, beq_eq_false_iff_ne, Bool.not_eq_true', Bool.not_eq_false', gt_iff_lt, ge_iff_le] at *); (repeat simp (disch := omega) only [wrap64, wrap32] at *)); omega)) ?_
            refine g_u (s_cvII rfl rfl Tryd.underlying5 Tryd.underlying21) ?_
            refine g_u (s_mv_imm rfl rfl) ?_
            refine g_u (s_shr rfl rfl rfl (by first | decide | omega | (((try simp only [decide_eq_true_eq, decide_eq_false_iff_not, bne_iff_ne, ne_eq, beq_iff_eq, bne_eq_false_iff_eq, beq_eq_false_iff_ne, Bool.not_eq_true', Bool.not_eq_false', gt_iff_lt, ge_iff_le] at *); (repeat simp (disch := omega) only [wrap64, wrap32] at *)); omega))) ?_
            refine g_u (s_and rfl rfl rfl) ?_
            refine g_u (s_as_imm rfl rfl) ?_
            refine g_nil ⟨by kernel_rfl, ?_⟩
            refine normal_thn ?_
            refine aw_seq ?_
            refine aw_seq ?_
            refine aw_region ?_
            refine g_u (s_as_imm rfl rfl) ?_
            refine g_nil ?_
            refine normal_thn ?_
            refine aw_block ?_
            refine aw_loop' (fun j : Nat × Int × Int => [(0, .imm (sv s)), (1, .imm (iv p)), (4, .imm (rv j.2.2)), (6, .imm (iv (lengthM (bAt s p)))), (7, .imm (iv j.2.1))]) (fun j => 1 ≤ j.2.1 ∧ j.2.1 + j.1 = lengthM (bAt s p) ∧ runeLoop s p j.1 j.2.1 j.2.2 = runeLoop s p (lengthM (bAt s p) - 1).toNat 1 (r0M (bAt s p) (lengthM (bAt s p)))) (fun j => j.1) (⟨(lengthM (bAt s p) - 1).toNat, 1, r0M (bAt s p) (lengthM (bAt s p))⟩) ?_ ⟨rfl, rfl, rfl, rfl, rfl, trivial⟩ ?_
            · exact ⟨Int.le_refl 1, by ((try simp only [decide_eq_true_eq, decide_eq_false_iff_not, bne_iff_ne, ne_eq, beq_iff_eq, bne_eq_false_iff_eq, beq_eq_false_iff_ne, Bool.not_eq_true', Bool.not_eq_false', gt_iff_lt, ge_iff_le] at *); (repeat simp (disch := omega) only [wrap64, wrap32] at *)); omega, rfl⟩
            · rintro ⟨n, i, r⟩ ⟨h1, h2, h3⟩; dsimp only at h1 h2 h3
              refine aw_seq ?_
              refine aw_seq ?_
              refine aw_region ?_
              refine g_u (s_mv_imm rfl rfl) ?_
              refine g_u (s_mv_imm rfl rfl) ?_
              refine g_u (s_ltI rfl rfl rfl) ?_
              refine g_nil ?_
              refine normal_thn ?_
              refine aw_cond rfl (fun hb6 => ?_) (fun hb6 => ?_)
              · skip
                refine aw_skip ?_
                refine normal_thn ?_
                refine aw_seq ?_
                refine aw_block ?_
                refine aw_seq ?_
                refine aw_region ?_
                refine g_u (s_mv_imm rfl rfl) ?_
                refine g_u (s_mv_imm rfl rfl) ?_
                refine g_u (s_mv_imm rfl rfl) ?_
                refine g_u (s_add rfl rfl rfl) ?_
                refine g_u (si_ix rfl rfl rfl Tryd.underlying9 (by ((try simp only [decide_eq_true_eq, decide_eq_false_iff_not, bne_iff_ne, ne_eq, beq_iff_eq, bne_eq_false_iff_eq, beq_eq_false_iff_ne, Bool.not_eq_true', Bool.not_eq_false', gt_iff_lt, ge_iff_le] at *); (repeat simp (disch := omega) only [wrap64, wrap32] at *)); omega)) ?_
                refine g_u (s_as_imm rfl rfl) ?_
                refine g_nil ?_
                refine normal_thn ?_
                refine aw_seq ?_
                refine aw_seq ?_
                refine aw_region ?_
                refine g_u (s_mv_imm rfl rfl) ?_
                refine g_u (s_and rfl rfl rfl) ?_
                refine g_u (s_neI rfl rfl rfl) ?_
                refine g_nil ?_
                refine normal_thn ?_
                refine aw_cond rfl (fun hb7 => ?_) (fun hb7 => ?_)
                · skip
                  refine aw_seq ?_
                  refine aw_region ?_
                  refine g_u (s_as_imm rfl rfl) ?_
                  refine g_u (s_as_imm rfl rfl) ?_
                  refine g_nil ?_
                  refine normal_thn ?_
                  refine aw_ret ?_
                  refine ret_thn ?_
                  refine ret_blk ?_
                  refine ret_thn ?_
                  refine ret_thn ?_
                  refine ret_blk ?_
                  refine ret_thn ?_
                  have e1 : IntKind.i64.wrap (p + i) = p + i := by ((try simp only [decide_eq_true_eq, decide_eq_false_iff_not, bne_iff_ne, ne_eq, beq_iff_eq, bne_eq_false_iff_eq, beq_eq_false_iff_ne, Bool.not_eq_true', Bool.not_eq_false', gt_iff_lt, ge_iff_le] at *); (repeat simp (disch := omega) only [wrap64, wrap32] at *))
                  obtain ⟨m, rfl⟩ : ∃ m, n = m + 1 := ⟨n - 1, by ((try simp only [decide_eq_true_eq, decide_eq_false_iff_not, bne_iff_ne, ne_eq, beq_iff_eq, bne_eq_false_iff_eq, beq_eq_false_iff_ne, Bool.not_eq_true', Bool.not_eq_false', gt_iff_lt, ge_iff_le] at *); (repeat simp (disch := omega) only [wrap64, wrap32] at *)); omega⟩
                  rw [e1] at hb7
                  change badM (bAt s (p + i)) = true at hb7
                  rw [runeLoop, if_pos hb7] at h3
                  have E : runeM s p = (0, 0) := by
                    unfold runeM; ((try simp only [decide_eq_true_eq, decide_eq_false_iff_not, bne_iff_ne, ne_eq, beq_iff_eq, bne_eq_false_iff_eq, beq_eq_false_iff_ne, Bool.not_eq_true', Bool.not_eq_false', gt_iff_lt, ge_iff_le] at *); (repeat simp (disch := omega) only [wrap64, wrap32] at *)); rw [if_neg (by omega), if_neg (by omega), if_neg (by omega), ← h3]
                  exact ⟨⟨(rfl : toAV (Al.look _ _) = some _).trans (congrArg some (by rw [E])), rfl⟩, ⟨(rfl : toAV (Al.look _ _) = some _).trans (congrArg some (by rw [E])), rfl⟩, trivial⟩
                · skip
                  refine aw_skip ?_
                  refine normal_thn ?_
                  refine aw_region ?_
                  refine g_u (s_mv_imm rfl rfl) ?_
                  refine g_u (s_shl rfl rfl rfl (by first | decide | omega | (((try simp only [decide_eq_true_eq, decide_eq_false_iff_not, bne_iff_ne, ne_eq, beq_iff_eq, bne_eq_false_iff_eq, beq_eq_false_iff_ne, Bool.not_eq_true', Bool.not_eq_false', gt_iff_lt, ge_iff_le] at *); (repeat simp (disch := omega) only [wrap64, wrap32] at *)); omega))) ?_
                  refine g_u (s_mv_imm rfl rfl) ?_
                  refine g_u (s_and rfl rfl rfl) ?_
                  refine g_u (s_cvII rfl rfl Tryd.underlying5 Tryd.underlying21) ?_
                  refine g_u (s_or rfl rfl rfl) ?_
                  refine g_u (s_as_imm rfl rfl) ?_
                  refine g_nil ?_
                  refine normal_blk ?_
                  refine normal_thn ?_
                  refine aw_region ?_
                  refine g_u (s_mv_imm rfl rfl) ?_
                  refine g_u (s_add rfl rfl rfl) ?_
                  refine g_u (s_as_imm rfl rfl) ?_
                  refine g_nil ?_
                  refine normal_thn ?_
                  have e1 : IntKind.i64.wrap (p + i) = p + i := by ((try simp only [decide_eq_true_eq, decide_eq_false_iff_not, bne_iff_ne, ne_eq, beq_iff_eq, bne_eq_false_iff_eq, beq_eq_false_iff_ne, Bool.not_eq_true', Bool.not_eq_false', gt_iff_lt, ge_iff_le] at *); (repeat simp (disch := omega) only [wrap64, wrap32] at *))
                  have e2 : IntKind.i64.wrap (i + 1) = i + 1 := by ((try simp only [decide_eq_true_eq, decide_eq_false_iff_not, bne_iff_ne, ne_eq, beq_iff_eq, bne_eq_false_iff_eq, beq_eq_false_iff_ne, Bool.not_eq_true', Bool.not_eq_false', gt_iff_lt, ge_iff_le] at *); (repeat simp (disch := omega) only [wrap64, wrap32] at *))
                  obtain ⟨m, rfl⟩ : ∃ m, n = m + 1 := ⟨n - 1, by ((try simp only [decide_eq_true_eq, decide_eq_false_iff_not, bne_iff_ne, ne_eq, beq_iff_eq, bne_eq_false_iff_eq, beq_eq_false_iff_ne, Bool.not_eq_true', Bool.not_eq_false', gt_iff_lt, ge_iff_le] at *); (repeat simp (disch := omega) only [wrap64, wrap32] at *)); omega⟩
                  rw [e1] at hb7
                  change badM (bAt s (p + i)) = false at hb7
                  rw [runeLoop, if_neg (by rw [hb7]; decide)] at h3
                  refine ⟨⟨m, IntKind.i64.wrap (i + 1), stepM r (bAt s (IntKind.i64.wrap (p + i)))⟩, ⟨?_, ?_, ?_⟩, ⟨rfl, rfl, rfl, rfl, rfl, trivial⟩, Nat.lt_succ_self _⟩
                  · show 1 ≤ IntKind.i64.wrap (i + 1)
                    rw [e2]; omega
                  · show IntKind.i64.wrap (i + 1) + (m : Int) = _
                    rw [e2]; omega
                  · show runeLoop s p m (IntKind.i64.wrap (i + 1)) (stepM r (bAt s (IntKind.i64.wrap (p + i)))) = _
                    rw [e1, e2]; exact h3
              · skip
                refine aw_exit ?_
                refine exit_thn ?_
                refine exit_thn ?_
                refine exit_blk ?_
                refine normal_thn ?_
                refine aw_seq ?_
                refine aw_seq ?_
                refine aw_region ?_
                refine g_u (s_mv_imm rfl rfl) ?_
                refine g_u (s_mv_imm rfl rfl) ?_
                refine g_u (s_call1 (least_c _) rfl rfl) ?_
                refine g_u (s_ltI rfl rfl rfl) ?_
                refine g_u (s_mv_imm rfl rfl) ?_
                refine g_case (t := 67) rfl ?_
                rintro (hb8 | hb8)
                · rw [hb8]
                  refine g_skip rfl rfl rfl ?_
                  refine g_skip rfl rfl rfl ?_
                  refine g_skip rfl rfl rfl ?_
                  refine g_u (s_pick_t rfl rfl rfl) ?_
                  refine g_nil ?_
                  refine normal_thn ?_
                  refine aw_cond_true rfl ?_
                  refine aw_seq ?_
                  refine aw_region ?_
                  refine g_u (s_as_imm rfl rfl) ?_
                  refine g_u (s_as_imm rfl rfl) ?_
                  refine g_nil ?_
                  refine normal_thn ?_
                  refine aw_ret ?_
                  refine ret_thn ?_
                  obtain rfl : n = 0 := by ((try simp only [decide_eq_true_eq, decide_eq_false_iff_not, bne_iff_ne, ne_eq, beq_iff_eq, bne_eq_false_iff_eq, beq_eq_false_iff_ne, Bool.not_eq_true', Bool.not_eq_false', gt_iff_lt, ge_iff_le] at *); (repeat simp (disch := omega) only [wrap64, wrap32] at *)); omega
                  change some r = _ at h3
                  have E : runeM s p = (0, 0) := by
                    unfold runeM; ((try simp only [decide_eq_true_eq, decide_eq_false_iff_not, bne_iff_ne, ne_eq, beq_iff_eq, bne_eq_false_iff_eq, beq_eq_false_iff_ne, Bool.not_eq_true', Bool.not_eq_false', gt_iff_lt, ge_iff_le] at *); (repeat simp (disch := omega) only [wrap64, wrap32] at *)); rw [if_neg (by omega), if_neg (by omega), if_neg (by omega), ← h3]; dsimp only; rw [if_pos (.inl (by omega))]
                  exact ⟨⟨(rfl : toAV (Al.look _ _) = some _).trans (congrArg some (by rw [E])), rfl⟩, ⟨(rfl : toAV (Al.look _ _) = some _).trans (congrArg some (by rw [E])), rfl⟩, trivial⟩
                · rw [hb8]
                  refine g_run rfl rfl (s_mv_imm rfl rfl) ?_
                  refine g_run rfl rfl (s_call1 (is_c _) rfl rfl) ?_
                  refine g_run rfl rfl (s_not rfl rfl) ?_
                  refine g_u (s_pick_f rfl rfl rfl) ?_
                  refine g_nil ?_
                  refine normal_thn ?_
                  refine aw_cond rfl (fun hb9 => ?_) (fun hb9 => ?_)
                  · skip
                    refine aw_seq ?_
                    refine aw_region ?_
                    refine g_u (s_as_imm rfl rfl) ?_
                    refine g_u (s_as_imm rfl rfl) ?_
                    refine g_nil ?_
                    refine normal_thn ?_
                    refine aw_ret ?_
                    refine ret_thn ?_
                    obtain rfl : n = 0 := by ((try simp only [decide_eq_true_eq, decide_eq_false_iff_not, bne_iff_ne, ne_eq, beq_iff_eq, bne_eq_false_iff_eq, beq_eq_false_iff_ne, Bool.not_eq_true', Bool.not_eq_false', gt_iff_lt, ge_iff_le] at *); (repeat simp (disch := omega) only [wrap64, wrap32] at *)); omega
                    change some r = _ at h3
                    have E : runeM s p = (0, 0) := by
                      unfold runeM; ((try simp only [decide_eq_true_eq, decide_eq_false_iff_not, bne_iff_ne, ne_eq, beq_iff_eq, bne_eq_false_iff_eq, beq_eq_false_iff_ne, Bool.not_eq_true', Bool.not_eq_false', gt_iff_lt, ge_iff_le] at *); (repeat simp (disch := omega) only [wrap64, wrap32] at *)); rw [if_neg (by omega), if_neg (by omega), if_neg (by omega), ← h3]; dsimp only; rw [if_pos (.inr (by first | assumption | simp_all))]
                    exact ⟨⟨(rfl : toAV (Al.look _ _) = some _).trans (congrArg some (by rw [E])), rfl⟩, ⟨(rfl : toAV (Al.look _ _) = some _).trans (congrArg some (by rw [E])), rfl⟩, trivial⟩
                  · skip
                    refine aw_skip ?_
                    refine normal_thn ?_
                    refine aw_seq ?_
                    refine aw_region ?_
                    refine g_u (s_mv_imm rfl rfl) ?_
                    refine g_u (s_mv_imm rfl rfl) ?_
                    refine g_u (s_as_imm rfl rfl) ?_
                    refine g_u (s_as_imm rfl rfl) ?_
                    refine g_nil ?_
                    refine normal_thn ?_
                    refine aw_ret ?_
                    obtain rfl : n = 0 := by ((try simp only [decide_eq_true_eq, decide_eq_false_iff_not, bne_iff_ne, ne_eq, beq_iff_eq, bne_eq_false_iff_eq, beq_eq_false_iff_ne, Bool.not_eq_true', Bool.not_eq_false', gt_iff_lt, ge_iff_le] at *); (repeat simp (disch := omega) only [wrap64, wrap32] at *)); omega
                    change some r = _ at h3
                    have E : runeM s p = (r, lengthM (bAt s p)) := by
                      unfold runeM; ((try simp only [decide_eq_true_eq, decide_eq_false_iff_not, bne_iff_ne, ne_eq, beq_iff_eq, bne_eq_false_iff_eq, beq_eq_false_iff_ne, Bool.not_eq_true', Bool.not_eq_false', gt_iff_lt, ge_iff_le] at *); (repeat simp (disch := omega) only [wrap64, wrap32] at *)); rw [if_neg (by omega), if_neg (by omega), if_neg (by omega), ← h3]; dsimp only; rw [if_neg (by simp_all)]
                    exact ⟨⟨(rfl : toAV (Al.look _ _) = some _).trans (congrArg some (by rw [E])), rfl⟩, ⟨(rfl : toAV (Al.look _ _) = some _).trans (congrArg some (by rw [E])), rfl⟩, trivial⟩

attribute [local irreducible] runeM rRuneM

set_option maxHeartbeats 400000 in
theorem check_c (s : ByteArray) (hs : s.size < 9223372036854775808) : PCall Tryd.prog Γ0 91 [sv s] [iv (checkM s)] := by
  refine pcall_of Tryd.func91 rfl Tryd.ntmps91 (by kernel_rfl) rfl fun w0 I0 G0 => ?_
  refine aw_seq ?_
  refine aw_region ?_
  refine g_u (s_as_imm rfl rfl) ?_
  refine g_nil ?_
  refine normal_thn ?_
  refine aw_seq ?_
  refine aw_seq ?_
  refine aw_region ?_
  refine g_u (s_as_imm rfl rfl) ?_
  refine g_nil ?_
  refine normal_thn ?_
  refine aw_block ?_
  refine aw_loop' (fun j : Nat × Int × Int => [(0, .imm (sv s)), (3, .imm (iv j.2.1))]) (fun j => 0 ≤ j.2.1 ∧ j.2.1 ≤ s.size ∧ 0 ≤ j.2.2 ∧ j.2.2 ≤ j.2.1 ∧ (s.size : Int) < j.2.1 + j.1 ∧ goM (fM s) s.size j.1 j.2.1 j.2.2 = endM s) (fun j => j.1) (⟨s.size + 1, 0, 0⟩) ?_ ⟨rfl, rfl, trivial⟩ ?_
  · refine ⟨Int.le_refl 0, Int.natCast_nonneg _, Int.le_refl 0, Int.le_refl 0, ?_, rfl⟩; dsimp only; omega
  · rintro ⟨m, q, c⟩ ⟨h1, h2, h3, h4, h5, h6⟩; dsimp only at h1 h2 h3 h4 h5 h6; obtain ⟨m, rfl⟩ : ∃ k, m = k + 1 := ⟨m - 1, by omega⟩; have F := dec_fM s q
    refine aw_seq ?_
    refine aw_seq ?_
    refine aw_region ?_
    refine g_u (s_mv_imm rfl rfl) ?_
    refine g_u (s_mv_imm rfl rfl) ?_
    refine g_u (s_lenS rfl rfl Tryd.underlying9) ?_
    refine g_u (s_ltI rfl rfl rfl) ?_
    refine g_nil ?_
    refine normal_thn ?_
    refine aw_cond rfl (fun hb1 => ?_) (fun hb1 => ?_)
    · skip
      refine aw_skip ?_
      refine normal_thn ?_
      refine aw_block ?_
      refine aw_seq ?_
      refine aw_region ?_
      refine g_u (s_mv_imm rfl rfl) ?_
      refine g_u (s_mv_imm rfl rfl) ?_
      refine g_u (s_call2 (rune_c _ _ (by assumption)) rfl rfl) ?_
      refine g_u (s_mv_tup rfl rfl) ?_
      refine g_u (s_extract rfl rfl rfl rfl) ?_
      refine g_u (s_extract rfl rfl rfl rfl) ?_
      refine g_u (s_as_imm rfl rfl) ?_
      refine g_u (s_as_imm rfl rfl) ?_
      refine g_nil ?_
      refine normal_thn ?_
      refine aw_seq ?_
      refine aw_seq ?_
      refine aw_region ?_
      refine g_u (s_mv_imm rfl rfl) ?_
      refine g_u (s_eqI rfl rfl rfl) ?_
      refine g_nil ?_
      refine normal_thn ?_
      refine aw_cond rfl (fun hb2 => ?_) (fun hb2 => ?_)
      · skip
        refine aw_seq ?_
        refine aw_region ?_
        refine g_u (s_mv_imm rfl rfl) ?_
        refine g_u (s_as_imm rfl rfl) ?_
        refine g_nil ?_
        refine normal_thn ?_
        refine aw_ret ?_
        refine ret_thn ?_
        refine ret_blk ?_
        refine ret_thn ?_
        refine ret_blk ?_
        refine ret_thn ?_
        change decide (q < (s.size : Int)) = true at hb1
        change (fM s q == 0) = true at hb2
        rw [goM, if_pos (by ((try simp only [decide_eq_true_eq, decide_eq_false_iff_not, bne_iff_ne, ne_eq, beq_iff_eq, bne_eq_false_iff_eq, beq_eq_false_iff_ne, Bool.not_eq_true', Bool.not_eq_false', gt_iff_lt, ge_iff_le] at *); (repeat simp (disch := omega) only [wrap64, wrap32] at *)); omega), if_pos (by ((try simp only [decide_eq_true_eq, decide_eq_false_iff_not, bne_iff_ne, ne_eq, beq_iff_eq, bne_eq_false_iff_eq, beq_eq_false_iff_ne, Bool.not_eq_true', Bool.not_eq_false', gt_iff_lt, ge_iff_le] at *); (repeat simp (disch := omega) only [wrap64, wrap32] at *)); exact hb2)] at h6
        exact ⟨⟨(rfl : toAV (Al.look _ _) = some _).trans (congrArg some (by unfold checkM; rw [← h6]; rw [if_pos (by ((try simp only [decide_eq_true_eq, decide_eq_false_iff_not, bne_iff_ne, ne_eq, beq_iff_eq, bne_eq_false_iff_eq, beq_eq_false_iff_ne, Bool.not_eq_true', Bool.not_eq_false', gt_iff_lt, ge_iff_le] at *); (repeat simp (disch := omega) only [wrap64, wrap32] at *)); omega)])), rfl⟩, trivial⟩
      · skip
        refine aw_skip ?_
        refine normal_thn ?_
        refine aw_region ?_
        refine g_u (s_mv_imm rfl rfl) ?_
        refine g_u (s_mv_imm rfl rfl) ?_
        refine g_u (s_add rfl rfl rfl) ?_
        refine g_u (s_as_imm rfl rfl) ?_
        refine g_nil ?_
        refine normal_blk ?_
        refine normal_thn ?_
        change decide (q < (s.size : Int)) = true at hb1
        have F := F h1 (by ((try simp only [decide_eq_true_eq, decide_eq_false_iff_not, bne_iff_ne, ne_eq, beq_iff_eq, bne_eq_false_iff_eq, beq_eq_false_iff_ne, Bool.not_eq_true', Bool.not_eq_false', gt_iff_lt, ge_iff_le] at *); (repeat simp (disch := omega) only [wrap64, wrap32] at *)); omega)
        rw [goM, if_pos (by ((try simp only [decide_eq_true_eq, decide_eq_false_iff_not, bne_iff_ne, ne_eq, beq_iff_eq, bne_eq_false_iff_eq, beq_eq_false_iff_ne, Bool.not_eq_true', Bool.not_eq_false', gt_iff_lt, ge_iff_le] at *); (repeat simp (disch := omega) only [wrap64, wrap32] at *)); omega)] at h6
        change ((fM s q) == 0) = false at hb2
        rw [if_neg (by ((try simp only [decide_eq_true_eq, decide_eq_false_iff_not, bne_iff_ne, ne_eq, beq_iff_eq, bne_eq_false_iff_eq, beq_eq_false_iff_ne, Bool.not_eq_true', Bool.not_eq_false', gt_iff_lt, ge_iff_le] at *); (repeat simp (disch := omega) only [wrap64, wrap32] at *)); exact hb2)] at h6
        have F : 1 ≤ fM s q ∧ q + fM s q ≤ s.size := by ((try simp only [decide_eq_true_eq, decide_eq_false_iff_not, bne_iff_ne, ne_eq, beq_iff_eq, bne_eq_false_iff_eq, beq_eq_false_iff_ne, Bool.not_eq_true', Bool.not_eq_false', gt_iff_lt, ge_iff_le] at *); (repeat simp (disch := omega) only [wrap64, wrap32] at *)); omega
        have e1 : IntKind.i64.wrap (q + fM s q) = q + fM s q := by ((try simp only [decide_eq_true_eq, decide_eq_false_iff_not, bne_iff_ne, ne_eq, beq_iff_eq, bne_eq_false_iff_eq, beq_eq_false_iff_ne, Bool.not_eq_true', Bool.not_eq_false', gt_iff_lt, ge_iff_le] at *); (repeat simp (disch := omega) only [wrap64, wrap32] at *))
        have e2 : IntKind.i64.wrap (c + 1) = c + 1 := by ((try simp only [decide_eq_true_eq, decide_eq_false_iff_not, bne_iff_ne, ne_eq, beq_iff_eq, bne_eq_false_iff_eq, beq_eq_false_iff_ne, Bool.not_eq_true', Bool.not_eq_false', gt_iff_lt, ge_iff_le] at *); (repeat simp (disch := omega) only [wrap64, wrap32] at *))
        refine ⟨⟨m, IntKind.i64.wrap (q + fM s q), IntKind.i64.wrap (c + 1)⟩, ⟨?_, ?_, ?_, ?_, ?_, ?_⟩, ⟨rfl, rfl, trivial⟩, Nat.lt_succ_self _⟩
        · dsimp only; rw [e1]; omega
        · dsimp only; rw [e1]; omega
        · dsimp only; rw [e2]; omega
        · dsimp only; rw [e1, e2]; omega
        · dsimp only; rw [e1]; omega
        · dsimp only; rw [e1, e2]; exact h6
    · skip
      refine aw_exit ?_
      refine exit_thn ?_
      refine exit_thn ?_
      refine exit_blk ?_
      refine normal_thn ?_
      refine aw_seq ?_
      refine aw_region ?_
      refine g_u (s_as_imm rfl rfl) ?_
      refine g_nil ?_
      refine normal_thn ?_
      refine aw_ret ?_
      change decide (q < (s.size : Int)) = false at hb1
      rw [goM, if_neg (by ((try simp only [decide_eq_true_eq, decide_eq_false_iff_not, bne_iff_ne, ne_eq, beq_iff_eq, bne_eq_false_iff_eq, beq_eq_false_iff_ne, Bool.not_eq_true', Bool.not_eq_false', gt_iff_lt, ge_iff_le] at *); (repeat simp (disch := omega) only [wrap64, wrap32] at *)); omega)] at h6
      exact ⟨⟨(rfl : toAV (Al.look _ _) = some _).trans (congrArg some (by unfold checkM; rw [← h6]; rw [if_neg (by ((try simp only [decide_eq_true_eq, decide_eq_false_iff_not, bne_iff_ne, ne_eq, beq_iff_eq, bne_eq_false_iff_eq, beq_eq_false_iff_ne, Bool.not_eq_true', Bool.not_eq_false', gt_iff_lt, ge_iff_le] at *); (repeat simp (disch := omega) only [wrap64, wrap32] at *)); omega)])), rfl⟩, trivial⟩

attribute [local irreducible] checkM countM cutM rCheckM rCountM rCutM

attribute [local irreducible] bytesM bytesP

end Go.Proofs

namespace Go.Proofs
open Go Go.Al

/-! ### Whether values may be: the laws that the walks need -/
theorem size0 (k : ByteArray) : k = ⟨#[]⟩ ↔ k.size = 0 := by
  constructor
  · rintro rfl; rfl
  · intro h; refine str_ext ?_; have : k.data.toList.length = 0 := by simpa using h
    rw [List.length_eq_zero_iff.1 this]
theorem check_range (s : ByteArray) : checkM s = -1 ∨ 0 ≤ checkM s := by
  have h := end_spec s
  unfold checkM
  split
  · exact .inr h.2.2.1
  · exact .inl rfl
def prevOf (l : List GA) (i : Nat) : Option ByteArray := if i = 0 then none else some (nthA l (i - 1)).key
theorem entC_drop {l : List GA} {i : Nat} (d : Int) (h : i < l.length) : entC d (prevOf l i) (l.drop i) = orC (keyC (nthA l i).key) (if prevBad (prevOf l i) (nthA l i).key then 12 else orC (checkV d (nthA l i).val) (entC d (prevOf l (i + 1)) (l.drop (i + 1)))) := by
  rw [drop_nth (d := a0) h, entC, checkA_eq]; rfl
theorem checkVs_drop {l : List GV} {i : Nat} (d : Int) (h : i < l.length) : checkVs d (l.drop i) = orC (checkV d (nthV l i)) (checkVs d (l.drop (i + 1))) := by
  rw [drop_nth (d := v0) h, checkVs]; rfl
theorem prevBad_pos {l : List GA} {i : Nat} (h : i ≠ 0) (k : ByteArray) : prevBad (prevOf l i) k = !(ltB (nthA l (i - 1)).key k) := by unfold prevOf; rw [if_neg h]; rfl
theorem orC_zero (a b : Int) (h : a = 0) : orC a b = b := by unfold orC; rw [if_neg (by omega)]
theorem orC_pos (a b : Int) (h : a ≠ 0) : orC a b = a := by unfold orC; rw [if_pos h]
theorem orC_right (a : Int) : orC a 0 = a := by unfold orC; split <;> omega

def bareV (v : GV) : GV := .mk v.kind (if v.kind = 1 ∨ v.kind = 5 then v.text else ⟨#[]⟩) (if v.kind = 2 ∨ v.kind = 3 then v.num else 0) (if v.kind = 4 then v.bits else 0) (if v.kind = 6 then v.list else []) (if v.kind = 7 then v.map else [])
def moreM (v : GV) : Bool := !(v.text.toList == (bareV v).text.toList) || (v.num != (bareV v).num) || (v.bits != (bareV v).bits) || ((v.list.length : Int) != ((bareV v).list.length : Int)) || ((v.map.length : Int) != ((bareV v).map.length : Int))
theorem more_eq (v : GV) : moreM v = !emptyV v := by
  have e1 : (!(v.text.toList == (bareV v).text.toList)) = !(v.kind == 1 || v.kind == 5 || decide (v.text.size = 0)) := by
    congr 1
    rw [str_beq]
    by_cases h : v.kind = 1 ∨ v.kind = 5
    · have : (bareV v).text = v.text := by simp [bareV, GV.text_mk, h]
      rw [this]
      rcases h with h | h <;> simp [h]
    · have : (bareV v).text = ⟨#[]⟩ := by simp only [bareV, GV.text_mk, if_neg h]
      rw [this]
      simp only [not_or] at h
      rw [Bool.eq_iff_iff]; simp [size0, h.1, h.2]
  have e2 : (v.num != (bareV v).num) = !(v.kind == 2 || v.kind == 3 || v.num == 0) := by
    by_cases h : v.kind = 2 ∨ v.kind = 3
    · have : (bareV v).num = v.num := by simp [bareV, GV.num_mk, h]
      rw [this]; rcases h with h | h <;> simp [h]
    · have : (bareV v).num = 0 := by simp only [bareV, GV.num_mk, if_neg h]
      rw [this]; simp only [not_or] at h
      rw [beq_eq_false_iff_ne.2 h.1, beq_eq_false_iff_ne.2 h.2]; simp [bne]
  have e3 : (v.bits != (bareV v).bits) = !(v.kind == 4 || v.bits == 0) := by
    by_cases h : v.kind = 4
    · have : (bareV v).bits = v.bits := by simp [bareV, GV.bits_mk, h]
      rw [this]; simp [h]
    · have : (bareV v).bits = 0 := by simp only [bareV, GV.bits_mk, if_neg h]
      rw [this, beq_eq_false_iff_ne.2 h]; simp [bne]
  have e4 : ((v.list.length : Int) != ((bareV v).list.length : Int)) = !(v.kind == 6 || v.list.isEmpty) := by
    by_cases h : v.kind = 6
    · have : (bareV v).list = v.list := by simp [bareV, GV.list_mk, h]
      rw [this]; simp [h]
    · have : (bareV v).list = [] := by simp only [bareV, GV.list_mk, if_neg h]
      rw [this, Bool.eq_iff_iff]; simp [h]
  have e5 : ((v.map.length : Int) != ((bareV v).map.length : Int)) = !(v.kind == 7 || v.map.isEmpty) := by
    by_cases h : v.kind = 7
    · have : (bareV v).map = v.map := by simp [bareV, GV.map_mk, h]
      rw [this]; simp [h]
    · have : (bareV v).map = [] := by simp only [bareV, GV.map_mk, if_neg h]
      rw [this, Bool.eq_iff_iff]; simp [h]
  unfold moreM emptyV
  rw [e1, e2, e3, e4, e5]
  simp only [Bool.not_and]

def contentM (d : Int) (v : GV) : Int :=
  if v.kind = 1 then (if checkM v.text ≠ -1 then 5 else 0) else if v.kind = 2 then (if v.num ≠ 0 ∧ v.num ≠ 1 then 4 else 0)
  else if v.kind = 6 then checkVs (d + 1) v.list else if v.kind = 7 then entC (d + 1) none v.map else 0
theorem checkV_content {v : GV} {d : Int} (h7 : ¬ 7 < v.kind) (he : emptyV v = true) (h16 : ¬ (6 ≤ v.kind ∧ 16 ≤ d)) : checkV d v = contentM d v := by
  rw [checkV_eq, if_neg h7, if_neg (by rw [he]; decide), if_neg h16]
  have hl : v.kind ≠ 6 → v.list = [] := fun h => by
    unfold emptyV at he; simp only [Bool.and_eq_true, Bool.or_eq_true, beq_iff_eq, List.isEmpty_iff] at he
    exact he.1.2.resolve_left h
  have hm : v.kind ≠ 7 → v.map = [] := fun h => by
    unfold emptyV at he; simp only [Bool.and_eq_true, Bool.or_eq_true, beq_iff_eq, List.isEmpty_iff] at he
    exact he.2.resolve_left h
  unfold contentM
  by_cases h1 : v.kind = 1
  · rw [if_pos h1, hl (by omega), hm (by omega)]
    simp only [h1, true_and, checkVs, entC, orC_right]
    split
    · rfl
    · rw [if_neg (by omega)]
  rw [if_neg (fun h => h1 h.1), if_neg h1]
  by_cases h2 : v.kind = 2
  · rw [if_pos h2, hl (by omega), hm (by omega)]
    simp only [h2, true_and, checkVs, entC, orC_right]
  rw [if_neg (fun h => h2 h.1), if_neg h2]
  by_cases h6 : v.kind = 6
  · rw [if_pos h6, hm (by omega)]; simp only [entC, orC_right]
  rw [if_neg h6, hl h6]
  by_cases h8 : v.kind = 7
  · rw [if_pos h8]; simp only [checkVs]; exact orC_zero _ _ rfl
  · rw [if_neg h8, hm h8]; rfl

/-! ### Attributes -/
def textsC (l : List GA) : Int := if l.any (fun a => decide (1024 < (textM a.val).size)) then 35 else 0
theorem textsC_drop {l : List GA} {i : Nat} (h : i < l.length) : textsC (l.drop i) = if 1024 < (textM (nthA l i).val).size then 35 else textsC (l.drop (i + 1)) := by
  rw [drop_nth (d := a0) h]
  unfold textsC nthA
  by_cases hc : 1024 < (textM (nth l i a0).val).size
  · simp [hc]
  · simp [hc]
end Go.Proofs

namespace Go.Al
open Go.RowKit

/-- A box of parts, as one whole. -/
theorem aw_pack {C : Cx} {c : Code} {st : St} {Q : Exit → St → Prop} (g : Nat) {T : TypeId} {X : SV} {y : AV} (hg : look st g = .box T X) (hy : toAV X = some y) (h : AW C c ((g, .box T (.imm y)) :: st) Q) : AW C c st Q := by
  intro a w ⟨G, S⟩
  refine h a w ⟨G, S.os, S.tape, S.output, S.size, S.block, S.sub, S.rel, S.glob, S.new, S.val, S.nts, S.dfs, fun j => ?_, fun j j' b hj h1 h2 => ?_⟩
  · have e := upd_one (look st) g (.box T (.imm y)) j
    rw [upd_look] at e
    rw [show ((g, SV.box T (.imm y)) :: st) = [(g, SV.box T (.imm y))] ++ st from rfl, e]
    split
    · rename_i hjk; subst hjk
      have := S.holds j
      rw [hg] at this
      simp only [Holds, BoxS] at this ⊢
      obtain ⟨h1, ⟨cs, fr, hb, hr, hu⟩, h2⟩ := this
      exact ⟨h1, ⟨cs, fr, hb, by simp only [RepS]; exact toAV_spec X y _ hy hr, hu⟩, h2⟩
    · exact S.holds j
  · have conv : ∀ j b, ownsB G j b (look ((g, SV.box T (.imm y)) :: st) j) → ownsB G j b (look st j) := by
      intro j b hb
      have e := upd_one (look st) g (.box T (.imm y)) j
      rw [upd_look] at e
      rw [show ((g, SV.box T (.imm y)) :: st) = [(g, SV.box T (.imm y))] ++ st from rfl, e] at hb
      split at hb
      · rename_i hjk; subst hjk; rw [hg]; simp only [ownsB] at hb ⊢; exact hb
      · exact hb
    exact S.apart j j' b hj (conv j b h1) (conv j' b h2)
end Go.Al

