/- Texts that the proofs of this claim share, part 4: the abstract logic, plain Lean on values and batches, and walks. No condition but those typed in each lemma. -/
import Derived.ReadAgain
import Derived.ChangeOld
import Derived.ChangeShapes
import Derived.SizedLaws
import Derived.LaidHandle
import Derived.Test.YtilolbiefnbccabDoorP3
set_option linter.unusedSimpArgs false
set_option linter.unusedVariables false
namespace Go.Proofs
open Go Go.Al
set_option maxRecDepth 10000
set_option maxHeartbeats 8000000 in
theorem faultTwo_c (c d : Int) (l m : List ByteArray) (hc : -9223372036854775808 ≤ c ∧ c < 9223372036854775808) (hd : -9223372036854775808 ≤ d ∧ d < 9223372036854775808) (hs : ∀ x ∈ l, x.size ≤ 140737488351232) (ht : ∀ x ∈ m, x.size ≤ 140737488351232) : PCall Tryd.prog Γ0 6 [.agg [iv c, iv d], .sl 1 (l.map fun x => sv x), .sl 1 (m.map fun x => sv x)] [bv true] := by
  refine pcall_of Tryd.func6 rfl Tryd.ntmps6 (by kernel_rfl) rfl fun w0 I0 G0 => ?_
  refine aw_seq ?_
  refine aw_region ?_
  refine g_uG (s_box_imm 1003 rfl rfl rfl rfl) rfl ?_
  refine g_u (s_as_imm rfl rfl) ?_
  refine g_nil ?_
  refine normal_thn ?_
  refine aw_seq ?_
  refine aw_seq ?_
  refine aw_region ?_
  refine g_u (s_mv_imm rfl rfl) ?_
  refine g_u (s_lenL rfl rfl Tryd.underlying29) ?_
  refine g_u (s_gtI rfl rfl rfl) ?_
  refine g_u (s_mv_imm rfl rfl) ?_
  refine g_case (t := 15) rfl ?_
  rintro (hb1 | hb1)
  · rw [hb1]
    refine g_skip rfl rfl rfl ?_
    refine g_skip rfl rfl rfl ?_
    refine g_skip rfl rfl rfl ?_
    refine g_u (s_pick_t rfl rfl rfl) ?_
    refine g_u (s_mv_imm rfl rfl) ?_
    refine g_skip rfl rfl rfl ?_
    refine g_skip rfl rfl rfl ?_
    refine g_skip rfl rfl rfl ?_
    refine g_u (s_pick_t rfl rfl rfl) ?_
    refine g_u (s_mv_imm rfl rfl) ?_
    refine g_skip rfl rfl rfl ?_
    refine g_skip rfl rfl rfl ?_
    refine g_skip rfl rfl rfl ?_
    refine g_u (s_pick_t rfl rfl rfl) ?_
    refine g_nil ?_
    refine normal_thn ?_
    refine aw_cond_true rfl ?_
    refine aw_seq ?_
    refine aw_region ?_
    refine g_u (s_call1 (works09_c) rfl rfl) ?_
    refine g_u (s_as_imm rfl rfl) ?_
    refine g_nil ?_
    refine normal_thn ?_
    refine aw_ret ?_
    refine ret_thn ?_
    exact ⟨⟨(rfl : toAV (Al.look _ _) = some _).trans (congrArg some (by rfl)), rfl⟩, trivial⟩
  · rw [hb1]
    have z1 : l.length ≤ 12 := by have := of_decide_eq_false hb1; (try simp only [List.length_map] at this); omega
    refine g_run rfl rfl (s_mv_imm rfl rfl) ?_
    refine g_run rfl rfl (s_lenL rfl rfl Tryd.underlying29) ?_
    refine g_run rfl rfl (s_gtI rfl rfl rfl) ?_
    refine g_u (s_pick_f rfl rfl rfl) ?_
    refine g_u (s_mv_imm rfl rfl) ?_
    refine g_case (t := 20) rfl ?_
    rintro (hb2 | hb2)
    · rw [hb2]
      refine g_skip rfl rfl rfl ?_
      refine g_skip rfl rfl rfl ?_
      refine g_skip rfl rfl rfl ?_
      refine g_u (s_pick_t rfl rfl rfl) ?_
      refine g_u (s_mv_imm rfl rfl) ?_
      refine g_skip rfl rfl rfl ?_
      refine g_skip rfl rfl rfl ?_
      refine g_skip rfl rfl rfl ?_
      refine g_u (s_pick_t rfl rfl rfl) ?_
      refine g_nil ?_
      refine normal_thn ?_
      refine aw_cond_true rfl ?_
      refine aw_seq ?_
      refine aw_region ?_
      refine g_u (s_call1 (works09_c) rfl rfl) ?_
      refine g_u (s_as_imm rfl rfl) ?_
      refine g_nil ?_
      refine normal_thn ?_
      refine aw_ret ?_
      refine ret_thn ?_
      exact ⟨⟨(rfl : toAV (Al.look _ _) = some _).trans (congrArg some (by rfl)), rfl⟩, trivial⟩
    · rw [hb2]
      have z2 : m.length ≤ 12 := by have := of_decide_eq_false hb2; (try simp only [List.length_map] at this); omega
      refine g_run rfl rfl (s_ixOwn rfl rfl rfl Tryd.underlying42 tS28 (by decide)) ?_
      refine g_run rfl rfl (s_load_imm rfl rfl rfl tA28 tS28 rfl rfl) ?_
      refine g_run rfl rfl (s_eqI rfl rfl rfl) ?_
      refine g_u (s_pick_f rfl rfl rfl) ?_
      refine g_u (s_mv_imm rfl rfl) ?_
      refine g_case (t := 25) rfl ?_
      rintro (hb3 | hb3)
      · rw [hb3]
        refine g_skip rfl rfl rfl ?_
        refine g_skip rfl rfl rfl ?_
        refine g_skip rfl rfl rfl ?_
        refine g_u (s_pick_t rfl rfl rfl) ?_
        refine g_nil ?_
        refine normal_thn ?_
        refine aw_cond_true rfl ?_
        refine aw_seq ?_
        refine aw_region ?_
        refine g_u (s_call1 (works09_c) rfl rfl) ?_
        refine g_u (s_as_imm rfl rfl) ?_
        refine g_nil ?_
        refine normal_thn ?_
        refine aw_ret ?_
        refine ret_thn ?_
        exact ⟨⟨(rfl : toAV (Al.look _ _) = some _).trans (congrArg some (by rfl)), rfl⟩, trivial⟩
      · rw [hb3]
        have z3 : c ≠ 0 := beq_eq_false_iff_ne.1 hb3
        refine g_run rfl rfl (s_ixOwn rfl rfl rfl Tryd.underlying42 tS28 (by decide)) ?_
        refine g_run rfl rfl (s_load_imm rfl rfl rfl tA28 tS28 rfl rfl) ?_
        refine g_run rfl rfl (s_eqI rfl rfl rfl) ?_
        refine g_u (s_pick_f rfl rfl rfl) ?_
        refine g_nil ?_
        refine normal_thn ?_
        refine aw_cond rfl (fun hb4 => ?_) (fun hb4 => ?_)
        · skip
          refine aw_seq ?_
          refine aw_region ?_
          refine g_u (s_call1 (works09_c) rfl rfl) ?_
          refine g_u (s_as_imm rfl rfl) ?_
          refine g_nil ?_
          refine normal_thn ?_
          refine aw_ret ?_
          refine ret_thn ?_
          exact ⟨⟨(rfl : toAV (Al.look _ _) = some _).trans (congrArg some (by rfl)), rfl⟩, trivial⟩
        · skip
          have z4 : d ≠ 0 := beq_eq_false_iff_ne.1 hb4
          have hll : (l ++ m).length = l.length + m.length := List.length_append
          have hpb1 := textBd (l := l) (by omega) hs
          have hpb2 := textBd (l := m) (by omega) ht
          refine aw_skip ?_
          refine normal_thn ?_
          refine aw_seq ?_
          refine aw_region ?_
          refine g_uG (s_build0 1031 3031 rfl rfl rfl rfl rfl rfl Tryd.underlying29 tS9) rfl ?_
          refine g_u (s_mv_imm rfl rfl) ?_
          refine g_u (s_append rfl rfl rfl rfl rfl Tryd.underlying29 Tryd.underlying29 tS9 zv9 rfl (by decide) by9 (by ((try simp only [decide_eq_true_eq, decide_eq_false_iff_not, bne_iff_ne, ne_eq, beq_iff_eq, bne_eq_false_iff_eq, beq_eq_false_iff_ne, Bool.not_eq_true', Bool.not_eq_false', gt_iff_lt, ge_iff_le] at *); (repeat simp (disch := omega) only [wrap64, wrap32] at *)); simp only [bytesL, List.length_append, List.length_map, List.length_cons, List.length_nil] at *; omega) (by ((try simp only [decide_eq_true_eq, decide_eq_false_iff_not, bne_iff_ne, ne_eq, beq_iff_eq, bne_eq_false_iff_eq, beq_eq_false_iff_ne, Bool.not_eq_true', Bool.not_eq_false', gt_iff_lt, ge_iff_le] at *); (repeat simp (disch := omega) only [wrap64, wrap32] at *)); simp only [bytesL, List.length_append, List.length_map, List.length_cons, List.length_nil] at *; omega)) ?_
          refine g_u (s_mv_imm rfl rfl) ?_
          refine g_u (s_append rfl rfl rfl rfl rfl Tryd.underlying29 Tryd.underlying29 tS9 zv9 rfl (by decide) by9 (by ((try simp only [decide_eq_true_eq, decide_eq_false_iff_not, bne_iff_ne, ne_eq, beq_iff_eq, bne_eq_false_iff_eq, beq_eq_false_iff_ne, Bool.not_eq_true', Bool.not_eq_false', gt_iff_lt, ge_iff_le] at *); (repeat simp (disch := omega) only [wrap64, wrap32] at *)); simp only [bytesL, List.length_append, List.length_map, List.length_cons, List.length_nil] at *; omega) (by ((try simp only [decide_eq_true_eq, decide_eq_false_iff_not, bne_iff_ne, ne_eq, beq_iff_eq, bne_eq_false_iff_eq, beq_eq_false_iff_ne, Bool.not_eq_true', Bool.not_eq_false', gt_iff_lt, ge_iff_le] at *); (repeat simp (disch := omega) only [wrap64, wrap32] at *)); simp only [bytesL, List.length_append, List.length_map, List.length_cons, List.length_nil] at *; omega)) ?_
          refine g_u (s_as_slg rfl rfl) ?_
          refine g_nil ?_
          refine normal_thn ?_
          refine aw_seq ?_
          refine aw_seq ?_
          refine aw_region ?_
          refine g_u (s_as_imm rfl rfl) ?_
          refine g_nil ?_
          refine normal_thn ?_
          refine aw_block ?_
          refine aw_loop' (fun i : Nat => [(3, .ptr 1003 0), (1003, .box 42 (.imm (.agg [iv c, iv d]))), (1, .imm (.sl 1 (l.map fun x => sv x))), (2, .imm (.sl 1 (m.map fun x => sv x))), (7, .slg 3031 1 ((l ++ m).map fun x => sv x)), (3031, .tok 1 ((l ++ m).map fun x => sv x)), (8, .imm (iv (i : Int)))]) (fun i => i ≤ (l ++ m).length ∧ ∀ j, j < i → ∀ x ∈ lst (nth (l ++ m) j ⟨#[]⟩), x.toNat ≠ 58) (fun i => (l ++ m).length - i) (0) ?_ ⟨rfl, rfl, rfl, rfl, look_slg rfl (by simp), look_tok rfl (by simp), rfl, trivial⟩ ?_
          · exact ⟨Nat.zero_le _, fun j hj => by omega⟩
          · rintro i ⟨h1, h2⟩; (try dsimp only at h1 h2)
            refine aw_seq ?_
            refine aw_seq ?_
            refine aw_region ?_
            refine g_u (s_mv_imm rfl rfl) ?_
            refine g_u (s_mv_slg rfl rfl) ?_
            refine g_u (s_lenL rfl rfl Tryd.underlying29) ?_
            refine g_u (s_ltI rfl rfl rfl) ?_
            refine g_nil ?_
            refine normal_thn ?_
            refine aw_cond rfl (fun hb5 => ?_) (fun hb5 => ?_)
            · skip
              have hi : i < (l ++ m).length := by have := of_decide_eq_true hb5; (try simp only [List.length_map] at this); omega
              have hpz : (nth (l ++ m) i ⟨#[]⟩).size ≤ 140737488351232 := (List.mem_append.1 (List.mem_of_getElem? (nth_get (d := (⟨#[]⟩ : ByteArray)) hi))).elim (hs _) (ht _)
              refine aw_skip ?_
              refine normal_thn ?_
              refine aw_seq ?_
              refine aw_block ?_
              refine aw_seq ?_
              refine aw_region ?_
              refine g_u (s_as_imm rfl rfl) ?_
              refine g_nil ?_
              refine normal_thn ?_
              refine aw_block ?_
              refine aw_loop' (fun k : Nat => [(3, .ptr 1003 0), (1003, .box 42 (.imm (.agg [iv c, iv d]))), (1, .imm (.sl 1 (l.map fun x => sv x))), (2, .imm (.sl 1 (m.map fun x => sv x))), (7, .slg 3031 1 ((l ++ m).map fun x => sv x)), (3031, .tok 1 ((l ++ m).map fun x => sv x)), (8, .imm (iv (i : Int))), (9, .imm (iv (k : Int)))]) (fun k => k ≤ (nth (l ++ m) i ⟨#[]⟩).size ∧ ∀ x ∈ (lst (nth (l ++ m) i ⟨#[]⟩)).take k, x.toNat ≠ 58) (fun k => (nth (l ++ m) i ⟨#[]⟩).size - k) (0) ?_ ⟨rfl, rfl, rfl, rfl, rfl, rfl, rfl, rfl, trivial⟩ ?_
              · exact ⟨Nat.zero_le _, fun x hx => by simp at hx⟩
              · rintro k ⟨g1, g2⟩; (try dsimp only at g1 g2)
                refine aw_seq ?_
                refine aw_seq ?_
                refine aw_region ?_
                refine g_u (s_mv_imm rfl rfl) ?_
                refine g_u (s_mv_slg rfl rfl) ?_
                refine g_u (s_mv_imm rfl rfl) ?_
                refine g_u (s_indexAddr rfl rfl rfl Tryd.underlying29 tS9 (by omega) (ixStr hi)) ?_
                refine g_u (s_load_cp rfl rfl tA9 tS9 rfl rfl) ?_
                refine g_u (s_lenS rfl rfl Tryd.underlying9) ?_
                refine g_u (s_ltI rfl rfl rfl) ?_
                refine g_nil ?_
                refine normal_thn ?_
                refine aw_cond rfl (fun hb6 => ?_) (fun hb6 => ?_)
                · skip
                  have hk : k < (nth (l ++ m) i ⟨#[]⟩).size := by have := of_decide_eq_true hb6; omega
                  refine aw_skip ?_
                  refine normal_thn ?_
                  refine aw_seq ?_
                  refine aw_block ?_
                  refine aw_seq ?_
                  refine aw_region ?_
                  refine g_u (s_mv_slg rfl rfl) ?_
                  refine g_u (s_mv_imm rfl rfl) ?_
                  refine g_u (s_indexAddr rfl rfl rfl Tryd.underlying29 tS9 (by omega) (ixStr hi)) ?_
                  refine g_u (s_load_cp rfl rfl tA9 tS9 rfl rfl) ?_
                  refine g_u (s_mv_imm rfl rfl) ?_
                  refine g_u (si_ix rfl rfl rfl Tryd.underlying9 (by ((try simp only [decide_eq_true_eq, decide_eq_false_iff_not, bne_iff_ne, ne_eq, beq_iff_eq, bne_eq_false_iff_eq, beq_eq_false_iff_ne, Bool.not_eq_true', Bool.not_eq_false', gt_iff_lt, ge_iff_le] at *); (repeat simp (disch := omega) only [wrap64, wrap32] at *)); omega)) ?_
                  refine g_u (s_eqI rfl rfl rfl) ?_
                  refine g_nil ?_
                  refine normal_thn ?_
                  refine aw_cond rfl (fun hb7 => ?_) (fun hb7 => ?_)
                  · skip
                    refine aw_seq ?_
                    refine aw_region ?_
                    refine g_u (s_call1 (works09_c) rfl rfl) ?_
                    refine g_u (s_as_imm rfl rfl) ?_
                    refine g_nil ?_
                    refine normal_thn ?_
                    refine aw_ret ?_
                    refine ret_blk ?_
                    refine ret_thn ?_
                    refine ret_thn ?_
                    refine ret_blk ?_
                    refine ret_blk ?_
                    refine ret_thn ?_
                    refine ret_thn ?_
                    refine ret_blk ?_
                    refine ret_thn ?_
                    exact ⟨⟨(rfl : toAV (Al.look _ _) = some _).trans (congrArg some (by rfl)), rfl⟩, trivial⟩
                  · skip
                    have hne := beq_eq_false_iff_ne.1 hb7
                    refine aw_skip ?_
                    refine normal_blk ?_
                    refine normal_thn ?_
                    refine aw_region ?_
                    refine g_u (s_mv_imm rfl rfl) ?_
                    refine g_u (s_add rfl rfl rfl) ?_
                    refine g_u (s_as_imm rfl rfl) ?_
                    refine g_nil ?_
                    refine normal_thn ?_
                    obtain ⟨ch, hc1, hc2⟩ := bAt_nat (nth (l ++ m) i ⟨#[]⟩) k hk
                    refine ⟨k + 1, ⟨hk, ?_⟩, ⟨rfl, rfl, rfl, rfl, rfl, rfl, rfl, look_int rfl (by rw [wrap64 (by omega) (by omega)]; rfl), trivial⟩, by (try dsimp only); omega⟩
                    (try dsimp only)
                    rw [take_snoc hc1]
                    intro x hx
                    rcases List.mem_append.1 hx with hx | hx
                    · exact g2 x hx
                    · rw [List.mem_singleton] at hx; subst hx; rw [hc2] at hne; intro e; apply hne; omega
                · skip
                  have hkn : k = (nth (l ++ m) i ⟨#[]⟩).size := by have := of_decide_eq_false hb6; omega
                  refine aw_exit ?_
                  refine exit_thn ?_
                  refine exit_thn ?_
                  refine exit_blk ?_
                  refine normal_blk ?_
                  refine normal_thn ?_
                  refine aw_region ?_
                  refine g_u (s_mv_imm rfl rfl) ?_
                  refine g_u (s_add rfl rfl rfl) ?_
                  refine g_u (s_as_imm rfl rfl) ?_
                  refine g_nil ?_
                  refine normal_thn ?_
                  refine ⟨i + 1, ⟨hi, fun j hj => ?_⟩, ⟨rfl, rfl, rfl, rfl, rfl, rfl, look_int rfl (by rw [wrap64 (by omega) (by omega)]; rfl), trivial⟩, by (try dsimp only); omega⟩
                  rcases Nat.lt_or_ge j i with hj2 | hj2
                  · exact h2 j hj2
                  · obtain rfl : j = i := by omega
                    intro x hx; exact g2 x (by rw [hkn, List.take_of_length_le (by rw [lst_len]; exact Nat.le_refl _)]; exact hx)
            · skip
              have hin : i = (l ++ m).length := by have := of_decide_eq_false hb5; (try simp only [List.length_map] at this); omega
              have hall : noC (l ++ m) := fun p hp => by
                obtain ⟨j, hj⟩ := List.getElem?_of_mem hp
                have hjl := (List.getElem?_eq_some_iff.1 hj).1
                have e := nth_get (d := (⟨#[]⟩ : ByteArray)) hjl
                rw [hj] at e
                rw [Option.some.inj e]; exact h2 j (by omega)
              have hnl : noC l := fun p hp => hall p (List.mem_append_left _ hp)
              have hnm : noC m := fun p hp => hall p (List.mem_append_right _ hp)
              refine aw_exit ?_
              refine exit_thn ?_
              refine exit_thn ?_
              refine exit_blk ?_
              refine normal_thn ?_
              refine aw_seq ?_
              refine aw_region ?_
              refine g_u (s_ixOwn rfl rfl rfl Tryd.underlying42 tS28 (by decide)) ?_
              refine g_u (s_load_imm rfl rfl rfl tA28 tS28 rfl rfl) ?_
              refine g_u (s_ixOwn rfl rfl rfl Tryd.underlying42 tS28 (by decide)) ?_
              refine g_u (s_load_imm rfl rfl rfl tA28 tS28 rfl rfl) ?_
              refine g_u (s_eqI rfl rfl rfl) ?_
              refine g_u (s_mv_imm rfl rfl) ?_
              refine g_case (t := 64) rfl ?_
              rintro (hb8 | hb8)
              · rw [hb8]
                have qc := hb8
                refine g_run rfl rfl (s_mv_imm rfl rfl) ?_
                refine g_run rfl rfl (s_lenL rfl rfl Tryd.underlying29) ?_
                refine g_run rfl rfl (s_mv_imm rfl rfl) ?_
                refine g_run rfl rfl (s_lenL rfl rfl Tryd.underlying29) ?_
                refine g_run rfl rfl (s_eqI rfl rfl rfl) ?_
                refine g_u (s_pick_t rfl rfl rfl) ?_
                refine g_u (s_as_imm rfl rfl) ?_
                refine g_nil ?_
                refine normal_thn ?_
                refine aw_seq ?_
                refine aw_seq ?_
                refine aw_region ?_
                refine g_u (s_as_imm rfl rfl) ?_
                refine g_nil ?_
                refine normal_thn ?_
                refine aw_block ?_
                refine aw_loop' (fun i : Nat => [(3, .ptr 1003 0), (1003, .box 42 (.imm (.agg [iv c, iv d]))), (1, .imm (.sl 1 (l.map fun x => sv x))), (2, .imm (.sl 1 (m.map fun x => sv x))), (10, .imm (bv (sameTo c d l m i))), (11, .imm (iv (i : Int)))]) (fun i => i ≤ l.length) (fun i => l.length - i) (0) ?_ ⟨rfl, rfl, rfl, rfl, look_bool rfl (by rw [sameTo_zero, qc]; first | rfl | (rw [Bool.eq_iff_iff]; simp; omega)), rfl, trivial⟩ ?_
                · exact Nat.zero_le _
                · rintro i h1; have h1 : i ≤ l.length := h1
                  refine aw_seq ?_
                  refine aw_seq ?_
                  refine aw_region ?_
                  refine g_u (s_mv_imm rfl rfl) ?_
                  refine g_u (s_mv_imm rfl rfl) ?_
                  refine g_case (t := 72) rfl ?_
                  rintro (hb9 | hb9)
                  · rw [hb9]
                    have hsm := hb9
                    refine g_run rfl rfl (s_mv_imm rfl rfl) ?_
                    refine g_run rfl rfl (s_mv_imm rfl rfl) ?_
                    refine g_run rfl rfl (s_lenL rfl rfl Tryd.underlying29) ?_
                    refine g_run rfl rfl (s_ltI rfl rfl rfl) ?_
                    refine g_u (s_pick_t rfl rfl rfl) ?_
                    refine g_nil ?_
                    refine normal_thn ?_
                    refine aw_cond rfl (fun hb10 => ?_) (fun hb10 => ?_)
                    · skip
                      have hi : i < l.length := by have := of_decide_eq_true hb10; (try simp only [List.length_map] at this); omega
                      have hlm := (of_decide_eq_true hsm).2.1
                      refine aw_skip ?_
                      refine normal_thn ?_
                      refine aw_seq ?_
                      refine aw_block ?_
                      refine aw_draw mixed ?_
                      refine g_u (s_mv_imm rfl rfl) ?_
                      refine g_u (s_mv_imm rfl rfl) ?_
                      refine g_u (s_indexAddr rfl rfl rfl Tryd.underlying29 tS9 (by omega) (ixStr hi)) ?_
                      refine g_u (s_load_cp rfl rfl tA9 tS9 rfl rfl) ?_
                      refine g_u (s_mv_imm rfl rfl) ?_
                      refine g_u (s_mv_imm rfl rfl) ?_
                      refine g_u (s_indexAddr rfl rfl rfl Tryd.underlying29 tS9 (by omega) (ixStr (by omega))) ?_
                      refine g_u (s_load_cp rfl rfl tA9 tS9 rfl rfl) ?_
                      refine g_u (s_eqS rfl rfl rfl) ?_
                      refine g_u (s_as_imm rfl rfl) ?_
                      refine g_nil ⟨by kernel_rfl, ?_⟩
                      refine normal_blk ?_
                      refine normal_thn ?_
                      refine aw_region ?_
                      refine g_u (s_mv_imm rfl rfl) ?_
                      refine g_u (s_add rfl rfl rfl) ?_
                      refine g_u (s_as_imm rfl rfl) ?_
                      refine g_nil ?_
                      refine normal_thn ?_
                      refine ⟨i + 1, hi, ⟨rfl, rfl, rfl, rfl, look_bool rfl (sameTo_step hsm hi).symm, look_int rfl (by rw [wrap64 (by omega) (by omega)]; rfl), trivial⟩, by (try dsimp only); omega⟩
                    · skip
                      have hin : i = l.length := by have := of_decide_eq_false hb10; (try simp only [List.length_map] at this); omega
                      refine aw_exit ?_
                      refine exit_thn ?_
                      refine exit_thn ?_
                      refine exit_blk ?_
                      refine normal_thn ?_
                      refine aw_seq ?_
                      refine aw_draw mixed ?_
                      refine g_u (s_ixOwn rfl rfl rfl Tryd.underlying42 tS28 (by decide)) ?_
                      refine g_u (s_load_imm rfl rfl rfl tA28 tS28 rfl rfl) ?_
                      refine g_u (s_mv_imm rfl rfl) ?_
                      refine g_u (s_call1 (made_c _ _ (by omega)) rfl rfl) ?_
                      refine g_u (s_call1 (ftext_c _ _ (by omega) (by assumption) (by assumption)) rfl rfl) ?_
                      refine g_u (s_ixOwn rfl rfl rfl Tryd.underlying42 tS28 (by decide)) ?_
                      refine g_u (s_load_imm rfl rfl rfl tA28 tS28 rfl rfl) ?_
                      refine g_u (s_mv_imm rfl rfl) ?_
                      refine g_u (s_call1 (made_c _ _ (by omega)) rfl rfl) ?_
                      refine g_u (s_call1 (ftext_c _ _ (by omega) (by assumption) (by assumption)) rfl rfl) ?_
                      refine g_u (s_eqS rfl rfl rfl) ?_
                      refine g_u (s_mv_imm rfl rfl) ?_
                      refine g_u (s_eqB rfl rfl rfl Tryd.underlying4) ?_
                      refine g_u (s_mv_imm rfl rfl) ?_
                      refine g_case (t := 102) rfl ?_
                      rintro (hb11 | hb11)
                      · rw [hb11]
                        refine g_run rfl rfl (s_call1 (works09_c) rfl rfl) ?_
                        refine g_u (s_pick_t rfl rfl rfl) ?_
                        refine g_u (s_as_imm rfl rfl) ?_
                        refine g_nil ⟨by kernel_rfl, ?_⟩
                        refine normal_thn ?_
                        refine aw_ret ?_
                        exact ⟨⟨(rfl : toAV (Al.look _ _) = some _).trans (congrArg some (by rfl)), rfl⟩, trivial⟩
                      · exact killT hb11 (by first | (rw [two_text hc hd z3 z4 hnl hnm, ← sameTo_all (i := i) (by omega), hsm]; rfl) | (rw [two_text hc hd z3 z4 hnl hnm, sameTo_no hsm]; rfl))
                  · rw [hb9]
                    have hsm := hb9
                    refine g_skip rfl rfl rfl ?_
                    refine g_skip rfl rfl rfl ?_
                    refine g_skip rfl rfl rfl ?_
                    refine g_skip rfl rfl rfl ?_
                    refine g_u (s_pick_f rfl rfl rfl) ?_
                    refine g_nil ?_
                    refine normal_thn ?_
                    refine aw_cond_false rfl ?_
                    refine aw_exit ?_
                    refine exit_thn ?_
                    refine exit_thn ?_
                    refine exit_blk ?_
                    refine normal_thn ?_
                    refine aw_seq ?_
                    refine aw_draw mixed ?_
                    refine g_u (s_ixOwn rfl rfl rfl Tryd.underlying42 tS28 (by decide)) ?_
                    refine g_u (s_load_imm rfl rfl rfl tA28 tS28 rfl rfl) ?_
                    refine g_u (s_mv_imm rfl rfl) ?_
                    refine g_u (s_call1 (made_c _ _ (by omega)) rfl rfl) ?_
                    refine g_u (s_call1 (ftext_c _ _ (by omega) (by assumption) (by assumption)) rfl rfl) ?_
                    refine g_u (s_ixOwn rfl rfl rfl Tryd.underlying42 tS28 (by decide)) ?_
                    refine g_u (s_load_imm rfl rfl rfl tA28 tS28 rfl rfl) ?_
                    refine g_u (s_mv_imm rfl rfl) ?_
                    refine g_u (s_call1 (made_c _ _ (by omega)) rfl rfl) ?_
                    refine g_u (s_call1 (ftext_c _ _ (by omega) (by assumption) (by assumption)) rfl rfl) ?_
                    refine g_u (s_eqS rfl rfl rfl) ?_
                    refine g_u (s_mv_imm rfl rfl) ?_
                    refine g_u (s_eqB rfl rfl rfl Tryd.underlying4) ?_
                    refine g_u (s_mv_imm rfl rfl) ?_
                    refine g_case (t := 102) rfl ?_
                    rintro (hb12 | hb12)
                    · rw [hb12]
                      refine g_run rfl rfl (s_call1 (works09_c) rfl rfl) ?_
                      refine g_u (s_pick_t rfl rfl rfl) ?_
                      refine g_u (s_as_imm rfl rfl) ?_
                      refine g_nil ⟨by kernel_rfl, ?_⟩
                      refine normal_thn ?_
                      refine aw_ret ?_
                      exact ⟨⟨(rfl : toAV (Al.look _ _) = some _).trans (congrArg some (by rfl)), rfl⟩, trivial⟩
                    · exact killT hb12 (by first | (rw [two_text hc hd z3 z4 hnl hnm, ← sameTo_all (i := i) (by omega), hsm]; rfl) | (rw [two_text hc hd z3 z4 hnl hnm, sameTo_no hsm]; rfl))
              · rw [hb8]
                have qc := hb8
                refine g_skip rfl rfl rfl ?_
                refine g_skip rfl rfl rfl ?_
                refine g_skip rfl rfl rfl ?_
                refine g_skip rfl rfl rfl ?_
                refine g_skip rfl rfl rfl ?_
                refine g_u (s_pick_f rfl rfl rfl) ?_
                refine g_u (s_as_imm rfl rfl) ?_
                refine g_nil ?_
                refine normal_thn ?_
                refine aw_seq ?_
                refine aw_seq ?_
                refine aw_region ?_
                refine g_u (s_as_imm rfl rfl) ?_
                refine g_nil ?_
                refine normal_thn ?_
                refine aw_block ?_
                refine aw_loop' (fun i : Nat => [(3, .ptr 1003 0), (1003, .box 42 (.imm (.agg [iv c, iv d]))), (1, .imm (.sl 1 (l.map fun x => sv x))), (2, .imm (.sl 1 (m.map fun x => sv x))), (10, .imm (bv (sameTo c d l m i))), (11, .imm (iv (i : Int)))]) (fun i => i ≤ l.length) (fun i => l.length - i) (0) ?_ ⟨rfl, rfl, rfl, rfl, look_bool rfl (by rw [sameTo_zero, qc]; first | rfl | (rw [Bool.eq_iff_iff]; simp; omega)), rfl, trivial⟩ ?_
                · exact Nat.zero_le _
                · rintro i h1; have h1 : i ≤ l.length := h1
                  refine aw_seq ?_
                  refine aw_seq ?_
                  refine aw_region ?_
                  refine g_u (s_mv_imm rfl rfl) ?_
                  refine g_u (s_mv_imm rfl rfl) ?_
                  refine g_case (t := 72) rfl ?_
                  rintro (hb13 | hb13)
                  · rw [hb13]
                    have hsm := hb13
                    refine g_run rfl rfl (s_mv_imm rfl rfl) ?_
                    refine g_run rfl rfl (s_mv_imm rfl rfl) ?_
                    refine g_run rfl rfl (s_lenL rfl rfl Tryd.underlying29) ?_
                    refine g_run rfl rfl (s_ltI rfl rfl rfl) ?_
                    refine g_u (s_pick_t rfl rfl rfl) ?_
                    refine g_nil ?_
                    refine normal_thn ?_
                    refine aw_cond rfl (fun hb14 => ?_) (fun hb14 => ?_)
                    · skip
                      have hi : i < l.length := by have := of_decide_eq_true hb14; (try simp only [List.length_map] at this); omega
                      have hlm := (of_decide_eq_true hsm).2.1
                      refine aw_skip ?_
                      refine normal_thn ?_
                      refine aw_seq ?_
                      refine aw_block ?_
                      refine aw_draw mixed ?_
                      refine g_u (s_mv_imm rfl rfl) ?_
                      refine g_u (s_mv_imm rfl rfl) ?_
                      refine g_u (s_indexAddr rfl rfl rfl Tryd.underlying29 tS9 (by omega) (ixStr hi)) ?_
                      refine g_u (s_load_cp rfl rfl tA9 tS9 rfl rfl) ?_
                      refine g_u (s_mv_imm rfl rfl) ?_
                      refine g_u (s_mv_imm rfl rfl) ?_
                      refine g_u (s_indexAddr rfl rfl rfl Tryd.underlying29 tS9 (by omega) (ixStr (by omega))) ?_
                      refine g_u (s_load_cp rfl rfl tA9 tS9 rfl rfl) ?_
                      refine g_u (s_eqS rfl rfl rfl) ?_
                      refine g_u (s_as_imm rfl rfl) ?_
                      refine g_nil ⟨by kernel_rfl, ?_⟩
                      refine normal_blk ?_
                      refine normal_thn ?_
                      refine aw_region ?_
                      refine g_u (s_mv_imm rfl rfl) ?_
                      refine g_u (s_add rfl rfl rfl) ?_
                      refine g_u (s_as_imm rfl rfl) ?_
                      refine g_nil ?_
                      refine normal_thn ?_
                      refine ⟨i + 1, hi, ⟨rfl, rfl, rfl, rfl, look_bool rfl (sameTo_step hsm hi).symm, look_int rfl (by rw [wrap64 (by omega) (by omega)]; rfl), trivial⟩, by (try dsimp only); omega⟩
                    · skip
                      have hin : i = l.length := by have := of_decide_eq_false hb14; (try simp only [List.length_map] at this); omega
                      refine aw_exit ?_
                      refine exit_thn ?_
                      refine exit_thn ?_
                      refine exit_blk ?_
                      refine normal_thn ?_
                      refine aw_seq ?_
                      refine aw_draw mixed ?_
                      refine g_u (s_ixOwn rfl rfl rfl Tryd.underlying42 tS28 (by decide)) ?_
                      refine g_u (s_load_imm rfl rfl rfl tA28 tS28 rfl rfl) ?_
                      refine g_u (s_mv_imm rfl rfl) ?_
                      refine g_u (s_call1 (made_c _ _ (by omega)) rfl rfl) ?_
                      refine g_u (s_call1 (ftext_c _ _ (by omega) (by assumption) (by assumption)) rfl rfl) ?_
                      refine g_u (s_ixOwn rfl rfl rfl Tryd.underlying42 tS28 (by decide)) ?_
                      refine g_u (s_load_imm rfl rfl rfl tA28 tS28 rfl rfl) ?_
                      refine g_u (s_mv_imm rfl rfl) ?_
                      refine g_u (s_call1 (made_c _ _ (by omega)) rfl rfl) ?_
                      refine g_u (s_call1 (ftext_c _ _ (by omega) (by assumption) (by assumption)) rfl rfl) ?_
                      refine g_u (s_eqS rfl rfl rfl) ?_
                      refine g_u (s_mv_imm rfl rfl) ?_
                      refine g_u (s_eqB rfl rfl rfl Tryd.underlying4) ?_
                      refine g_u (s_mv_imm rfl rfl) ?_
                      refine g_case (t := 102) rfl ?_
                      rintro (hb15 | hb15)
                      · rw [hb15]
                        refine g_run rfl rfl (s_call1 (works09_c) rfl rfl) ?_
                        refine g_u (s_pick_t rfl rfl rfl) ?_
                        refine g_u (s_as_imm rfl rfl) ?_
                        refine g_nil ⟨by kernel_rfl, ?_⟩
                        refine normal_thn ?_
                        refine aw_ret ?_
                        exact ⟨⟨(rfl : toAV (Al.look _ _) = some _).trans (congrArg some (by rfl)), rfl⟩, trivial⟩
                      · exact killT hb15 (by first | (rw [two_text hc hd z3 z4 hnl hnm, ← sameTo_all (i := i) (by omega), hsm]; rfl) | (rw [two_text hc hd z3 z4 hnl hnm, sameTo_no hsm]; rfl))
                  · rw [hb13]
                    have hsm := hb13
                    refine g_skip rfl rfl rfl ?_
                    refine g_skip rfl rfl rfl ?_
                    refine g_skip rfl rfl rfl ?_
                    refine g_skip rfl rfl rfl ?_
                    refine g_u (s_pick_f rfl rfl rfl) ?_
                    refine g_nil ?_
                    refine normal_thn ?_
                    refine aw_cond_false rfl ?_
                    refine aw_exit ?_
                    refine exit_thn ?_
                    refine exit_thn ?_
                    refine exit_blk ?_
                    refine normal_thn ?_
                    refine aw_seq ?_
                    refine aw_draw mixed ?_
                    refine g_u (s_ixOwn rfl rfl rfl Tryd.underlying42 tS28 (by decide)) ?_
                    refine g_u (s_load_imm rfl rfl rfl tA28 tS28 rfl rfl) ?_
                    refine g_u (s_mv_imm rfl rfl) ?_
                    refine g_u (s_call1 (made_c _ _ (by omega)) rfl rfl) ?_
                    refine g_u (s_call1 (ftext_c _ _ (by omega) (by assumption) (by assumption)) rfl rfl) ?_
                    refine g_u (s_ixOwn rfl rfl rfl Tryd.underlying42 tS28 (by decide)) ?_
                    refine g_u (s_load_imm rfl rfl rfl tA28 tS28 rfl rfl) ?_
                    refine g_u (s_mv_imm rfl rfl) ?_
                    refine g_u (s_call1 (made_c _ _ (by omega)) rfl rfl) ?_
                    refine g_u (s_call1 (ftext_c _ _ (by omega) (by assumption) (by assumption)) rfl rfl) ?_
                    refine g_u (s_eqS rfl rfl rfl) ?_
                    refine g_u (s_mv_imm rfl rfl) ?_
                    refine g_u (s_eqB rfl rfl rfl Tryd.underlying4) ?_
                    refine g_u (s_mv_imm rfl rfl) ?_
                    refine g_case (t := 102) rfl ?_
                    rintro (hb16 | hb16)
                    · rw [hb16]
                      refine g_run rfl rfl (s_call1 (works09_c) rfl rfl) ?_
                      refine g_u (s_pick_t rfl rfl rfl) ?_
                      refine g_u (s_as_imm rfl rfl) ?_
                      refine g_nil ⟨by kernel_rfl, ?_⟩
                      refine normal_thn ?_
                      refine aw_ret ?_
                      exact ⟨⟨(rfl : toAV (Al.look _ _) = some _).trans (congrArg some (by rfl)), rfl⟩, trivial⟩
                    · exact killT hb16 (by first | (rw [two_text hc hd z3 z4 hnl hnm, ← sameTo_all (i := i) (by omega), hsm]; rfl) | (rw [two_text hc hd z3 z4 hnl hnm, sameTo_no hsm]; rfl))

end Go.Proofs

namespace Go.Al
open Go.RowKit

/-! ### What comes in, az abstract values -/

/-- What a datum's value is like, by its type. -/
def AVT (P : Program) : Nat → TypeId → AV → Prop
  | 0, _, _ => False
  | f + 1, T, X =>
    match P.underlying T with
    | some .bool => ∃ b, X = .v (.bool b)
    | some (.int k) => ∃ n, X = .v (.int k n) ∧ (Lit.int k n).wf = true
    | some .string => ∃ s : ByteArray, X = .v (.string s) ∧ s.size ≤ maxLen
    | some (.slice e) => ∃ l, X = .sl (P.cellsOf e) l ∧ ∀ x ∈ l, AVT P f e x
    | some (.struct fs) => ∃ l, X = .agg l ∧ l.length = fs.toList.length ∧ ∀ (j : Nat) fl x, fs.toList[j]? = some fl → l[j]? = some x → AVT P f fl.type x
    | some (.array n e) => match P.underlying e with
      | some (.int .i64) => ∃ l : List Int, X = .agg (l.map fun x => .v (.int .i64 x)) ∧ l.length = n ∧ ∀ x ∈ l, (Lit.int .i64 x).wf = true
      | _ => ∃ l : List UInt8, X = .arr n l ∧ l.length = n
    | _ => False

/-- Types of plain data, without pointers. -/
def dataTys (P : Program) (S : List TypeId) : Bool := S.all fun t => decide (t < P.types.size) && match P.underlying t with
  | some .bool => true
  | some (.int _) => true
  | some .string => true
  | some (.slice e) => S.contains e && decide (0 < P.cellsOf e)
  | some (.struct fs) => fs.toList.all fun f => S.contains f.type
  | some (.array _ e) => decide (P.cellsOf e = 1) && (match P.underlying e with | some (.int .u8) => true | some (.int .i64) => true | _ => false)
  | _ => false

theorem repM_of {w : World} {I : Nat → Nat → Prop} {n : Nat} : ∀ (l : List AV) (b o : Nat), (∀ i x, l[i]? = some x → ∃ c, c.length = n ∧ RepC w I x c ∧ CellsAt w I b (o + i * n) c) → RepM w I n l b o
  | [], _, _, _ => by simp only [RepM]
  | p :: ps, b, o, h => by
    simp only [RepM]
    refine ⟨by simpa using h 0 p rfl, repM_of ps b (o + n) fun i x hx => ?_⟩
    have := h (i + 1) x (by simpa using hx)
    rw [show o + n + i * n = o + (i + 1) * n from by rw [Nat.add_mul]; omega]
    exact this

theorem list_of {α : Type} {Q : Nat → α → Prop} : ∀ (n : Nat), (∀ i, i < n → ∃ x, Q i x) → ∃ l : List α, l.length = n ∧ ∀ i x, l[i]? = some x → Q i x
  | 0, _ => ⟨[], rfl, fun i x h => by simp at h⟩
  | n + 1, h => by
    obtain ⟨l, h1, h2⟩ := list_of n fun i hi => h i (by omega)
    obtain ⟨x, hx⟩ := h n (by omega)
    refine ⟨l ++ [x], by simp [h1], fun i y hy => ?_⟩
    rcases Nat.lt_or_ge i l.length with hi | hi
    · rw [List.getElem?_append_left hi] at hy; exact h2 i y hy
    · rw [List.getElem?_append_right hi] at hy
      have h3 : i - l.length < 1 := by have := (List.getElem?_eq_some_iff.1 hy).1; simpa using this
      have h4 : i - l.length = 0 := by omega
      rw [h4] at hy
      simp at hy
      subst hy
      have : i = n := by omega
      rw [this]; exact hx

theorem mapM_get {α β : Type} {f : α → Option β} : ∀ {l : List α} {r : List β}, l.mapM f = some r → ∀ (i : Nat) (x : α), l[i]? = some x → ∃ y, r[i]? = some y ∧ f x = some y := by
  intro l
  induction l with
  | nil => intro r _ i x h; simp at h
  | cons a az ih =>
    intro r h i x hx
    rw [List.mapM_cons] at h
    cases ha : f a with
    | none => simp [ha] at h
    | some b =>
      cases has : az.mapM f with
      | none => simp [ha, has] at h
      | some bs =>
        simp [ha, has] at h
        subst h
        cases i with
        | zero => simp at hx; subst hx; exact ⟨b, rfl, ha⟩
        | succ i => simpa using ih has i x (by simpa using hx)

section
variable {H : Type} {enc : TypeId × Value → H} {P : Program} {w : World} {S : List TypeId}

theorem cells_at {a : Addr} {n : Nat} {cs : List Value} (h : w.cells? 0 a n = some cs) (h0 : 0 < n) : a.spot = none ∧ cs.length = n ∧ a.block < w.heap.size ∧ CellsAt w (fun b _ => b < w.heap.size) a.block a.off cs := by
  have hb := World.cells?_block h h0
  obtain ⟨_, hl, hc⟩ := World.cells?_some h
  have hsp : a.spot = none := by
    have h1 := hc 0 h0
    obtain ⟨c, hc0⟩ : ∃ c, cs[0]? = some c := by
      cases cs with
      | nil => simp at hl; omega
      | cons c _ => exact ⟨c, rfl⟩
    rw [hc0] at h1
    simp only [Addr.add, if_true] at h1
    simp only [World.cell?] at h1
    split at h1
    · cases hs : a.spot with
      | none => rfl
      | some s => simp [hs] at h1
    · cases h1
  refine ⟨hsp, hl, hb, fun j hj => ⟨?_, hb⟩⟩
  have h1 := hc j (by omega)
  have e : a.add j = ⟨a.block, a.off + j, none⟩ := by
    obtain ⟨b, o, s⟩ := a
    simp only at hsp; subst hsp
    exact addr_add b o j
  rw [e, List.getElem?_eq_getElem hj] at h1
  exact h1

theorem open_fields {r : TypeId → List Value → Option (DataW H × List MemPlace)} {A : TypeId → AV → Prop} {I : Nat → Nat → Prop} {cs : List Value} :
    ∀ (fs : List Field) (off : Nat) (xs : List (DataW H × List MemPlace)), (fs.mapM fun f => r f.type ((cs.drop f.offset).take (P.cellsOf f.type))) = some xs →
    (∀ f ∈ fs, ∀ c x, c.length = P.cellsOf f.type → r f.type c = some x → ∃ X, RepC w I X c ∧ A f.type X) →
    (∀ (j : Nat) f, fs[j]? = some f → f.offset = off + ((fs.take j).map fun f => P.cellsOf f.type).sum) → off + (fs.map fun f => P.cellsOf f.type).sum = cs.length →
    ∃ l, l.length = fs.length ∧ RepCs w I l (cs.drop off) ∧ ∀ (j : Nat) fl x, fs[j]? = some fl → l[j]? = some x → A fl.type x
  | [], off, xs, _, _, _, hs => ⟨[], rfl, by simp at hs; simp only [RepCs]; exact List.drop_of_length_le (by omega), fun j fl x h => by simp at h⟩
  | f :: fs, off, xs, hm, hr, ho, hs => by
    simp only [List.map_cons, List.sum_cons] at hs
    rw [List.mapM_cons] at hm
    cases h1 : r f.type ((cs.drop f.offset).take (P.cellsOf f.type)) with
    | none => simp [h1] at hm
    | some y =>
      cases h2 : fs.mapM fun f => r f.type ((cs.drop f.offset).take (P.cellsOf f.type)) with
      | none => simp [h1, h2] at hm
      | some ys =>
        have hoff : f.offset = off := by simpa using ho 0 f rfl
        rw [hoff] at h1
        obtain ⟨X, k1, k2⟩ := hr f List.mem_cons_self _ y (by rw [List.length_take, List.length_drop]; omega) h1
        obtain ⟨l, k3, k4, k5⟩ := open_fields fs (off + P.cellsOf f.type) ys h2 (fun g hg => hr g (List.mem_cons_of_mem _ hg)) (fun j g hj => by
          have := ho (j + 1) g (by simpa using hj)
          simp only [List.take_succ_cons, List.map_cons, List.sum_cons] at this
          omega) (by omega)
        refine ⟨X :: l, by simp [k3], ?_, fun j fl x hj hx => ?_⟩
        · simp only [RepCs]
          refine ⟨_, _, ?_, k1, k4⟩
          rw [← List.drop_drop, List.take_append_drop]
        · cases j with
          | zero => simp at hj hx; subst hj; subst hx; exact k2
          | succ j => exact k5 j fl x (by simpa using hj) (by simpa using hx)

theorem repCs_ints {w : World} {I : Nat → Nat → Prop} : ∀ l : List Int, RepCs w I (l.map fun x => .v (.int .i64 x)) (l.map fun x => Value.int .i64 x)
  | [] => by simp only [List.map_nil, RepCs]
  | x :: l => by
    simp only [List.map_cons, RepCs]
    exact ⟨[.int .i64 x], _, rfl, by simp only [RepC]; exact ⟨rfl, rfl⟩, repCs_ints l⟩

theorem open_av (K : Kids P (· < P.types.size)) (hS : dataTys P S = true) : ∀ (n : Nat) (T : TypeId) (cs : List Value) (x : DataW H × List MemPlace), T ∈ S →
    DataW.trod enc P w 0 (fun _ => true) true n T cs = some x → ∃ X, RepC w (fun b _ => b < w.heap.size) X cs ∧ AVT P n T X := by
  intro n
  induction n with
  | zero => intro T cs x _ h; simp [DataW.trod] at h
  | succ n ih =>
    intro T cs x hT h
    have hd := List.all_eq_true.1 hS T hT
    simp only [Bool.and_eq_true, decide_eq_true_eq] at hd
    obtain ⟨hlt, hd⟩ := hd
    rw [DataW.trod_step] at h
    unfold DataW.trodStep at h
    simp only [AVT]
    split at h
    case h_1 b hu =>
      rw [hu]
      exact ⟨_, by simp only [RepC]; exact ⟨rfl, rfl⟩, b, rfl⟩
    case h_2 k k' m hu =>
      rw [hu]
      split at h
      · rename_i hk
        obtain ⟨rfl, hw⟩ := hk
        exact ⟨_, by simp only [RepC]; exact ⟨rfl, rfl⟩, m, rfl, hw⟩
      · cases h
    case h_3 hu => rw [hu] at hd; cases hd
    case h_4 s hu =>
      rw [hu]
      split at h
      · rename_i hs
        exact ⟨_, by simp only [RepC]; exact ⟨rfl, rfl⟩, s, rfl, hs⟩
      · cases h
    case h_5 hu => rw [hu] at hd; cases hd
    case h_6 hu => rw [hu] at hd; cases hd
    case h_7 e hu =>
      rw [hu]
      exact ⟨.sl (P.cellsOf e) [], by simp only [RepC]; exact ⟨_, rfl, .inl ⟨none, 0, rfl, trivial, Nat.zero_le _, fun _ => rfl⟩⟩, [], rfl, fun x hx => by cases hx⟩
    case h_8 e a len cap hu =>
      rw [hu] at hd ⊢
      simp only [Bool.and_eq_true, decide_eq_true_eq] at hd
      obtain ⟨heS, hce⟩ := hd
      have heS : e ∈ S := by simpa using heS
      simp only at h
      split at h
      · rename_i hc
        obtain ⟨_, hlc, hcm⟩ := hc
        simp only [Option.map_eq_some_iff, Option.bind_eq_some_iff] at h
        obtain ⟨elems, he, rest, hrest, rfl⟩ := h
        rcases Nat.eq_zero_or_pos len with h0 | h0
        · subst h0
          exact ⟨.sl (P.cellsOf e) [], by simp only [RepC]; exact ⟨_, rfl, .inl ⟨some a, cap, rfl, trivial, hcm, fun h => by cases h⟩⟩, [], rfl, fun x hx => by cases hx⟩
        · have one : ∀ i, i < len → ∃ c y, w.cells? 0 (a.add (i * P.cellsOf e)) (P.cellsOf e) = some c ∧ DataW.trod enc P w 0 (fun _ => true) true n e c = some y := by
            intro i hi
            obtain ⟨y, _, hy⟩ := mapM_get he i i (by simp [hi])
            simp only [Option.bind_eq_some_iff] at hy
            obtain ⟨c, h1, h2⟩ := hy
            exact ⟨c, y, h1, h2⟩
          obtain ⟨c0, _, hc0, _⟩ := one 0 h0
          obtain ⟨hsp, _, _, _⟩ := cells_at (by simpa [Addr.add] using hc0) hce
          obtain ⟨b, o, s⟩ := a
          simp only at hsp
          subst hsp
          obtain ⟨l, hl1, hl2⟩ := list_of (Q := fun i X => (∃ c, c.length = P.cellsOf e ∧ RepC w (fun b _ => b < w.heap.size) X c ∧ CellsAt w (fun b _ => b < w.heap.size) b (o + i * P.cellsOf e) c) ∧ AVT P n e X) len (by
            intro i hi
            obtain ⟨c, y, h1, h2⟩ := one i hi
            obtain ⟨X, k1, k2⟩ := ih e c y heS h2
            rw [addr_add] at h1
            obtain ⟨_, k3, _, k4⟩ := cells_at h1 hce
            exact ⟨X, ⟨c, k3, k1, k4⟩, k2⟩)
          refine ⟨.sl (P.cellsOf e) l, ?_, l, rfl, fun x hx => ?_⟩
          · simp only [RepC]
            refine ⟨_, rfl, .inr ⟨b, o, cap, by rw [hl1], by omega, hcm, repM_of l b o fun i x hx => (hl2 i x hx).1⟩⟩
          · obtain ⟨i, hi⟩ := List.getElem?_of_mem hx
            exact (hl2 i x hi).2
      · cases h
    case h_9 fs hu =>
      rw [hu] at hd ⊢
      split at h
      · rename_i hlen
        simp only [Option.map_eq_some_iff] at h
        obtain ⟨xs, hx, rfl⟩ := h
        obtain ⟨_, k1, k2⟩ := K.struct hlt hu
        obtain ⟨l, k3, k4, k5⟩ := open_fields (w := w) (I := fun b _ => b < w.heap.size) (A := fun t X => AVT P n t X) fs.toList 0 xs hx
          (fun f hf c x _ hr => ih f.type c x (by simpa using List.all_eq_true.1 hd f hf) hr)
          (fun j f hj => by rw [Nat.zero_add]; exact k2 j f hj) (by rw [Nat.zero_add, ← k1]; exact hlen.symm)
        exact ⟨.agg l, by simpa only [RepC, List.drop_zero] using k4, l, rfl, k3, k5⟩
      · cases h
    case h_10 cs _ _ m e hu =>
      rw [hu] at hd ⊢
      simp only [Bool.and_eq_true, decide_eq_true_eq] at hd
      obtain ⟨hce, hub⟩ := hd
      split at h
      · rename_i hlen
        simp only [Option.map_eq_some_iff] at h
        obtain ⟨xs, hx, rfl⟩ := h
        have hcl : cs.length = m := by rw [hlen, (K.array hlt hu).2, hce, Nat.mul_one]
        have hub' : P.underlying e = some (.int .u8) ∨ P.underlying e = some (.int .i64) := by
          cases he : P.underlying e with
          | none => rw [he] at hub; cases hub
          | some d =>
            rw [he] at hub
            cases d <;> first | cases hub | skip
            rename_i k
            cases k <;> first | exact .inl rfl | exact .inr rfl | cases hub
        rcases hub' with hub' | hub'
        case inr =>
          simp only [hub']
          obtain ⟨l, hl1, hl2⟩ := list_of (Q := fun i (b : Int) => cs[i]? = some (.int .i64 b) ∧ (Lit.int .i64 b).wf = true) m (by
            intro i hi
            obtain ⟨y, _, hy⟩ := mapM_get hx i i (by simp [hi])
            rw [hce, Nat.mul_one] at hy
            have e1 : (cs.drop i).take 1 = [cs[i]] := by
              rw [List.drop_eq_getElem_cons (by omega)]; rfl
            rw [e1] at hy
            cases n with
            | zero => simp [DataW.trod] at hy
            | succ n =>
              rw [DataW.trod_step] at hy
              unfold DataW.trodStep at hy
              rw [hub'] at hy
              cases hv : cs[i] with
              | int k q =>
                rw [hv] at hy
                simp only at hy
                split at hy
                · rename_i hk
                  obtain ⟨rfl, hw⟩ := hk
                  exact ⟨q, by rw [List.getElem?_eq_getElem (by omega), hv], hw⟩
                · cases hy
              | _ => rw [hv] at hy; simp at hy)
          have ecs : cs = l.map fun x => Value.int .i64 x := by
            apply List.ext_getElem?
            intro i
            rcases Nat.lt_or_ge i m with hi | hi
            · rw [(hl2 i l[i] (by rw [List.getElem?_eq_getElem])).1, List.getElem?_map, List.getElem?_eq_getElem (by omega)]
              rfl
            · rw [List.getElem?_eq_none (by omega), List.getElem?_eq_none (by simp; omega)]
          refine ⟨.agg (l.map fun x => .v (.int .i64 x)), by simp only [RepC]; rw [ecs]; exact repCs_ints l, l, rfl, hl1, fun x hx => ?_⟩
          obtain ⟨i, hi⟩ := List.getElem?_of_mem hx
          exact (hl2 i x hi).2
        simp only [hub']
        obtain ⟨l, hl1, hl2⟩ := list_of (Q := fun i (b : UInt8) => cs[i]? = some (byteV b)) m (by
          intro i hi
          obtain ⟨y, _, hy⟩ := mapM_get hx i i (by simp [hi])
          rw [hce, Nat.mul_one] at hy
          have e1 : (cs.drop i).take 1 = [cs[i]] := by
            rw [List.drop_eq_getElem_cons (by omega)]; rfl
          rw [e1] at hy
          cases n with
          | zero => simp [DataW.trod] at hy
          | succ n =>
            rw [DataW.trod_step] at hy
            unfold DataW.trodStep at hy
            rw [hub'] at hy
            cases hv : cs[i] with
            | int k q =>
              rw [hv] at hy
              simp only at hy
              split at hy
              · rename_i hk
                obtain ⟨rfl, hw⟩ := hk
                refine ⟨UInt8.ofNat q.toNat, ?_⟩
                rw [List.getElem?_eq_getElem (by omega), hv]
                have : 0 ≤ q ∧ q < 256 := by
                  have e1 : IntKind.u8.min = 0 := by decide
                  have e2 : IntKind.u8.max = 255 := by decide
                  simp [Lit.wf, e1, e2] at hw; omega
                simp only [byteV, Option.some.injEq, Value.int.injEq, true_and]
                simp [UInt8.toNat_ofNat']
                omega
              · cases hy
            | _ => rw [hv] at hy; simp at hy)
        refine ⟨.arr m l, ?_, l, rfl, hl1⟩
        simp only [RepC]
        refine ⟨?_, hl1⟩
        apply List.ext_getElem?
        intro i
        rcases Nat.lt_or_ge i m with hi | hi
        · rw [hl2 i l[i] (by rw [List.getElem?_eq_getElem]), List.getElem?_map, List.getElem?_eq_getElem (by omega)]
          rfl
        · rw [List.getElem?_eq_none (by omega), List.getElem?_eq_none (by simp; omega)]
      · cases h
    all_goals
      rename_i hu
      first
        | (rw [hu] at hd; cases hd)
        | cases h
        | (exfalso; simp_all)

theorem open_arg (K : Kids P (· < P.types.size)) (hS : dataTys P S = true) {r : Reach} {b0 : Nat} {T : TypeId} {v : Value} {d : DataW H} {ps : List MemPlace} (hT : T ∈ S) (hval : Value.okWide P w r b0 T v)
    (h : DataW.Trod enc P w 0 (fun _ => true) true T v d ps) : ∃ n X, Rep w (fun b _ => b < w.heap.size) X v ∧ AVT P n T X := by
  obtain ⟨n, hn⟩ := h
  obtain ⟨X, h1, h2⟩ := open_av K hS n T _ _ hT hn
  refine ⟨n, X, ⟨_, h1, ?_⟩, h2⟩
  cases n with
  | zero => exact h2.elim
  | succ n =>
    simp only [AVT] at h2
    unfold Value.okWide at hval
    split at h2 <;> (try exact h2.elim) <;> rename_i hu <;> rw [hu] at hval <;> simp only at hval
    · obtain ⟨b, rfl⟩ := h2
      unfold Cell.okWide at hval; rw [hu] at hval; unfold Cell.ok at hval; rw [hu] at hval
      cases v <;> first | rfl | exact hval.elim
    · obtain ⟨b, rfl, _⟩ := h2
      unfold Cell.okWide at hval; rw [hu] at hval; unfold Cell.ok at hval; rw [hu] at hval
      cases v <;> first | rfl | exact hval.elim
    · obtain ⟨b, rfl, _⟩ := h2
      unfold Cell.okWide at hval; rw [hu] at hval; unfold Cell.ok at hval; rw [hu] at hval
      cases v <;> first | rfl | exact hval.elim
    · obtain ⟨l, rfl, _⟩ := h2
      unfold Cell.okWide at hval; rw [hu] at hval; unfold Cell.ok at hval; rw [hu] at hval
      cases v <;> first | rfl | exact hval.elim
    · obtain ⟨l, rfl, _⟩ := h2
      obtain ⟨cs, rfl, _⟩ := hval
      simp [mkV, AV.isAgg, Value.cells]
    · split at h2
      · obtain ⟨l, rfl, _⟩ := h2
        obtain ⟨cs, rfl, _⟩ := hval
        simp [mkV, AV.isAgg, Value.cells]
      · obtain ⟨l, rfl, _⟩ := h2
        obtain ⟨cs, rfl, _⟩ := hval
        simp [mkV, AV.isAgg, Value.cells]

/-- What came in reads again az it did. -/
theorem again (K : Kids P (· < P.types.size)) (hz : ∀ t e, t < P.types.size → P.underlying t = some (.slice e) → 0 < P.cellsOf e) {w' : World} (hb : Below w.heap.size w w') :
    ∀ {ts : List TypeId} {vs : List Value} {ds : List (DataW H)} {ps : List MemPlace}, (∀ t ∈ ts, t < P.types.size) → DataW.TrodAll enc P w 0 (fun _ => true) true ts vs ds ps →
      DataW.TrodAll enc P w' 0 (fun b => decide (b < w.heap.size)) true ts vs ds ps := by
  intro ts vs ds ps hT h
  have hlt := h.lt
  have h1 := DataW.TrodAll.respare (spare' := fun b => decide (b < w.heap.size)) K hz hT h (fun p hp => by simpa using hlt p hp)
  have hsame : ∀ p ∈ ps, w.sameAt w' p := fun p hp => by
    have := hb.block p.block (hlt p hp)
    cases p with
    | cell b o => exact World.cell?_of_block (w := w) this
    | map b => exact this
  clear h hlt hT
  have key : ∀ (ts : List TypeId) (vs : List Value) (ds : List (DataW H)) (ps : List MemPlace), DataW.TrodAll enc P w 0 (fun b => decide (b < w.heap.size)) true ts vs ds ps → (∀ p ∈ ps, w.sameAt w' p) →
      DataW.TrodAll enc P w' 0 (fun b => decide (b < w.heap.size)) true ts vs ds ps := by
    intro ts
    induction ts with
    | nil => intro vs ds ps h _; cases vs <;> cases ds <;> exact h
    | cons t ts ih =>
      intro vs ds ps h hs
      cases vs with
      | nil => exact h
      | cons v vs =>
        cases ds with
        | nil => exact h
        | cons d ds =>
          obtain ⟨p, q, ⟨n, hn⟩, h2, e⟩ := h
          exact ⟨p, q, ⟨n, DataW.trod_carry n _ _ _ hn (fun x hx => hs x (by rw [e]; exact List.mem_append_left _ hx))⟩, ih _ _ _ h2 (fun x hx => hs x (by rw [e]; exact List.mem_append_right _ hx)), e⟩
  exact key _ _ _ _ h1 hsame
end
end Go.Al

namespace Go.Al
open Go.RowKit
section
variable {P : Program}

def AVTs (P : Program) (n : Nat) : List TypeId → List AV → Prop
  | [], [] => True
  | t :: ts, x :: xs => AVT P n t x ∧ AVTs P n ts xs
  | _, _ => False

theorem avts_of {n : Nat} : ∀ {tys : List TypeId} {l : List AV}, l.length = tys.length → (∀ (j : Nat) t x, tys[j]? = some t → l[j]? = some x → AVT P n t x) → AVTs P n tys l
  | [], [], _, _ => trivial
  | [], _ :: _, h, _ => by simp at h
  | _ :: _, [], h, _ => by simp at h
  | t :: ts, x :: xs, h, k => ⟨k 0 t x rfl rfl, avts_of (by simpa using h) fun j t' x' h1 h2 => k (j + 1) t' x' (by simpa using h1) (by simpa using h2)⟩

theorem AVT.struct {n : Nat} {T : TypeId} {X : AV} {fs : Array Field} {tys : List TypeId} (h : AVT P n T X) (hu : P.underlying T = some (.struct fs)) (ht : fs.toList.map (·.type) = tys) : ∃ m l, n = m + 1 ∧ X = .agg l ∧ AVTs P m tys l := by
  cases n with
  | zero => exact h.elim
  | succ n =>
    simp only [AVT, hu] at h
    obtain ⟨l, h1, h2, h3⟩ := h
    refine ⟨n, l, rfl, h1, avts_of (by rw [h2, ← ht]; simp) fun j t x hj hx => ?_⟩
    rw [← ht, List.getElem?_map] at hj
    cases hf : fs.toList[j]? with
    | none => rw [hf] at hj; cases hj
    | some fl => rw [hf] at hj; cases hj; exact h3 j fl x hf hx
theorem AVT.sl {n w : Nat} {T e : TypeId} {X : AV} (h : AVT P n T X) (hu : P.underlying T = some (.slice e)) (hw : P.cellsOf e = w) : ∃ m l, n = m + 1 ∧ X = .sl w l ∧ ∀ x ∈ l, AVT P m e x := by
  cases n with
  | zero => exact h.elim
  | succ n =>
    simp only [AVT, hu] at h
    obtain ⟨l, h1, h2⟩ := h
    exact ⟨n, l, rfl, by rw [← hw]; exact h1, h2⟩
theorem AVT.int {n : Nat} {T : TypeId} {X : AV} {k : IntKind} (h : AVT P n T X) (hu : P.underlying T = some (.int k)) : ∃ i, X = .v (.int k i) ∧ (Lit.int k i).wf = true := by
  cases n with
  | zero => exact h.elim
  | succ n => simp only [AVT, hu] at h; exact h
theorem AVT.str {n : Nat} {T : TypeId} {X : AV} (h : AVT P n T X) (hu : P.underlying T = some .string) : ∃ s : ByteArray, X = .v (.string s) ∧ s.size ≤ maxLen := by
  cases n with
  | zero => exact h.elim
  | succ n => simp only [AVT, hu] at h; exact h
theorem AVT.bool {n : Nat} {T : TypeId} {X : AV} (h : AVT P n T X) (hu : P.underlying T = some .bool) : ∃ b, X = .v (.bool b) := by
  cases n with
  | zero => exact h.elim
  | succ n => simp only [AVT, hu] at h; exact h
theorem AVT.arr {n m : Nat} {T e : TypeId} {X : AV} (h : AVT P n T X) (hu : P.underlying T = some (.array m e)) (he : P.underlying e = some (.int .u8)) : ∃ l : List UInt8, X = .arr m l ∧ l.length = m := by
  cases n with
  | zero => exact h.elim
  | succ n => simp only [AVT, hu, he] at h; exact h
theorem AVT.ints {n m : Nat} {T e : TypeId} {X : AV} (h : AVT P n T X) (hu : P.underlying T = some (.array m e)) (he : P.underlying e = some (.int .i64)) : ∃ l : List Int, X = .agg (l.map fun x => .v (.int .i64 x)) ∧ l.length = m ∧ ∀ x ∈ l, (Lit.int .i64 x).wf = true := by
  cases n with
  | zero => exact h.elim
  | succ n => simp only [AVT, hu, he] at h; exact h

theorem list_img {α : Type} {f : α → AV} {Q : α → Prop} : ∀ {l : List AV}, (∀ x ∈ l, ∃ g, x = f g ∧ Q g) → ∃ gs : List α, l = gs.map f ∧ ∀ g ∈ gs, Q g
  | [], _ => ⟨[], rfl, fun g h => by cases h⟩
  | x :: l, h => by
    obtain ⟨g, h1, h2⟩ := h x List.mem_cons_self
    obtain ⟨gs, h3, h4⟩ := list_img (l := l) fun y hy => h y (List.mem_cons_of_mem _ hy)
    refine ⟨g :: gs, by rw [h1, h3]; rfl, fun y hy => ?_⟩
    rcases List.mem_cons.1 hy with rfl | hy
    · exact h2
    · exact h4 y hy

theorem wf_i64 {i : Int} (h : (Lit.int .i64 i).wf = true) : -9223372036854775808 ≤ i ∧ i < 9223372036854775808 := by
  have : -9223372036854775808 ≤ i ∧ i ≤ 9223372036854775807 := by simpa [Lit.wf, IntKind.min, IntKind.max, IntKind.signed, IntKind.bits] using h
  omega
end
end Go.Al

namespace Go.Al
open Go.RowKit

/-! ### How long the texts of a row that comes in may be; a variable of one cell -/
theorem weightsAll_mem {H : Type} {P : Program} {e : TypeId} : ∀ {ds : List (DataW H)} {i : Nat} {d : DataW H}, ds[i]? = some d → ∀ n ∈ d.weights P e, n ∈ DataW.weightsAll P e ds
  | [], i, d, h, _, _ => by simp at h
  | d0 :: ds, 0, d, h, n, hn => by
    simp only [List.getElem?_cons_zero, Option.some.injEq] at h
    subst h
    simp only [DataW.weightsAll, List.mem_append]; exact .inl hn
  | d0 :: ds, i + 1, d, h, n, hn => by
    simp only [List.getElem?_cons_succ] at h
    simp only [DataW.weightsAll, List.mem_append]; exact .inr (weightsAll_mem h n hn)
theorem strs_sized {H : Type} {enc : TypeId × Value → H} {P : Program} {w : World} {T e : TypeId} (hu : P.underlying T = some (.slice e)) (he : P.underlying e = some .string) (hce : P.cellsOf e = 1) {v : Value} {d : DataW H} {ps : List MemPlace} {I : Nat → Nat → Prop} {l : List ByteArray}
    (hr : Rep w I (.sl 1 (l.map fun x => .v (.string x))) v) (ht : DataW.Trod enc P w 0 (fun _ => true) true T v d ps) (hz : ∀ n ∈ d.weights P T, n ≤ reachBytes) : ∀ x ∈ l, x.size ≤ 140737488351232 := by
  obtain ⟨n, hn⟩ := ht
  obtain ⟨c, h1, rfl⟩ := hr
  simp only [RepC] at h1
  obtain ⟨v, rfl, h1⟩ := h1
  have hv : mkV (.sl 1 (l.map fun x => .v (.string x))) [v] = v := rfl
  rw [hv] at hn
  cases n with
  | zero => simp [DataW.trod] at hn
  | succ n =>
  rcases h1 with ⟨p, cap, rfl, hl, _⟩ | ⟨b, o, cap, rfl, h2, h3, h4⟩
  · intro x hx
    have : l = [] := by simpa using hl
    subst this; cases hx
  · rw [DataW.trod_step] at hn
    unfold DataW.trodStep at hn
    rw [hu, show (Value.slice (some ⟨b, o, none⟩) (l.map fun x => AV.v (.string x)).length cap).cells.toList = [Value.slice (some ⟨b, o, none⟩) (l.map fun x => AV.v (.string x)).length cap] from rfl] at hn
    simp only at hn
    split at hn
    · simp only [Option.map_eq_some_iff, Option.bind_eq_some_iff] at hn
      obtain ⟨elems, hel, rest, hrest, hd⟩ := hn
      intro x hx
      obtain ⟨i, hi⟩ := List.getElem?_of_mem hx
      have hil := (List.getElem?_eq_some_iff.1 hi).1
      obtain ⟨y, hy1, hy2⟩ := mapM_get hel i i (by simp [hil])
      simp only [Option.bind_eq_some_iff] at hy2
      obtain ⟨c, k1, k2⟩ := hy2
      rw [hce, Nat.mul_one, addr_add] at k1
      obtain ⟨_, k3, _, k4⟩ := cells_at k1 (by decide)
      obtain ⟨c', _, k5, k6⟩ := repM_get _ b o i (.v (.string x)) h4 (by rw [List.getElem?_map, hi]; rfl)
      simp only [RepC] at k5
      have e1 : c' = [.string x] := k5.1
      subst e1
      have e2 : c = [.string x] := by
        cases c with
        | nil => simp at k3
        | cons c0 cs =>
          have : cs = [] := by simpa using k3
          subst this
          have q1 := (k4 0 (by simp)).1
          have q2 := (k6 0 (by simp)).1
          simp only [Nat.mul_one] at q2
          rw [q1] at q2
          have := Option.some.inj q2
          simpa using this
      subst e2
      cases n with
      | zero => simp [DataW.trod] at k2
      | succ n =>
      rw [DataW.trod_step] at k2
      unfold DataW.trodStep at k2
      rw [he] at k2
      simp only at k2
      split at k2
      · have e3 := congrArg Prod.fst (Option.some.inj k2)
        simp only at e3
        have hm : x.data.toList.length ∈ d.weights P T := by
          have e4 := congrArg Prod.fst hd
          simp only at e4
          rw [← e4]
          simp only [DataW.weights, hu, List.mem_cons, List.mem_append]
          refine .inr (.inl (weightsAll_mem (i := i) (d := y.1) (by rw [List.getElem?_map, hy1]; rfl) _ ?_))
          rw [← e3]
          simp [DataW.weights]
        have := hz _ hm
        rw [Array.length_toList] at this
        exact this
      · cases k2
    · cases hn
/-- A package variable of one cell. -/
theorem glob_cell {w : World} {g : Nat} {v : Value} (hp : plain v = true) (hc0 : v.cells.toList = [v]) (h : w.cell? ⟨g, 0, none⟩ = some v) : Glob [(g, .v v)] w (fun b _ => b < w.heap.size) := by
  intro p hp'
  cases List.mem_singleton.1 hp'
  refine ⟨[v], by simp only [RepC]; exact ⟨hc0.symm, by simp [hp]⟩, fun j hj => ?_⟩
  have hj0 : j = 0 := by simpa using hj
  subst hj0
  refine ⟨by simpa using h, ?_⟩
  show g < w.heap.size
  have : w.heap.size ≤ g → False := by
    intro hle
    simp only [World.cell?] at h
    rw [Array.getElem?_eq_none hle] at h
    cases h
  exact Nat.lt_of_not_le this
end Go.Al

namespace Go.Proofs
open Go Go.Al
set_option maxRecDepth 10000
def dtys : List TypeId := [3, 4, 5, 9, 28, 29, 42, 47, 49, 50, 51, 52, 53, 55, 57, 58, 60, 61, 63, 64, 66, 81, 135, 146, 148, 151, 159]
theorem dtys_ok : dataTys Tryd.prog dtys = true := by kernel_rfl
theorem kids : Kids Tryd.prog (· < Tryd.prog.types.size) := kids_rows (by kernel_rfl) (by kernel_rfl)
theorem full : ∀ t e, t < Tryd.prog.types.size → Tryd.prog.underlying t = some (.slice e) → 0 < Tryd.prog.cellsOf e := slices_full_of _ (by kernel_rfl)
theorem co29 : Tryd.prog.cellsOf 9 = 1 := by kernel_rfl
theorem in_strs {n : Nat} {X : AV} (h : AVT Tryd.prog n 29 X) : ∃ l : List ByteArray, X = .sl 1 (l.map fun x => sv x) ∧ ∀ x ∈ l, x.size ≤ maxLen := by
  obtain ⟨m, l, rfl, rfl, e⟩ := AVT.sl h Tryd.underlying29 co29
  obtain ⟨az, rfl, o⟩ := list_img (f := fun x => sv x) (Q := fun x : ByteArray => x.size ≤ maxLen) fun x hx => by obtain ⟨s, rfl, w⟩ := AVT.str (e x hx) Tryd.underlying9; exact ⟨s, rfl, w⟩
  exact ⟨az, rfl, o⟩

theorem in_codes {n : Nat} {X : AV} (h : AVT Tryd.prog n 42 X) : ∃ p : Int × Int, X = .agg [iv p.1, iv p.2] ∧ (-9223372036854775808 ≤ p.1 ∧ p.1 < 9223372036854775808) ∧ (-9223372036854775808 ≤ p.2 ∧ p.2 < 9223372036854775808) := by
  obtain ⟨l, rfl, hl, hw⟩ := AVT.ints h Tryd.underlying42 Tryd.underlying28
  match l, hl with
  | [a, b], _ => exact ⟨(a, b), rfl, wf_i64 (hw a (by simp)), wf_i64 (hw b (by simp))⟩

end Go.Proofs

