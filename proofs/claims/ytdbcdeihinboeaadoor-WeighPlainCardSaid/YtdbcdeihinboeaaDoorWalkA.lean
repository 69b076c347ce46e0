/- The walks through functions of the program: each function returns what its Lean function says, and leaves the old memory alone. Conditions: sizes, as typed. -/
import Derived.Test.YtdbcdeihinboeaaDoorVal
import Derived.Test.YtdbcdeihinboeaaDoorTy
set_option linter.unusedSimpArgs false
set_option linter.unusedVariables false
namespace Go.Proofs
open Go Go.Al
set_option maxRecDepth 10000
set_option maxHeartbeats 400000 in
theorem dgrown_c (xs : List AV) (hw : W1 xs) (hl : xs.length ≤ 1000000000000) : MCall Tryd.prog Γ0 179 [.imm (.sl 1 xs)] [] (.slg 3009 1 xs) [(3009, .tok 1 xs)] := by
  refine mcall_of (rs := [.slg 3009 1 xs]) Tryd.func179 rfl Tryd.ntmps179 (by kernel_rfl) rfl rfl rfl rfl rfl fun w0 I0 G0 E => ?_
  refine aw_seq ?_
  refine aw_region ?_
  refine g_u (s_as_imm rfl rfl) ?_
  refine g_nil ?_
  refine normal_thn ?_
  refine aw_seq ?_
  refine aw_region ?_
  refine g_u (s_mv_imm rfl rfl) ?_
  refine g_u (s_lenL rfl rfl Tryd.underlying102) ?_
  refine g_u (s_mv_imm rfl rfl) ?_
  refine g_u (s_lenL rfl rfl Tryd.underlying102) ?_
  refine g_u (s_add rfl rfl rfl) ?_
  refine g_uG (s_makeSlice 1009 (X0 := z5) (len := xs.length) (cap := xs.length + 21) rfl rfl rfl rfl rfl rfl (by ((try simp only [decide_eq_true_eq, decide_eq_false_iff_not, bne_iff_ne, ne_eq, beq_iff_eq, bne_eq_false_iff_eq, beq_eq_false_iff_ne, Bool.not_eq_true', Bool.not_eq_false', gt_iff_lt, ge_iff_le] at *); (repeat simp (disch := omega) only [wrap64, wrap32] at *)); omega) Tryd.underlying102 tS5 tZ5 rfl rfl by5 (by omega) (by omega) (by omega)) rfl ?_
  refine g_u (s_as_osl rfl rfl) ?_
  refine g_nil ?_
  refine normal_thn ?_
  refine aw_seq ?_
  refine aw_region ?_
  refine g_u (s_mv_osl rfl rfl) ?_
  refine g_u (s_mv_imm rfl rfl) ?_
  refine g_u (s_copy_in (el := 5) (el' := 0) (T1 := 0) rfl rfl rfl rfl rfl Tryd.underlying102 tS5 (by intro x hx; rw [List.eq_of_mem_replicate hx]; rfl) (by simp <;> omega)) ?_
  refine g_nil ?_
  refine normal_thn ?_
  refine aw_freezeW 1009 3009 1 (xs) [(0, .imm (.sl 1 xs)), (3, .slg 3009 1 xs)] rfl rfl rfl rfl rfl rfl rfl ⟨.inl rfl, .inr (.inl ⟨rfl, rfl⟩), trivial⟩ (cp_w (hw) rfl) (by rw [← cp_len rfl (by simp <;> omega)]; simp <;> omega) (by omega) (by unfold maxLen; omega) (cp_take rfl (by simp <;> omega)) ?_
  refine aw_seq ?_
  refine aw_region ?_
  refine g_u (s_mv_slg rfl rfl) ?_
  refine g_u (s_as_slg rfl rfl) ?_
  refine g_nil ?_
  refine normal_thn ?_
  refine aw_ret ?_
  exact ⟨⟨.inr ⟨_, rfl, (by rfl), rfl⟩, trivial⟩, ⟨rfl, trivial⟩⟩

set_option maxHeartbeats 400000 in
theorem dlay_c (xs : List AV) (u : Int) (h : 0 ≤ u ∧ u < 18446744073709551616) (hl : xs.length ≤ 1000000000000) : MCall Tryd.prog Γ0 180 [.slg 100001 1 xs, .imm (uv u)] [(100001, .tok 1 xs)] (.slg 100001 1 (xs ++ bytesL (natB u.toNat))) [(100001, .tok 1 (xs ++ bytesL (natB u.toNat)))] := by
  refine mcall_of (rs := [.slg 100001 1 (xs ++ bytesL (natB u.toNat))]) Tryd.func180 rfl Tryd.ntmps180 (by kernel_rfl) rfl rfl rfl rfl rfl fun w0 I0 G0 E => ?_
  refine aw_seq ?_
  refine aw_region ?_
  refine g_u (s_as_imm rfl rfl) ?_
  refine g_nil ?_
  refine normal_thn ?_
  refine aw_seq ?_
  refine aw_region ?_
  refine g_uG (s_alloc' 1005 rfl rfl rfl tZ254) rfl ?_
  refine g_nil ?_
  refine normal_thn ?_
  refine aw_seq ?_
  refine aw_region ?_
  refine g_u (s_as_imm rfl rfl) ?_
  refine g_nil ?_
  refine normal_thn ?_
  refine aw_seq ?_
  refine aw_block ?_
  refine aw_loop' (fun j : Nat × Int × Bs => [(0, .slg 100001 1 xs), (100001, .tok 1 xs), (1, .imm (uv j.2.1)), (5, .ptr 1005 0), (1005, .box 254 (.imm (.arr 20 j.2.2))), (6, .imm (iv (j.1 : Int)))]) (fun j => 1 ≤ j.1 ∧ j.1 ≤ 20 ∧ j.2.2.length = 20 ∧ (0 ≤ j.2.1 ∧ j.2.1 < 18446744073709551616 ∧ j.2.1 < 10 ^ j.1) ∧ natF j.1 j.2.1.toNat ++ j.2.2.drop j.1 = natB u.toNat) (fun j => j.1) (⟨20, u, List.replicate 20 0⟩) ?_ ⟨rfl, rfl, rfl, rfl, rfl, rfl, trivial⟩ ?_
  · exact ⟨by dsimp only; omega, by dsimp only; omega, by simp, ⟨h.1, h.2, by have := h.2; show u < 10 ^ 20; omega⟩, by rw [show (List.replicate 20 (0 : UInt8)).drop 20 = [] from rfl, List.append_nil]; rfl⟩
  · rintro ⟨i, v, l⟩ ⟨h1, h2, h3, h4, h5⟩; dsimp only at h1 h2 h3 h4 h5; obtain ⟨i, rfl⟩ : ∃ k, i = k + 1 := ⟨i - 1, by omega⟩; have e0 : 0 + (IntKind.i64.wrap (((i + 1 : Nat) : Int) - 1)).toNat = i := by rw [wrap64 (by omega) (by omega)]; omega
    refine aw_block ?_
    refine aw_seq ?_
    refine aw_region ?_
    refine g_u (s_mv_imm rfl rfl) ?_
    refine g_u (s_sub rfl rfl rfl) ?_
    refine g_u (s_as_imm rfl rfl) ?_
    refine g_nil ?_
    refine normal_thn ?_
    refine aw_seq ?_
    refine aw_region ?_
    refine g_u (s_mv_imm rfl rfl) ?_
    refine g_u (s_mv_imm rfl rfl) ?_
    refine g_u (s_rem rfl rfl rfl (by first | decide | omega | (((try simp only [decide_eq_true_eq, decide_eq_false_iff_not, bne_iff_ne, ne_eq, beq_iff_eq, bne_eq_false_iff_eq, beq_eq_false_iff_ne, Bool.not_eq_true', Bool.not_eq_false', gt_iff_lt, ge_iff_le] at *); (repeat simp (disch := omega) only [wrap64, wrap32] at *)); omega))) ?_
    refine g_u (s_cvII rfl rfl Tryd.underlying29 Tryd.underlying5) ?_
    refine g_u (s_add rfl rfl rfl) ?_
    refine g_u (s_ixOwn rfl rfl rfl Tryd.underlying254 tS5 (by ((try simp only [decide_eq_true_eq, decide_eq_false_iff_not, bne_iff_ne, ne_eq, beq_iff_eq, bne_eq_false_iff_eq, beq_eq_false_iff_ne, Bool.not_eq_true', Bool.not_eq_false', gt_iff_lt, ge_iff_le] at *); (repeat simp (disch := omega) only [wrap64, wrap32] at *)); omega)) ?_
    refine g_u (s_storeByte rfl rfl rfl tS5 (by ((try simp only [decide_eq_true_eq, decide_eq_false_iff_not, bne_iff_ne, ne_eq, beq_iff_eq, bne_eq_false_iff_eq, beq_eq_false_iff_ne, Bool.not_eq_true', Bool.not_eq_false', gt_iff_lt, ge_iff_le] at *); (repeat simp (disch := omega) only [wrap64, wrap32] at *)); omega) (wrap8_lt _)) ?_
    refine g_nil ?_
    refine normal_thn ?_
    refine aw_seq ?_
    refine aw_region ?_
    refine g_u (s_mv_imm rfl rfl) ?_
    refine g_u (s_quo rfl rfl rfl (by first | decide | omega | (((try simp only [decide_eq_true_eq, decide_eq_false_iff_not, bne_iff_ne, ne_eq, beq_iff_eq, bne_eq_false_iff_eq, beq_eq_false_iff_ne, Bool.not_eq_true', Bool.not_eq_false', gt_iff_lt, ge_iff_le] at *); (repeat simp (disch := omega) only [wrap64, wrap32] at *)); omega))) ?_
    refine g_u (s_as_imm rfl rfl) ?_
    refine g_nil ?_
    refine normal_thn ?_
    refine aw_seq ?_
    refine aw_region ?_
    refine g_u (s_mv_imm rfl rfl) ?_
    refine g_u (s_eqI rfl rfl rfl) ?_
    refine g_nil ?_
    refine normal_thn ?_
    refine aw_cond rfl (fun hb1 => ?_) (fun hb1 => ?_)
    · skip
      refine aw_exit ?_
      refine exit_blk_ne rfl ?_
      refine exit_thn ?_
      refine exit_blk ?_
      refine normal_thn ?_
      refine aw_seq ?_
      refine aw_region ?_
      refine g_u (s_mv_slg rfl rfl) ?_
      refine g_u (s_mv_imm rfl rfl) ?_
      refine g_u (s_slOwn_l rfl rfl rfl rfl rfl Tryd.underlying254 tS5 rfl (by ((try simp only [decide_eq_true_eq, decide_eq_false_iff_not, bne_iff_ne, ne_eq, beq_iff_eq, bne_eq_false_iff_eq, beq_eq_false_iff_ne, Bool.not_eq_true', Bool.not_eq_false', gt_iff_lt, ge_iff_le] at *); (repeat simp (disch := omega) only [wrap64, wrap32] at *)); omega)) ?_
      refine g_u (s_append rfl rfl rfl rfl rfl Tryd.underlying102 Tryd.underlying102 tS5 zv5 rfl (by decide) by5 (by simp only [bytesL_len, List.length_drop, List.length_set]; omega) (by simp only [bytesL_len, List.length_drop, List.length_set]; omega)) ?_
      refine g_u (s_as_slg rfl rfl) ?_
      refine g_nil ?_
      refine normal_thn ?_
      refine aw_ret ?_
      change (IntKind.u64.wrap (v.tdiv 10) == 0) = true at hb1
      have e1 : IntKind.u64.wrap (v.tdiv 10) = v / 10 := by rw [tdiv_pos v 10 h4.1 (by decide), wrapu64 (by omega) (by omega)]
      rw [e1] at hb1
      have hu : v < 10 := by have : v / 10 = 0 := (by simpa using hb1); omega
      have E : bytesL ((l.set (0 + (IntKind.i64.wrap (((i + 1 : Nat) : Int) - 1)).toNat) (ofI (IntKind.u8.wrap (48 + IntKind.u8.wrap (v.tmod 10))))).drop (IntKind.i64.wrap (((i + 1 : Nat) : Int) - 1)).toNat) = bytesL (natB u.toNat) := by rw [Nat.zero_add] at e0; rw [Nat.zero_add, e0, tmod_pos v 10 h4.1, dig_av h4.1, set_drop (by omega), ← h5, natF_stop h4.1 hu]; rfl
      exact ⟨⟨.inr ⟨_, rfl, look_slg rfl (congrArg (xs ++ ·) E), rfl⟩, trivial⟩, ⟨look_tok rfl (congrArg (xs ++ ·) E), trivial⟩⟩
    · skip
      refine aw_skip ?_
      refine normal_blk ?_
      refine normal_thn ?_
      have e1 : IntKind.u64.wrap (v.tdiv 10) = v / 10 := by rw [tdiv_pos v 10 h4.1 (by decide), wrapu64 (by omega) (by omega)]
      change (IntKind.u64.wrap (v.tdiv 10) == 0) = false at hb1
      rw [e1] at hb1
      have hu : 10 ≤ v := by have : v / 10 ≠ 0 := (by simpa using hb1); omega
      have hi : 1 ≤ i := by rcases Nat.eq_zero_or_pos i with rfl | hi; (simp at h4; omega); exact hi
      refine ⟨⟨i, IntKind.u64.wrap (v.tdiv 10), l.set (0 + (IntKind.i64.wrap (((i + 1 : Nat) : Int) - 1)).toNat) (ofI (IntKind.u8.wrap (48 + IntKind.u8.wrap (v.tmod 10))))⟩, ⟨hi, by dsimp only; omega, by simpa using h3, ?_, ?_⟩, ⟨rfl, rfl, rfl, rfl, rfl, look_int rfl (by rw [wrap64 (by omega) (by omega)]; omega), trivial⟩, Nat.lt_succ_self _⟩
      · dsimp only; rw [e1]; refine ⟨by omega, by omega, ?_⟩; have := h4.2.2; rw [Int.pow_succ] at this; omega
      · dsimp only; rw [e0, e1, tmod_pos v 10 h4.1, dig_av h4.1, set_drop (by omega)]; rw [natF_step h4.1 hu] at h5; simpa using h5

set_option maxHeartbeats 400000 in
theorem dput_c (l : Bs) (n : Int) (h : -9223372036854775808 ≤ n ∧ n < 9223372036854775808) (hl : l.length ≤ 100000000000) : PCall Tryd.prog Γ0 114 [.sl 1 (bytesL l), iv n] [.sl 1 (bytesL (l ++ decB n))] := by
  have hb := bytesL_len l
  have u0 : n < 0 → IntKind.u64.wrap (0 - IntKind.u64.wrap n) = -n := fun hn => by simp [IntKind.wrap, IntKind.bits, IntKind.signed]; omega
  have u1 : ¬ n < 0 → IntKind.u64.wrap n = n := fun hn => wrapu64 (by omega) (by omega)
  refine pcall_of Tryd.func114 rfl Tryd.ntmps114 (by kernel_rfl) rfl fun w0 I0 G0 => ?_
  refine aw_seq ?_
  refine aw_region ?_
  refine g_u (s_as_imm rfl rfl) ?_
  refine g_nil ?_
  refine normal_thn ?_
  refine aw_seq ?_
  refine aw_region ?_
  refine g_u (s_mv_imm rfl rfl) ?_
  refine g_uG (s_mcall [(3009, 20001)] (dgrown_c _ (by first | assumption | exact W1.bytes _) (by first | assumption | omega)) rfl rfl ⟨.inl rfl, trivial⟩ trivial rfl rfl rfl) rfl ?_
  refine g_u (s_as_slg rfl rfl) ?_
  refine g_nil ?_
  refine normal_thn ?_
  refine aw_seq ?_
  refine aw_seq ?_
  refine aw_region ?_
  refine g_u (s_mv_imm rfl rfl) ?_
  refine g_u (s_ltI rfl rfl rfl) ?_
  refine g_nil ?_
  refine normal_thn ?_
  refine aw_cond rfl (fun hb1 => ?_) (fun hb1 => ?_)
  · skip
    refine aw_seq ?_
    refine aw_region ?_
    refine g_u (s_mv_slg rfl rfl) ?_
    refine g_u (s_buildSlice (X0 := z5) rfl Tryd.underlying102 tS5 tZ5 rfl rfl rfl rfl rfl rfl rfl rfl) ?_
    refine g_u (s_append rfl rfl rfl rfl rfl Tryd.underlying102 Tryd.underlying102 tS5 zv5 rfl (by decide) by5 (by simp only [List.length_cons, List.length_nil]; omega) (by simp only [List.length_cons, List.length_nil]; omega)) ?_
    refine g_u (s_mv_imm rfl rfl) ?_
    refine g_u (s_cvII rfl rfl Tryd.underlying3 Tryd.underlying29) ?_
    refine g_u (s_neg rfl rfl) ?_
    refine g_uG (s_mcall [(100001, 20001)] (dlay_c _ _ (by rw [u0 (by simpa using hb1)]; have : n < 0 := (by simpa using hb1); omega) (by simp only [List.length_append, List.length_cons, List.length_nil]; omega)) rfl rfl ⟨.inl rfl, .inl rfl, trivial⟩ ⟨rfl, trivial⟩ rfl rfl rfl) rfl ?_
    refine g_u (s_as_slg rfl rfl) ?_
    refine g_nil ?_
    refine normal_thn ?_
    refine aw_ret ?_
    refine ret_thn ?_
    exact ⟨⟨(rfl : toAV (Al.look _ _) = some _).trans (congrArg some (by (rw [u0 (by simpa using hb1)]; unfold decB; rw [if_pos (by simpa using hb1)]; rw [List.append_assoc]; simp only [← bytesL_app]; rfl))), rfl⟩, trivial⟩
  · skip
    refine aw_skip ?_
    refine normal_thn ?_
    refine aw_seq ?_
    refine aw_region ?_
    refine g_u (s_mv_slg rfl rfl) ?_
    refine g_u (s_mv_imm rfl rfl) ?_
    refine g_u (s_cvII rfl rfl Tryd.underlying3 Tryd.underlying29) ?_
    refine g_uG (s_mcall [(100001, 20001)] (dlay_c _ _ (by rw [u1 (by simpa using hb1)]; have : ¬ n < 0 := (by simpa using hb1); omega) (by omega)) rfl rfl ⟨.inl rfl, .inl rfl, trivial⟩ ⟨rfl, trivial⟩ rfl rfl rfl) rfl ?_
    refine g_u (s_as_slg rfl rfl) ?_
    refine g_nil ?_
    refine normal_thn ?_
    refine aw_ret ?_
    exact ⟨⟨(rfl : toAV (Al.look _ _) = some _).trans (congrArg some (by (rw [u1 (by simpa using hb1)]; unfold decB; rw [if_neg (by simpa using hb1)]; rw [bytesL_app]))), rfl⟩, trivial⟩

set_option maxHeartbeats 400000 in
theorem wgrown_c (xs : List AV) (m : Int) (hm : 0 ≤ m ∧ m ≤ 1000) (hw : W1 xs) (hl : xs.length ≤ 1000000000000) : MCall Tryd.prog Γ0 265 [.imm (.sl 1 xs), .imm (iv m)] [] (.slg 3012 1 xs) [(3012, .tok 1 xs)] := by
  refine mcall_of (rs := [.slg 3012 1 xs]) Tryd.func265 rfl Tryd.ntmps265 (by kernel_rfl) rfl rfl rfl rfl rfl fun w0 I0 G0 E => ?_
  refine aw_seq ?_
  refine aw_region ?_
  refine g_u (s_as_imm rfl rfl) ?_
  refine g_nil ?_
  refine normal_thn ?_
  refine aw_seq ?_
  refine aw_region ?_
  refine g_u (s_mv_imm rfl rfl) ?_
  refine g_u (s_lenL rfl rfl Tryd.underlying102) ?_
  refine g_u (s_mv_imm rfl rfl) ?_
  refine g_u (s_lenL rfl rfl Tryd.underlying102) ?_
  refine g_u (s_mv_imm rfl rfl) ?_
  refine g_u (s_add rfl rfl rfl) ?_
  refine g_uG (s_makeSlice 1012 (X0 := z5) (len := xs.length) (cap := xs.length + m.toNat) rfl rfl rfl rfl rfl rfl (by ((try simp only [decide_eq_true_eq, decide_eq_false_iff_not, bne_iff_ne, ne_eq, beq_iff_eq, bne_eq_false_iff_eq, beq_eq_false_iff_ne, Bool.not_eq_true', Bool.not_eq_false', gt_iff_lt, ge_iff_le] at *); (repeat simp (disch := omega) only [wrap64, wrap32] at *)); omega) Tryd.underlying102 tS5 tZ5 rfl rfl by5 (by omega) (by omega) (by omega)) rfl ?_
  refine g_u (s_as_osl rfl rfl) ?_
  refine g_nil ?_
  refine normal_thn ?_
  refine aw_seq ?_
  refine aw_region ?_
  refine g_u (s_mv_osl rfl rfl) ?_
  refine g_u (s_mv_imm rfl rfl) ?_
  refine g_u (s_copy_in (el := 5) (el' := 0) (T1 := 0) rfl rfl rfl rfl rfl Tryd.underlying102 tS5 (by intro x hx; rw [List.eq_of_mem_replicate hx]; rfl) (by simp <;> omega)) ?_
  refine g_nil ?_
  refine normal_thn ?_
  refine aw_freezeW 1012 3012 1 (xs) [(0, .imm (.sl 1 xs)), (5, .slg 3012 1 xs)] rfl rfl rfl rfl rfl rfl rfl ⟨.inl rfl, .inr (.inl ⟨rfl, rfl⟩), trivial⟩ (cp_w (hw) rfl) (by rw [← cp_len rfl (by simp <;> omega)]; simp <;> omega) (by omega) (by unfold maxLen; omega) (cp_take rfl (by simp <;> omega)) ?_
  refine aw_seq ?_
  refine aw_region ?_
  refine g_u (s_mv_slg rfl rfl) ?_
  refine g_u (s_as_slg rfl rfl) ?_
  refine g_nil ?_
  refine normal_thn ?_
  refine aw_ret ?_
  exact ⟨⟨.inr ⟨_, rfl, (by rfl), rfl⟩, trivial⟩, ⟨rfl, trivial⟩⟩

set_option maxHeartbeats 400000 in
theorem high_c (l : Bs) (u : Int) (h : 0 ≤ u ∧ u < 18446744073709551616) (hl : l.length ≤ 100000000000) : PCall Tryd.prog Γ0 245 [.sl 1 (bytesL l), uv u] [.sl 1 (bytesL (l ++ be 8 u.toNat))] := by
  have hb := bytesL_len l
  refine pcall_of Tryd.func245 rfl Tryd.ntmps245 (by kernel_rfl) rfl fun w0 I0 G0 => ?_
  refine aw_seq ?_
  refine aw_region ?_
  refine g_u (s_as_imm rfl rfl) ?_
  refine g_nil ?_
  refine normal_thn ?_
  refine aw_seq ?_
  refine aw_region ?_
  refine g_u (s_mv_imm rfl rfl) ?_
  refine g_uG (s_mcall [(3012, 20001)] (wgrown_c _ _ (by decide) (by first | assumption | exact W1.bytes _) (by first | assumption | omega)) rfl rfl ⟨.inl rfl, .inl rfl, trivial⟩ trivial rfl rfl rfl) rfl ?_
  refine g_u (s_as_slg rfl rfl) ?_
  refine g_nil ?_
  refine normal_thn ?_
  refine aw_seq ?_
  refine aw_seq ?_
  refine aw_region ?_
  refine g_u (s_mv_imm rfl rfl) ?_
  refine g_nil ?_
  refine normal_thn ?_
  refine aw_block ?_
  refine aw_loop' (fun j : Nat × List AV => [(1, .imm (uv u)), (5, .slg 20001 1 j.2), (20001, .tok 1 j.2), (9, .imm (iv (j.1 : Int)))]) (fun j => j.1 ≤ 8 ∧ j.2 = bytesL l ++ bytesL ((be 8 u.toNat).take j.1)) (fun j => 8 - j.1) (⟨0, bytesL l⟩) ?_ ⟨rfl, rfl, rfl, rfl, trivial⟩ ?_
  · exact ⟨Nat.zero_le _, (List.append_nil _).symm⟩
  · rintro ⟨i, ys⟩ ⟨h1, h2⟩; dsimp only at h1 h2; have hlen : ys.length ≤ l.length + 8 := by rw [h2, List.length_append, bytesL_len, bytesL_len, List.length_take, be_length]; omega
    refine aw_seq ?_
    refine aw_region ?_
    refine g_u (s_ltI rfl rfl rfl) ?_
    refine g_nil ?_
    refine normal_thn ?_
    refine aw_seq ?_
    refine aw_cond rfl (fun hb1 => ?_) (fun hb1 => ?_)
    · skip
      refine aw_skip ?_
      refine normal_thn ?_
      refine aw_seq ?_
      refine aw_block ?_
      refine aw_seq ?_
      refine aw_region ?_
      refine g_u (s_mv_imm rfl rfl) ?_
      refine g_u (s_as_imm rfl rfl) ?_
      refine g_nil ?_
      refine normal_thn ?_
      refine aw_region ?_
      refine g_u (s_mv_slg rfl rfl) ?_
      refine g_u (s_mv_imm rfl rfl) ?_
      refine g_u (s_mv_imm rfl rfl) ?_
      refine g_u (s_ixGlob rfl rfl rfl Tryd.underlying27 tS5 (by ((try simp only [decide_eq_true_eq, decide_eq_false_iff_not, bne_iff_ne, ne_eq, beq_iff_eq, bne_eq_false_iff_eq, beq_eq_false_iff_ne, Bool.not_eq_true', Bool.not_eq_false', gt_iff_lt, ge_iff_le] at *); (repeat simp (disch := omega) only [wrap64, wrap32] at *)); omega)) ?_
      refine g_u (s_load_cp rfl rfl tA5 tS5 rfl rfl) ?_
      refine g_u (s_shr rfl rfl rfl (by first | decide | exact (bA_lt _ _).1 | omega)) ?_
      refine g_u (s_cvII rfl rfl Tryd.underlying29 Tryd.underlying5) ?_
      refine g_u (s_buildSlice (X0 := z5) rfl Tryd.underlying102 tS5 tZ5 rfl rfl rfl rfl rfl rfl rfl rfl) ?_
      refine g_u (s_append rfl rfl rfl rfl rfl Tryd.underlying102 Tryd.underlying102 tS5 zv5 rfl (by decide) by5 (by (try dsimp only); simp only [List.length_cons, List.length_nil]; omega) (by (try dsimp only); simp only [List.length_cons, List.length_nil]; omega)) ?_
      refine g_u (s_as_slg rfl rfl) ?_
      refine g_nil ?_
      refine normal_blk ?_
      refine normal_thn ?_
      refine aw_region ?_
      refine g_u (s_add rfl rfl rfl) ?_
      refine g_u (s_mv_imm rfl rfl) ?_
      refine g_nil ?_
      refine normal_thn ?_
      change decide ((i : Int) < 8) = true at hb1
      have hi : i < 8 := by have := of_decide_eq_true hb1; omega
      refine ⟨⟨i + 1, _⟩, ⟨hi, ?_⟩, ⟨rfl, rfl, rfl, look_int rfl (by rw [wrap64 (by omega) (by omega)]; rfl), trivial⟩, by dsimp only; omega⟩
      dsimp only
      rw [be8_take _ _ hi, ← bytesL_app, bytesL_one, ← List.append_assoc, ← h2]
      exact congrArg (fun z => ys ++ [z]) (high_av u i h.1 hi)
    · skip
      refine aw_exit ?_
      refine exit_thn ?_
      refine exit_thn ?_
      refine exit_blk ?_
      refine normal_thn ?_
      refine aw_seq ?_
      refine aw_region ?_
      refine g_u (s_mv_slg rfl rfl) ?_
      refine g_u (s_as_slg rfl rfl) ?_
      refine g_nil ?_
      refine normal_thn ?_
      refine aw_ret ?_
      change decide ((i : Int) < 8) = false at hb1
      have hi : i = 8 := by have := of_decide_eq_false hb1; omega
      exact ⟨⟨(rfl : toAV (Al.look _ _) = some _).trans (congrArg (fun z => some (AV.sl 1 z)) (by rw [h2, hi, bytesL_app, List.take_of_length_le (Nat.le_of_eq (be_length 8 _))])), rfl⟩, trivial⟩

set_option maxHeartbeats 400000 in
theorem hput_c (l : Bs) (s : ByteArray) (hs : s.size ≤ 100000000000) (hl : l.length ≤ 100000000000) : PCall Tryd.prog Γ0 246 [.sl 1 (bytesL l), sv s] [.sl 1 (bytesL (l ++ hexB (lst s)))] := by
  have hb := bytesL_len l
  have hz := lst_len s
  refine pcall_of Tryd.func246 rfl Tryd.ntmps246 (by kernel_rfl) rfl fun w0 I0 G0 => ?_
  refine aw_seq ?_
  refine aw_region ?_
  refine g_u (s_as_imm rfl rfl) ?_
  refine g_nil ?_
  refine normal_thn ?_
  refine aw_seq ?_
  refine aw_region ?_
  refine g_u (s_mv_imm rfl rfl) ?_
  refine g_u (s_lenL rfl rfl Tryd.underlying102) ?_
  refine g_u (s_mv_imm rfl rfl) ?_
  refine g_u (s_lenL rfl rfl Tryd.underlying102) ?_
  refine g_u (s_mv_imm rfl rfl) ?_
  refine g_u (s_lenS rfl rfl Tryd.underlying9) ?_
  refine g_u (s_mul rfl rfl rfl) ?_
  refine g_u (s_add rfl rfl rfl) ?_
  refine g_uG (s_makeSlice 1015 (X0 := z5) (len := (bytesL l).length) (cap := (bytesL l).length + 2 * s.size) rfl rfl rfl rfl rfl rfl (by ((try simp only [decide_eq_true_eq, decide_eq_false_iff_not, bne_iff_ne, ne_eq, beq_iff_eq, bne_eq_false_iff_eq, beq_eq_false_iff_ne, Bool.not_eq_true', Bool.not_eq_false', gt_iff_lt, ge_iff_le] at *); (repeat simp (disch := omega) only [wrap64, wrap32] at *)); omega) Tryd.underlying102 tS5 tZ5 rfl rfl by5 (by omega) (by omega) (by omega)) rfl ?_
  refine g_u (s_as_osl rfl rfl) ?_
  refine g_nil ?_
  refine normal_thn ?_
  refine aw_seq ?_
  refine aw_region ?_
  refine g_u (s_mv_osl rfl rfl) ?_
  refine g_u (s_mv_imm rfl rfl) ?_
  refine g_u (s_copy_in (el := 5) (el' := 0) (T1 := 0) rfl rfl rfl rfl rfl Tryd.underlying102 tS5 (by intro x hx; rw [List.eq_of_mem_replicate hx]; rfl) (by simp <;> omega)) ?_
  refine g_nil ?_
  refine normal_thn ?_
  refine aw_freezeW 1015 3015 1 (bytesL l) [(0, .imm (.sl 1 (bytesL l))), (1, .imm (sv s)), (5, .slg 3015 1 (bytesL l))] rfl rfl rfl rfl rfl rfl rfl ⟨.inl rfl, .inl rfl, .inr (.inl ⟨rfl, rfl⟩), trivial⟩ (cp_w (W1.bytes l) rfl) (by rw [← cp_len rfl (by simp <;> omega)]; simp <;> omega) (by omega) (by unfold maxLen; omega) (cp_take rfl (by simp <;> omega)) ?_
  refine aw_seq ?_
  refine aw_seq ?_
  refine aw_region ?_
  refine g_u (s_mv_imm rfl rfl) ?_
  refine g_u (s_lenS rfl rfl Tryd.underlying9) ?_
  refine g_u (s_mv_imm rfl rfl) ?_
  refine g_nil ?_
  refine normal_thn ?_
  refine aw_block ?_
  refine aw_loop' (fun j : Nat × List AV => [(1, .imm (sv s)), (5, .slg 3015 1 j.2), (3015, .tok 1 j.2), (20, .imm (iv (s.size : Int))), (21, .imm (iv (j.1 : Int)))]) (fun j => j.1 ≤ s.size ∧ j.2 = bytesL l ++ bytesL (hexB ((lst s).take j.1))) (fun j => s.size - j.1) (⟨0, bytesL l⟩) ?_ ⟨rfl, rfl, rfl, rfl, rfl, trivial⟩ ?_
  · exact ⟨Nat.zero_le _, (List.append_nil _).symm⟩
  · rintro ⟨i, ys⟩ ⟨h1, h2⟩; dsimp only at h1 h2; have hlen : ys.length ≤ l.length + 2 * s.size := by rw [h2, List.length_append, bytesL_len, bytesL_len, hexB_length, List.length_take]; omega
    refine aw_seq ?_
    refine aw_region ?_
    refine g_u (s_ltI rfl rfl rfl) ?_
    refine g_nil ?_
    refine normal_thn ?_
    refine aw_seq ?_
    refine aw_cond rfl (fun hb1 => ?_) (fun hb1 => ?_)
    · skip
      refine aw_skip ?_
      refine normal_thn ?_
      refine aw_seq ?_
      refine aw_block ?_
      refine aw_seq ?_
      refine aw_region ?_
      refine g_u (s_mv_imm rfl rfl) ?_
      refine g_u (s_as_imm rfl rfl) ?_
      refine g_nil ?_
      refine normal_thn ?_
      refine aw_draw mixed ?_
      refine g_u (s_mv_slg rfl rfl) ?_
      refine g_u (s_mv_imm rfl rfl) ?_
      refine g_u (s_mv_imm rfl rfl) ?_
      refine g_u (si_ix rfl rfl rfl Tryd.underlying9 (by ((try simp only [decide_eq_true_eq, decide_eq_false_iff_not, bne_iff_ne, ne_eq, beq_iff_eq, bne_eq_false_iff_eq, beq_eq_false_iff_ne, Bool.not_eq_true', Bool.not_eq_false', gt_iff_lt, ge_iff_le] at *); (repeat simp (disch := omega) only [wrap64, wrap32] at *)); omega)) ?_
      refine g_u (s_shr rfl rfl rfl (by first | decide | omega | (((try simp only [decide_eq_true_eq, decide_eq_false_iff_not, bne_iff_ne, ne_eq, beq_iff_eq, bne_eq_false_iff_eq, beq_eq_false_iff_ne, Bool.not_eq_true', Bool.not_eq_false', gt_iff_lt, ge_iff_le] at *); (repeat simp (disch := omega) only [wrap64, wrap32] at *)); omega))) ?_
      refine g_u (si_ix rfl rfl rfl Tryd.underlying9 (by rw [shr4 _ (bAt_lt _ _)]; have := bAt_lt s (i : Int); show 0 ≤ bAt s (i : Int) / 16 ∧ bAt s (i : Int) / 16 < 16; omega)) ?_
      refine g_u (s_mv_imm rfl rfl) ?_
      refine g_u (s_mv_imm rfl rfl) ?_
      refine g_u (si_ix rfl rfl rfl Tryd.underlying9 (by ((try simp only [decide_eq_true_eq, decide_eq_false_iff_not, bne_iff_ne, ne_eq, beq_iff_eq, bne_eq_false_iff_eq, beq_eq_false_iff_ne, Bool.not_eq_true', Bool.not_eq_false', gt_iff_lt, ge_iff_le] at *); (repeat simp (disch := omega) only [wrap64, wrap32] at *)); omega)) ?_
      refine g_u (s_and rfl rfl rfl) ?_
      refine g_u (si_ix rfl rfl rfl Tryd.underlying9 (by rw [and15 _ (bAt_lt _ _)]; have := bAt_lt s (i : Int); show 0 ≤ bAt s (i : Int) % 16 ∧ bAt s (i : Int) % 16 < 16; omega)) ?_
      refine g_u (s_buildSlice (X0 := z5) rfl Tryd.underlying102 tS5 tZ5 rfl rfl rfl rfl rfl rfl rfl rfl) ?_
      refine g_u (s_append rfl rfl rfl rfl rfl Tryd.underlying102 Tryd.underlying102 tS5 zv5 rfl (by decide) by5 (by (try dsimp only); simp only [List.length_cons, List.length_nil]; omega) (by (try dsimp only); simp only [List.length_cons, List.length_nil]; omega)) ?_
      refine g_u (s_as_slg rfl rfl) ?_
      refine g_nil ⟨by kernel_rfl, ?_⟩
      refine normal_blk ?_
      refine normal_thn ?_
      refine aw_region ?_
      refine g_u (s_add rfl rfl rfl) ?_
      refine g_u (s_mv_imm rfl rfl) ?_
      refine g_nil ?_
      refine normal_thn ?_
      change decide ((i : Int) < (s.size : Int)) = true at hb1
      have hi : i < s.size := by have := of_decide_eq_true hb1; omega
      obtain ⟨c, hc1, hc2⟩ := bAt_nat s i hi
      refine ⟨⟨i + 1, _⟩, ⟨hi, ?_⟩, ⟨rfl, rfl, rfl, rfl, look_int rfl (by rw [wrap64 (by omega) (by omega)]; rfl), trivial⟩, by dsimp only; omega⟩
      dsimp only
      rw [take_snoc hc1, hexB_append, ← bytesL_app, ← List.append_assoc, ← h2]
      have hlt := c.toNat_lt
      have f1 : bAt digs ((bAt s (i : Int)).fdiv (2 ^ (min (4 : Int).toNat IntKind.u8.bits))) = (hexD (c.toNat / 16)).toNat := by rw [shr4 _ (bAt_lt _ _), hc2, hexD_bAt _ (by omega)]; congr 1
      have f2 : bAt digs (bitsOf (· &&& ·) .u8 (bAt s (i : Int)) 15) = (hexD (c.toNat % 16)).toNat := by rw [and15 _ (bAt_lt _ _), hc2, hexD_bAt _ (by omega)]; congr 1
      show ys ++ [AV.v (.int .u8 (bAt digs ((bAt s (i : Int)).fdiv (2 ^ (min (4 : Int).toNat IntKind.u8.bits))))), AV.v (.int .u8 (bAt digs (bitsOf (· &&& ·) .u8 (bAt s (i : Int)) 15)))] = _
      rw [byte_av f1, byte_av f2]
      rfl
    · skip
      refine aw_exit ?_
      refine exit_thn ?_
      refine exit_thn ?_
      refine exit_blk ?_
      refine normal_thn ?_
      refine aw_seq ?_
      refine aw_region ?_
      refine g_u (s_mv_slg rfl rfl) ?_
      refine g_u (s_as_slg rfl rfl) ?_
      refine g_nil ?_
      refine normal_thn ?_
      refine aw_ret ?_
      change decide ((i : Int) < (s.size : Int)) = false at hb1
      have hi : i = s.size := by have := of_decide_eq_false hb1; omega
      exact ⟨⟨(rfl : toAV (Al.look _ _) = some _).trans (congrArg (fun z => some (AV.sl 1 z)) (by rw [h2, hi, bytesL_app, List.take_of_length_le (Nat.le_of_eq hz)])), rfl⟩, trivial⟩

set_option maxHeartbeats 400000 in
theorem htext_c (s : ByteArray) (hs : s.size ≤ 100000000000) : PCall Tryd.prog Γ0 222 [sv s] [sv (strOf (hexB (lst s)))] := by
  refine pcall_of Tryd.func222 rfl Tryd.ntmps222 (by kernel_rfl) rfl fun w0 I0 G0 => ?_
  refine aw_seq ?_
  refine aw_region ?_
  refine g_u (s_as_imm rfl rfl) ?_
  refine g_nil ?_
  refine normal_thn ?_
  refine aw_seq ?_
  refine aw_region ?_
  refine g_u (s_mv_imm rfl rfl) ?_
  refine g_u (s_call1 (nil1 (n := 1) (hput_c [] _ (by first | assumption | omega) (by simp))) rfl rfl) ?_
  refine g_u (s_cvBS' (rfl) rfl rfl Tryd.underlying102 Tryd.underlying9 Tryd.underlying5) ?_
  refine g_u (s_as_imm rfl rfl) ?_
  refine g_nil ?_
  refine normal_thn ?_
  refine aw_ret ?_
  exact ⟨⟨(rfl : toAV (Al.look _ _) = some _).trans (congrArg some (by rfl)), rfl⟩, trivial⟩

set_option maxHeartbeats 400000 in
theorem jput1_c (xs : List AV) (t : ByteArray) (hl : xs.length + t.size ≤ 1000000000000) : MCall Tryd.prog Γ0 267 [.imm (sv t), .ptr 100001 0] [(100001, .box 102 (.slg 100002 1 xs)), (100002, .tok 1 xs)] (.tup []) [(100001, .box 102 (.slg 100002 1 (xs ++ bytesL t.data.toList))), (100002, .tok 1 (xs ++ bytesL t.data.toList))] := by
  refine mcall_of (rs := []) Tryd.func267 rfl Tryd.ntmps267 (by kernel_rfl) rfl rfl rfl rfl rfl fun w0 I0 G0 E => ?_
  refine aw_region ?_
  refine g_u (s_load_slg rfl rfl rfl tA102 tS102 rfl rfl) ?_
  refine g_u (s_mv_imm rfl rfl) ?_
  refine g_u (s_appendS rfl rfl rfl rfl rfl Tryd.underlying102 Tryd.underlying9 tS5 zv5 rfl by5 (by omega) (by omega)) ?_
  refine g_u (s_store rfl rfl rfl rfl tS102 rfl rfl) ?_
  refine g_nil ?_
  exact ⟨trivial, ⟨rfl, rfl, trivial⟩⟩

set_option maxHeartbeats 400000 in
theorem each_c (xs : List AV) (s : ByteArray) (hs : s.size ≤ 100000000000) (hl : xs.length ≤ 100000000000) : MCall Tryd.prog Γ0 266 [.imm (sv s), .fnv (.func 267) [] [.ptr 100001 0]] [(100001, .box 102 (.slg 100002 1 xs)), (100002, .tok 1 xs)] (.tup []) [(100001, .box 102 (.slg 100002 1 (xs ++ bytesL (quoteB (lst s))))), (100002, .tok 1 (xs ++ bytesL (quoteB (lst s))))] := by
  have hz := lst_len s
  have c1 : (ByteArray.mk #[92]).size = 1 := rfl
  have c4 : (ByteArray.mk #[92, 117, 48, 48]).size = 4 := rfl
  have c0 : (ByteArray.mk #[34]).size = 1 := rfl
  refine mcall_of (rs := []) Tryd.func266 rfl Tryd.ntmps266 (by kernel_rfl) rfl rfl rfl rfl rfl fun w0 I0 G0 E => ?_
  refine aw_seq ?_
  refine aw_region ?_
  refine g_u (s_mv_fnv rfl rfl) ?_
  refine g_uG (s_mcallv [(100001, 100001), (100002, 100002)] (jput1_c _ _ (by first | omega | (show _ + 1 ≤ _; (try dsimp only); omega) | (have q := hx (of_decide_eq_true hb1); simp only [app_size, strOf_size, hexB_length, lst_len, q]; (try dsimp only); omega))) rfl rfl rfl ⟨.inl rfl, .inl rfl, trivial⟩ ⟨rfl, rfl, trivial⟩ rfl rfl rfl) rfl ?_
  refine g_nil ?_
  refine normal_thn ?_
  refine aw_seq ?_
  refine aw_seq ?_
  refine aw_region ?_
  refine g_u (s_mv_imm rfl rfl) ?_
  refine g_u (s_lenS rfl rfl Tryd.underlying9) ?_
  refine g_u (s_mv_imm rfl rfl) ?_
  refine g_nil ?_
  refine normal_thn ?_
  refine aw_block ?_
  refine aw_loop' (fun j : Nat × List AV => [(0, .imm (sv s)), (1, .fnv (.func 267) [] [.ptr 100001 0]), (100001, .box 102 (.slg 100002 1 j.2)), (100002, .tok 1 j.2), (9, .imm (iv (s.size : Int))), (10, .imm (iv (j.1 : Int)))]) (fun j => j.1 ≤ s.size ∧ j.2 = xs ++ bytesL (34 :: escs ((lst s).take j.1))) (fun j => s.size - j.1) (⟨0, xs ++ bytesL (ByteArray.mk #[34]).data.toList⟩) ?_ ⟨rfl, rfl, rfl, rfl, rfl, rfl, trivial⟩ ?_
  · exact ⟨Nat.zero_le _, rfl⟩
  · rintro ⟨i, ys⟩ ⟨h1, h2⟩; dsimp only at h1 h2; have hlen : ys.length ≤ xs.length + 1 + 6 * s.size := by have := escs_length ((lst s).take i); rw [h2, List.length_append, bytesL_len, List.length_cons]; rw [List.length_take] at this; omega
    have e2 : i < s.size → (IntKind.i64.wrap ((i : Int) + 1)).toNat = i + 1 := fun h => by rw [wrap64 (by omega) (by omega)]; omega
    have hx : (i : Int) < (s.size : Int) → (s.extract (i : Int).toNat (IntKind.i64.wrap ((i : Int) + 1)).toNat).size = 1 := fun h => by rw [e2 (by omega), Int.toNat_natCast]; exact ex1_size (by omega)
    refine aw_seq ?_
    refine aw_region ?_
    refine g_u (s_ltI rfl rfl rfl) ?_
    refine g_nil ?_
    refine normal_thn ?_
    refine aw_seq ?_
    refine aw_cond rfl (fun hb1 => ?_) (fun hb1 => ?_)
    · skip
      refine aw_skip ?_
      refine normal_thn ?_
      refine aw_seq ?_
      refine aw_block ?_
      refine aw_seq ?_
      refine aw_region ?_
      refine g_u (s_mv_imm rfl rfl) ?_
      refine g_u (s_as_imm rfl rfl) ?_
      refine g_nil ?_
      refine normal_thn ?_
      refine aw_seq ?_
      refine aw_region ?_
      refine g_u (s_mv_imm rfl rfl) ?_
      refine g_u (s_mv_imm rfl rfl) ?_
      refine g_u (si_ix rfl rfl rfl Tryd.underlying9 (by ((try simp only [decide_eq_true_eq, decide_eq_false_iff_not, bne_iff_ne, ne_eq, beq_iff_eq, bne_eq_false_iff_eq, beq_eq_false_iff_ne, Bool.not_eq_true', Bool.not_eq_false', gt_iff_lt, ge_iff_le] at *); (repeat simp (disch := omega) only [wrap64, wrap32] at *)); omega)) ?_
      refine g_u (s_as_imm rfl rfl) ?_
      refine g_nil ?_
      refine normal_thn ?_
      refine aw_block ?_
      refine aw_seq ?_
      refine aw_region ?_
      refine g_u (s_mv_imm rfl rfl) ?_
      refine g_u (s_eqI rfl rfl rfl) ?_
      refine g_u (s_mv_imm rfl rfl) ?_
      refine g_case (t := 26) rfl ?_
      rintro (hb2 | hb2)
      · rw [hb2]
        refine g_skip rfl rfl rfl ?_
        refine g_skip rfl rfl rfl ?_
        refine g_u (s_pick_t rfl rfl rfl) ?_
        refine g_u (s_as_imm rfl rfl) ?_
        refine g_nil ?_
        refine normal_thn ?_
        refine aw_cond_true rfl ?_
        refine aw_region ?_
        refine g_u (s_mv_fnv rfl rfl) ?_
        refine g_u (s_mv_imm rfl rfl) ?_
        refine g_u (s_mv_imm rfl rfl) ?_
        refine g_u (s_mv_imm rfl rfl) ?_
        refine g_u (s_add rfl rfl rfl) ?_
        refine g_u (si_lh rfl rfl rfl rfl Tryd.underlying9 (by ((try simp only [decide_eq_true_eq, decide_eq_false_iff_not, bne_iff_ne, ne_eq, beq_iff_eq, bne_eq_false_iff_eq, beq_eq_false_iff_ne, Bool.not_eq_true', Bool.not_eq_false', gt_iff_lt, ge_iff_le] at *); (repeat simp (disch := omega) only [wrap64, wrap32] at *)); omega)) ?_
        refine g_u (s_catS rfl rfl rfl (by show _ ≤ (9223372036854775807 : Int); have q := hx (of_decide_eq_true hb1); (try dsimp only); simp only [strOf_size, hexB_length, lst_len, q, c1, c4]; omega)) ?_
        refine g_uG (s_mcallv [(100001, 100001), (100002, 100002)] (jput1_c _ _ (by first | omega | (show _ + 1 ≤ _; (try dsimp only); omega) | (have q := hx (of_decide_eq_true hb1); simp only [app_size, strOf_size, hexB_length, lst_len, q]; (try dsimp only); omega))) rfl rfl rfl ⟨.inl rfl, .inl rfl, trivial⟩ ⟨rfl, rfl, trivial⟩ rfl rfl rfl) rfl ?_
        refine g_nil ?_
        refine normal_blk ?_
        refine normal_blk ?_
        refine normal_thn ?_
        refine aw_region ?_
        refine g_u (s_add rfl rfl rfl) ?_
        refine g_u (s_mv_imm rfl rfl) ?_
        refine g_nil ?_
        refine normal_thn ?_
        change decide ((i : Int) < (s.size : Int)) = true at hb1
        have hi : i < s.size := by have := of_decide_eq_true hb1; omega
        obtain ⟨c, hc1, hc2⟩ := bAt_nat s i hi
        refine ⟨⟨i + 1, _⟩, ⟨hi, ?_⟩, ⟨rfl, rfl, rfl, rfl, rfl, look_int rfl (by rw [wrap64 (by omega) (by omega)]; rfl), trivial⟩, by dsimp only; omega⟩
        dsimp only at *
        rw [take_snoc hc1, escs_snoc, ← List.cons_append, ← bytesL_app, ← List.append_assoc, ← h2, e2 hi, Int.toNat_natCast]
        simp only [beq_iff_eq, beq_eq_false_iff_ne, ne_eq, decide_eq_true_eq, decide_eq_false_iff_not] at *
        first | exact esc1 hc1 (.inl (by omega)) | exact esc1 hc1 (.inr (by omega)) | exact esc2 hc1 (by omega) (by omega) (by omega) | exact esc3 hc1 (by omega) (by omega) (by omega)
      · rw [hb2]
        refine g_run rfl rfl (s_mv_imm rfl rfl) ?_
        refine g_run rfl rfl (s_eqI rfl rfl rfl) ?_
        refine g_u (s_pick_f rfl rfl rfl) ?_
        refine g_u (s_as_imm rfl rfl) ?_
        refine g_nil ?_
        refine normal_thn ?_
        refine aw_cond rfl (fun hb3 => ?_) (fun hb3 => ?_)
        · skip
          refine aw_region ?_
          refine g_u (s_mv_fnv rfl rfl) ?_
          refine g_u (s_mv_imm rfl rfl) ?_
          refine g_u (s_mv_imm rfl rfl) ?_
          refine g_u (s_mv_imm rfl rfl) ?_
          refine g_u (s_add rfl rfl rfl) ?_
          refine g_u (si_lh rfl rfl rfl rfl Tryd.underlying9 (by ((try simp only [decide_eq_true_eq, decide_eq_false_iff_not, bne_iff_ne, ne_eq, beq_iff_eq, bne_eq_false_iff_eq, beq_eq_false_iff_ne, Bool.not_eq_true', Bool.not_eq_false', gt_iff_lt, ge_iff_le] at *); (repeat simp (disch := omega) only [wrap64, wrap32] at *)); omega)) ?_
          refine g_u (s_catS rfl rfl rfl (by show _ ≤ (9223372036854775807 : Int); have q := hx (of_decide_eq_true hb1); (try dsimp only); simp only [strOf_size, hexB_length, lst_len, q, c1, c4]; omega)) ?_
          refine g_uG (s_mcallv [(100001, 100001), (100002, 100002)] (jput1_c _ _ (by first | omega | (show _ + 1 ≤ _; (try dsimp only); omega) | (have q := hx (of_decide_eq_true hb1); simp only [app_size, strOf_size, hexB_length, lst_len, q]; (try dsimp only); omega))) rfl rfl rfl ⟨.inl rfl, .inl rfl, trivial⟩ ⟨rfl, rfl, trivial⟩ rfl rfl rfl) rfl ?_
          refine g_nil ?_
          refine normal_blk ?_
          refine normal_blk ?_
          refine normal_thn ?_
          refine aw_region ?_
          refine g_u (s_add rfl rfl rfl) ?_
          refine g_u (s_mv_imm rfl rfl) ?_
          refine g_nil ?_
          refine normal_thn ?_
          change decide ((i : Int) < (s.size : Int)) = true at hb1
          have hi : i < s.size := by have := of_decide_eq_true hb1; omega
          obtain ⟨c, hc1, hc2⟩ := bAt_nat s i hi
          refine ⟨⟨i + 1, _⟩, ⟨hi, ?_⟩, ⟨rfl, rfl, rfl, rfl, rfl, look_int rfl (by rw [wrap64 (by omega) (by omega)]; rfl), trivial⟩, by dsimp only; omega⟩
          dsimp only at *
          rw [take_snoc hc1, escs_snoc, ← List.cons_append, ← bytesL_app, ← List.append_assoc, ← h2, e2 hi, Int.toNat_natCast]
          simp only [beq_iff_eq, beq_eq_false_iff_ne, ne_eq, decide_eq_true_eq, decide_eq_false_iff_not] at *
          first | exact esc1 hc1 (.inl (by omega)) | exact esc1 hc1 (.inr (by omega)) | exact esc2 hc1 (by omega) (by omega) (by omega) | exact esc3 hc1 (by omega) (by omega) (by omega)
        · skip
          refine aw_seq ?_
          refine aw_region ?_
          refine g_u (s_mv_imm rfl rfl) ?_
          refine g_u (s_ltI rfl rfl rfl) ?_
          refine g_u (s_as_imm rfl rfl) ?_
          refine g_nil ?_
          refine normal_thn ?_
          refine aw_cond rfl (fun hb4 => ?_) (fun hb4 => ?_)
          · skip
            refine aw_region ?_
            refine g_u (s_mv_fnv rfl rfl) ?_
            refine g_u (s_mv_imm rfl rfl) ?_
            refine g_u (s_mv_imm rfl rfl) ?_
            refine g_u (s_mv_imm rfl rfl) ?_
            refine g_u (s_add rfl rfl rfl) ?_
            refine g_u (si_lh rfl rfl rfl rfl Tryd.underlying9 (by ((try simp only [decide_eq_true_eq, decide_eq_false_iff_not, bne_iff_ne, ne_eq, beq_iff_eq, bne_eq_false_iff_eq, beq_eq_false_iff_ne, Bool.not_eq_true', Bool.not_eq_false', gt_iff_lt, ge_iff_le] at *); (repeat simp (disch := omega) only [wrap64, wrap32] at *)); omega)) ?_
            refine g_u (s_call1 (htext_c _ (by have q := hx (of_decide_eq_true hb1); (try dsimp only); omega)) rfl rfl) ?_
            refine g_u (s_catS rfl rfl rfl (by show _ ≤ (9223372036854775807 : Int); have q := hx (of_decide_eq_true hb1); (try dsimp only); simp only [strOf_size, hexB_length, lst_len, q, c1, c4]; omega)) ?_
            refine g_uG (s_mcallv [(100001, 100001), (100002, 100002)] (jput1_c _ _ (by first | omega | (show _ + 1 ≤ _; (try dsimp only); omega) | (have q := hx (of_decide_eq_true hb1); simp only [app_size, strOf_size, hexB_length, lst_len, q]; (try dsimp only); omega))) rfl rfl rfl ⟨.inl rfl, .inl rfl, trivial⟩ ⟨rfl, rfl, trivial⟩ rfl rfl rfl) rfl ?_
            refine g_nil ?_
            refine normal_blk ?_
            refine normal_blk ?_
            refine normal_thn ?_
            refine aw_region ?_
            refine g_u (s_add rfl rfl rfl) ?_
            refine g_u (s_mv_imm rfl rfl) ?_
            refine g_nil ?_
            refine normal_thn ?_
            change decide ((i : Int) < (s.size : Int)) = true at hb1
            have hi : i < s.size := by have := of_decide_eq_true hb1; omega
            obtain ⟨c, hc1, hc2⟩ := bAt_nat s i hi
            refine ⟨⟨i + 1, _⟩, ⟨hi, ?_⟩, ⟨rfl, rfl, rfl, rfl, rfl, look_int rfl (by rw [wrap64 (by omega) (by omega)]; rfl), trivial⟩, by dsimp only; omega⟩
            dsimp only at *
            rw [take_snoc hc1, escs_snoc, ← List.cons_append, ← bytesL_app, ← List.append_assoc, ← h2, e2 hi, Int.toNat_natCast]
            simp only [beq_iff_eq, beq_eq_false_iff_ne, ne_eq, decide_eq_true_eq, decide_eq_false_iff_not] at *
            first | exact esc1 hc1 (.inl (by omega)) | exact esc1 hc1 (.inr (by omega)) | exact esc2 hc1 (by omega) (by omega) (by omega) | exact esc3 hc1 (by omega) (by omega) (by omega)
          · skip
            refine aw_region ?_
            refine g_u (s_mv_fnv rfl rfl) ?_
            refine g_u (s_mv_imm rfl rfl) ?_
            refine g_u (s_mv_imm rfl rfl) ?_
            refine g_u (s_mv_imm rfl rfl) ?_
            refine g_u (s_add rfl rfl rfl) ?_
            refine g_u (si_lh rfl rfl rfl rfl Tryd.underlying9 (by ((try simp only [decide_eq_true_eq, decide_eq_false_iff_not, bne_iff_ne, ne_eq, beq_iff_eq, bne_eq_false_iff_eq, beq_eq_false_iff_ne, Bool.not_eq_true', Bool.not_eq_false', gt_iff_lt, ge_iff_le] at *); (repeat simp (disch := omega) only [wrap64, wrap32] at *)); omega)) ?_
            refine g_uG (s_mcallv [(100001, 100001), (100002, 100002)] (jput1_c _ _ (by first | omega | (show _ + 1 ≤ _; (try dsimp only); omega) | (have q := hx (of_decide_eq_true hb1); simp only [app_size, strOf_size, hexB_length, lst_len, q]; (try dsimp only); omega))) rfl rfl rfl ⟨.inl rfl, .inl rfl, trivial⟩ ⟨rfl, rfl, trivial⟩ rfl rfl rfl) rfl ?_
            refine g_nil ?_
            refine normal_blk ?_
            refine normal_blk ?_
            refine normal_thn ?_
            refine aw_region ?_
            refine g_u (s_add rfl rfl rfl) ?_
            refine g_u (s_mv_imm rfl rfl) ?_
            refine g_nil ?_
            refine normal_thn ?_
            change decide ((i : Int) < (s.size : Int)) = true at hb1
            have hi : i < s.size := by have := of_decide_eq_true hb1; omega
            obtain ⟨c, hc1, hc2⟩ := bAt_nat s i hi
            refine ⟨⟨i + 1, _⟩, ⟨hi, ?_⟩, ⟨rfl, rfl, rfl, rfl, rfl, look_int rfl (by rw [wrap64 (by omega) (by omega)]; rfl), trivial⟩, by dsimp only; omega⟩
            dsimp only at *
            rw [take_snoc hc1, escs_snoc, ← List.cons_append, ← bytesL_app, ← List.append_assoc, ← h2, e2 hi, Int.toNat_natCast]
            simp only [beq_iff_eq, beq_eq_false_iff_ne, ne_eq, decide_eq_true_eq, decide_eq_false_iff_not] at *
            first | exact esc1 hc1 (.inl (by omega)) | exact esc1 hc1 (.inr (by omega)) | exact esc2 hc1 (by omega) (by omega) (by omega) | exact esc3 hc1 (by omega) (by omega) (by omega)
    · skip
      refine aw_exit ?_
      refine exit_thn ?_
      refine exit_thn ?_
      refine exit_blk ?_
      refine normal_thn ?_
      refine aw_region ?_
      refine g_u (s_mv_fnv rfl rfl) ?_
      refine g_uG (s_mcallv [(100001, 100001), (100002, 100002)] (jput1_c _ _ (by first | omega | (show _ + 1 ≤ _; (try dsimp only); omega) | (have q := hx (of_decide_eq_true hb1); simp only [app_size, strOf_size, hexB_length, lst_len, q]; (try dsimp only); omega))) rfl rfl rfl ⟨.inl rfl, .inl rfl, trivial⟩ ⟨rfl, rfl, trivial⟩ rfl rfl rfl) rfl ?_
      refine g_nil ?_
      change decide ((i : Int) < (s.size : Int)) = false at hb1
      have hi : i = s.size := by have := of_decide_eq_false hb1; omega
      have h3 : ys ++ bytesL (ByteArray.mk #[34]).data.toList = xs ++ bytesL (quoteB (lst s)) := by rw [h2, hi, List.take_of_length_le (Nat.le_of_eq hz), List.append_assoc, bytesL_app]; rfl
      exact ⟨trivial, look_bslg rfl h3, look_tok rfl h3, trivial⟩

set_option maxHeartbeats 400000 in
theorem jput_c (xs : List AV) (s : ByteArray) (hw : W1 xs) (hs : s.size ≤ 10000000000) (hl : xs.length ≤ 10000000000) : MCall Tryd.prog Γ0 247 [.imm (.sl 1 xs), .imm (sv s)] [] (.slg 3014 1 (xs ++ bytesL (quoteB (lst s)))) [(3014, .tok 1 (xs ++ bytesL (quoteB (lst s))))] := by
  refine mcall_of (rs := [.slg 3014 1 (xs ++ bytesL (quoteB (lst s)))]) Tryd.func247 rfl Tryd.ntmps247 (by kernel_rfl) rfl rfl rfl rfl rfl fun w0 I0 G0 E => ?_
  refine aw_seq ?_
  refine aw_region ?_
  refine g_u (s_as_imm rfl rfl) ?_
  refine g_nil ?_
  refine normal_thn ?_
  refine aw_seq ?_
  refine aw_region ?_
  refine g_u (s_mv_imm rfl rfl) ?_
  refine g_u (s_lenL rfl rfl Tryd.underlying102) ?_
  refine g_u (s_mv_imm rfl rfl) ?_
  refine g_u (s_lenL rfl rfl Tryd.underlying102) ?_
  refine g_u (s_mv_imm rfl rfl) ?_
  refine g_u (s_lenS rfl rfl Tryd.underlying9) ?_
  refine g_u (s_add rfl rfl rfl) ?_
  refine g_u (s_add rfl rfl rfl) ?_
  refine g_uG (s_makeSlice 1014 (X0 := z5) (len := xs.length) (cap := xs.length + s.size + 2) rfl rfl rfl rfl rfl rfl (by ((try simp only [decide_eq_true_eq, decide_eq_false_iff_not, bne_iff_ne, ne_eq, beq_iff_eq, bne_eq_false_iff_eq, beq_eq_false_iff_ne, Bool.not_eq_true', Bool.not_eq_false', gt_iff_lt, ge_iff_le] at *); (repeat simp (disch := omega) only [wrap64, wrap32] at *)); omega) Tryd.underlying102 tS5 tZ5 rfl rfl by5 (by omega) (by omega) (by omega)) rfl ?_
  refine g_uG (s_alloc' 1005 rfl rfl rfl tZ102) rfl ?_
  refine g_u (s_store rfl rfl rfl rfl tS102 rfl rfl) ?_
  refine g_nil ?_
  refine normal_thn ?_
  refine aw_seq ?_
  refine aw_region ?_
  refine g_u (s_load_box rfl rfl rfl tA102 tS102 rfl rfl rfl) ?_
  refine g_u (s_mv_imm rfl rfl) ?_
  refine g_u (s_copy_in (el := 5) (el' := 0) (T1 := 0) rfl rfl rfl rfl rfl Tryd.underlying102 tS5 (by intro x hx; rw [List.eq_of_mem_replicate hx]; rfl) (by simp <;> omega)) ?_
  refine g_nil ?_
  refine normal_thn ?_
  refine aw_freezeW 1014 3014 1 (xs) [(0, .imm (.sl 1 xs)), (1, .imm (sv s)), (5, .ptr 1005 0), (1005, .box 102 (.slg 3014 1 xs))] rfl rfl rfl rfl rfl rfl rfl ⟨.inl rfl, .inl rfl, .inl rfl, .inr (.inr ⟨_, rfl, rfl⟩), trivial⟩ (cp_w (hw) rfl) (by rw [← cp_len rfl (by simp <;> omega)]; simp <;> omega) (by omega) (by unfold maxLen; omega) (cp_take rfl (by simp <;> omega)) ?_
  refine aw_seq ?_
  refine aw_region ?_
  refine g_u (s_mv_imm rfl rfl) ?_
  refine g_u (s_makeFuncS rfl rfl rfl) ?_
  refine g_uG (s_mcall [(100001, 1005), (100002, 3014)] (each_c _ _ (by omega) (by omega)) rfl rfl ⟨.inl rfl, .inl rfl, trivial⟩ ⟨rfl, rfl, trivial⟩ rfl rfl rfl) rfl ?_
  refine g_nil ?_
  refine normal_thn ?_
  refine aw_seq ?_
  refine aw_region ?_
  refine g_u (s_load_slg rfl rfl rfl tA102 tS102 rfl rfl) ?_
  refine g_u (s_as_slg rfl rfl) ?_
  refine g_nil ?_
  refine normal_thn ?_
  refine aw_ret ?_
  exact ⟨⟨.inr ⟨_, rfl, (by rfl), rfl⟩, trivial⟩, ⟨rfl, trivial⟩⟩

set_option maxHeartbeats 400000 in
theorem textU_step (u : Int) (h : 0 ≤ u ∧ u < 18446744073709551616) (ih : 10 ≤ u → PCall Tryd.prog Γ0 181 [uv (u / 10)] [sv (strOf (natB (u / 10).toNat))]) : PCall Tryd.prog Γ0 181 [uv u] [sv (strOf (natB u.toNat))] := by
  have hd := dig10 u h.1
  have e1 : IntKind.u64.wrap (u.tdiv 10) = u / 10 := by rw [tdiv_pos u 10 h.1 (by decide), wrapu64 (by omega) (by omega)]
  have l1 := natB_length (u / 10).toNat
  refine pcall_of Tryd.func181 rfl Tryd.ntmps181 (by kernel_rfl) rfl fun w0 I0 G0 => ?_
  refine aw_seq ?_
  refine aw_region ?_
  refine g_u (s_as_imm rfl rfl) ?_
  refine g_nil ?_
  refine normal_thn ?_
  refine aw_seq ?_
  refine aw_region ?_
  refine g_u (s_mv_imm rfl rfl) ?_
  refine g_u (s_rem rfl rfl rfl (by first | decide | omega | (((try simp only [decide_eq_true_eq, decide_eq_false_iff_not, bne_iff_ne, ne_eq, beq_iff_eq, bne_eq_false_iff_eq, beq_eq_false_iff_ne, Bool.not_eq_true', Bool.not_eq_false', gt_iff_lt, ge_iff_le] at *); (repeat simp (disch := omega) only [wrap64, wrap32] at *)); omega))) ?_
  refine g_u (s_mv_imm rfl rfl) ?_
  refine g_u (s_rem rfl rfl rfl (by first | decide | omega | (((try simp only [decide_eq_true_eq, decide_eq_false_iff_not, bne_iff_ne, ne_eq, beq_iff_eq, bne_eq_false_iff_eq, beq_eq_false_iff_ne, Bool.not_eq_true', Bool.not_eq_false', gt_iff_lt, ge_iff_le] at *); (repeat simp (disch := omega) only [wrap64, wrap32] at *)); omega))) ?_
  refine g_u (s_add rfl rfl rfl) ?_
  refine g_u (si_lh rfl rfl rfl rfl Tryd.underlying9 (by rw [tmod_pos u 10 h.1, wrapu64 (by omega) (by omega)]; show 0 ≤ u % 10 ∧ u % 10 ≤ u % 10 + 1 ∧ u % 10 + 1 ≤ 10; omega)) ?_
  refine g_u (s_as_imm rfl rfl) ?_
  refine g_nil ?_
  refine normal_thn ?_
  refine aw_seq ?_
  refine aw_seq ?_
  refine aw_region ?_
  refine g_u (s_mv_imm rfl rfl) ?_
  refine g_u (s_ltI rfl rfl rfl) ?_
  refine g_nil ?_
  refine normal_thn ?_
  refine aw_cond rfl (fun hb1 => ?_) (fun hb1 => ?_)
  · skip
    refine aw_seq ?_
    refine aw_region ?_
    refine g_u (s_mv_imm rfl rfl) ?_
    refine g_u (s_as_imm rfl rfl) ?_
    refine g_nil ?_
    refine normal_thn ?_
    refine aw_ret ?_
    refine ret_thn ?_
    exact ⟨⟨(rfl : toAV (Al.look _ _) = some _).trans (congrArg some (by (rw [natB_one h.1 (of_decide_eq_true hb1)]; exact congrArg sv hd))), rfl⟩, trivial⟩
  · skip
    refine aw_skip ?_
    refine normal_thn ?_
    refine aw_seq ?_
    refine aw_region ?_
    refine g_u (s_mv_imm rfl rfl) ?_
    refine g_u (s_quo rfl rfl rfl (by first | decide | omega | (((try simp only [decide_eq_true_eq, decide_eq_false_iff_not, bne_iff_ne, ne_eq, beq_iff_eq, bne_eq_false_iff_eq, beq_eq_false_iff_ne, Bool.not_eq_true', Bool.not_eq_false', gt_iff_lt, ge_iff_le] at *); (repeat simp (disch := omega) only [wrap64, wrap32] at *)); omega))) ?_
    refine g_u (s_call1 ((show PCall Tryd.prog Γ0 181 [uv (IntKind.u64.wrap (u.tdiv 10))] [sv (strOf (natB (u / 10).toNat))] from by rw [e1]; exact ih (Int.not_lt.1 (of_decide_eq_false hb1)))) rfl rfl) ?_
    refine g_u (s_mv_imm rfl rfl) ?_
    refine g_u (s_catS rfl rfl rfl (by show _ ≤ (9223372036854775807 : Int); erw [hd]; simp only [strOf_size, List.length_cons, List.length_nil]; omega)) ?_
    refine g_u (s_as_imm rfl rfl) ?_
    refine g_nil ?_
    refine normal_thn ?_
    refine aw_ret ?_
    exact ⟨⟨(rfl : toAV (Al.look _ _) = some _).trans (congrArg some (by (rw [natB_more (Int.not_lt.1 (of_decide_eq_false hb1)) h.2, ← strOf_append]; erw [hd]))), rfl⟩, trivial⟩

theorem textU_c (u : Int) (h : 0 ≤ u ∧ u < 18446744073709551616) : PCall Tryd.prog Γ0 181 [uv u] [sv (strOf (natB u.toNat))] := by
  have key : ∀ n : Nat, ∀ u : Int, u.toNat = n → (0 ≤ u ∧ u < 18446744073709551616) → PCall Tryd.prog Γ0 181 [uv u] [sv (strOf (natB u.toNat))] := by
    intro n
    induction n using Nat.strongRecOn with
    | _ n ih => intro u hn h; exact textU_step u h fun h10 => ih (u / 10).toNat (by omega) (u / 10) rfl (by omega)
  exact key _ u rfl h

set_option maxHeartbeats 400000 in
theorem rdec_step (n : Int) (h : -9223372036854775808 ≤ n ∧ n < 9223372036854775808) (ih : n ≤ -10 → PCall Tryd.prog Γ0 115 [iv (n.tdiv 10)] [sv (strOf (decB (n.tdiv 10)))]) : PCall Tryd.prog Γ0 115 [iv n] [sv (strOf (decB n))] := by
  have t1 : n ≤ -10 → IntKind.i64.wrap (n.tdiv 10) = n.tdiv 10 := fun hn => by have e := Int.neg_tdiv (-n) 10; rw [Int.neg_neg, tdiv_pos (-n) 10 (by omega) (by decide)] at e; rw [e]; exact wrap64 (by omega) (by omega)
  have t2 : n ≤ -10 → -10 < n.tmod 10 ∧ n.tmod 10 ≤ 0 := fun hn => by have e := Int.neg_tmod (-n) 10; rw [Int.neg_neg, tmod_pos (-n) 10 (by omega)] at e; rw [e]; omega
  have t3 : n ≤ -10 → IntKind.u64.wrap (IntKind.i64.wrap (0 - n.tmod 10)) = -(n.tmod 10) := fun hn => by have := t2 hn; rw [wrap64 (by omega) (by omega), wrapu64 (by omega) (by omega)]; omega
  have t4 : -10 < n → n < 0 → IntKind.u64.wrap (IntKind.i64.wrap (0 - n)) = -n := fun h1 h2 => by rw [wrap64 (by omega) (by omega), wrapu64 (by omega) (by omega)]; omega
  have t5 : 0 ≤ n → IntKind.u64.wrap n = n := fun h1 => wrapu64 (by omega) (by omega)
  have l1 := fun k => natB_length k
  have l2 := decB_length (n.tdiv 10)
  refine pcall_of Tryd.func115 rfl Tryd.ntmps115 (by kernel_rfl) rfl fun w0 I0 G0 => ?_
  refine aw_seq ?_
  refine aw_region ?_
  refine g_u (s_as_imm rfl rfl) ?_
  refine g_nil ?_
  refine normal_thn ?_
  refine aw_seq ?_
  refine aw_seq ?_
  refine aw_region ?_
  refine g_u (s_mv_imm rfl rfl) ?_
  refine g_u (s_geI rfl rfl rfl) ?_
  refine g_nil ?_
  refine normal_thn ?_
  refine aw_cond rfl (fun hb1 => ?_) (fun hb1 => ?_)
  · skip
    refine aw_seq ?_
    refine aw_region ?_
    refine g_u (s_mv_imm rfl rfl) ?_
    refine g_u (s_cvII rfl rfl Tryd.underlying3 Tryd.underlying29) ?_
    refine g_u (s_call1 (textU_c _ (by rw [t5 (of_decide_eq_true hb1)]; have := of_decide_eq_true hb1; omega)) rfl rfl) ?_
    refine g_u (s_as_imm rfl rfl) ?_
    refine g_nil ?_
    refine normal_thn ?_
    refine aw_ret ?_
    refine ret_thn ?_
    exact ⟨⟨(rfl : toAV (Al.look _ _) = some _).trans (congrArg some (by (have g1 := of_decide_eq_true hb1; rw [t5 g1, dec_pos n g1]))), rfl⟩, trivial⟩
  · skip
    refine aw_skip ?_
    refine normal_thn ?_
    refine aw_seq ?_
    refine aw_seq ?_
    refine aw_region ?_
    refine g_u (s_mv_imm rfl rfl) ?_
    refine g_u (s_gtI rfl rfl rfl) ?_
    refine g_nil ?_
    refine normal_thn ?_
    refine aw_cond rfl (fun hb2 => ?_) (fun hb2 => ?_)
    · skip
      refine aw_seq ?_
      refine aw_region ?_
      refine g_u (s_mv_imm rfl rfl) ?_
      refine g_u (s_neg rfl rfl) ?_
      refine g_u (s_cvII rfl rfl Tryd.underlying3 Tryd.underlying29) ?_
      refine g_u (s_call1 (textU_c _ (by have g1 := of_decide_eq_false hb1; have g2 := of_decide_eq_true hb2; rw [t4 g2 (by omega)]; omega)) rfl rfl) ?_
      refine g_u (s_catS rfl rfl rfl (by show _ ≤ (9223372036854775807 : Int); simp only [strOf_size]; have := l1 (IntKind.u64.wrap (IntKind.i64.wrap (0 - n))).toNat; have := l1 (IntKind.u64.wrap (IntKind.i64.wrap (0 - n.tmod 10))).toNat; first | omega | (show 1 + _ ≤ _; omega) | (have c1 : (ByteArray.mk #[45]).size = 1 := rfl; omega))) ?_
      refine g_u (s_as_imm rfl rfl) ?_
      refine g_nil ?_
      refine normal_thn ?_
      refine aw_ret ?_
      refine ret_thn ?_
      exact ⟨⟨(rfl : toAV (Al.look _ _) = some _).trans (congrArg some (by (have g1 := of_decide_eq_false hb1; have g2 := of_decide_eq_true hb2; rw [t4 g2 (by omega), dec_small n (by omega), ← strOf_append]; rfl))), rfl⟩, trivial⟩
    · skip
      refine aw_skip ?_
      refine normal_thn ?_
      refine aw_seq ?_
      refine aw_region ?_
      refine g_u (s_mv_imm rfl rfl) ?_
      refine g_u (s_quo rfl rfl rfl (by first | decide | omega | (((try simp only [decide_eq_true_eq, decide_eq_false_iff_not, bne_iff_ne, ne_eq, beq_iff_eq, bne_eq_false_iff_eq, beq_eq_false_iff_ne, Bool.not_eq_true', Bool.not_eq_false', gt_iff_lt, ge_iff_le] at *); (repeat simp (disch := omega) only [wrap64, wrap32] at *)); omega))) ?_
      refine g_u (s_call1 ((show PCall Tryd.prog Γ0 115 [iv (IntKind.i64.wrap (n.tdiv 10))] [sv (strOf (decB (n.tdiv 10)))] from by have g2 := of_decide_eq_false hb2; rw [t1 (by omega)]; exact ih (by omega))) rfl rfl) ?_
      refine g_u (s_mv_imm rfl rfl) ?_
      refine g_u (s_rem rfl rfl rfl (by first | decide | omega | (((try simp only [decide_eq_true_eq, decide_eq_false_iff_not, bne_iff_ne, ne_eq, beq_iff_eq, bne_eq_false_iff_eq, beq_eq_false_iff_ne, Bool.not_eq_true', Bool.not_eq_false', gt_iff_lt, ge_iff_le] at *); (repeat simp (disch := omega) only [wrap64, wrap32] at *)); omega))) ?_
      refine g_u (s_neg rfl rfl) ?_
      refine g_u (s_cvII rfl rfl Tryd.underlying3 Tryd.underlying29) ?_
      refine g_u (s_call1 (textU_c _ (by have g2 := of_decide_eq_false hb2; have := t2 (by omega); rw [t3 (by omega)]; omega)) rfl rfl) ?_
      refine g_u (s_catS rfl rfl rfl (by show _ ≤ (9223372036854775807 : Int); simp only [strOf_size]; have := l1 (IntKind.u64.wrap (IntKind.i64.wrap (0 - n))).toNat; have := l1 (IntKind.u64.wrap (IntKind.i64.wrap (0 - n.tmod 10))).toNat; first | omega | (show 1 + _ ≤ _; omega) | (have c1 : (ByteArray.mk #[45]).size = 1 := rfl; omega))) ?_
      refine g_u (s_as_imm rfl rfl) ?_
      refine g_nil ?_
      refine normal_thn ?_
      refine aw_ret ?_
      exact ⟨⟨(rfl : toAV (Al.look _ _) = some _).trans (congrArg some (by (have g2 := of_decide_eq_false hb2; rw [t3 (by omega), dec_more n (by omega) h.1, ← strOf_append]))), rfl⟩, trivial⟩

theorem rdec_c (n : Int) (h : -9223372036854775808 ≤ n ∧ n < 9223372036854775808) : PCall Tryd.prog Γ0 115 [iv n] [sv (strOf (decB n))] := by
  have key : ∀ k : Nat, ∀ n : Int, (-n).toNat = k → (-9223372036854775808 ≤ n ∧ n < 9223372036854775808) → PCall Tryd.prog Γ0 115 [iv n] [sv (strOf (decB n))] := by
    intro k
    induction k using Nat.strongRecOn with
    | _ k ih =>
      intro n hn h
      refine rdec_step n h fun h10 => ?_
      have e := Int.neg_tdiv (-n) 10
      rw [Int.neg_neg, tdiv_pos (-n) 10 (by omega) (by decide)] at e
      exact ih (-(n.tdiv 10)).toNat (by omega) (n.tdiv 10) rfl (by omega)
  exact key _ n rfl h

set_option maxHeartbeats 400000 in
theorem rhex_c (s : ByteArray) (hs : s.size ≤ 100000000000) : PCall Tryd.prog Γ0 226 [sv s] [sv (strOf (hexB (lst s)))] := by
  have hz := lst_len s
  refine pcall_of Tryd.func226 rfl Tryd.ntmps226 (by kernel_rfl) rfl fun w0 I0 G0 => ?_
  refine aw_seq ?_
  refine aw_region ?_
  refine g_u (s_as_imm rfl rfl) ?_
  refine g_nil ?_
  refine normal_thn ?_
  refine aw_seq ?_
  refine aw_region ?_
  refine g_u (s_as_imm rfl rfl) ?_
  refine g_nil ?_
  refine normal_thn ?_
  refine aw_seq ?_
  refine aw_seq ?_
  refine aw_region ?_
  refine g_u (s_as_imm rfl rfl) ?_
  refine g_nil ?_
  refine normal_thn ?_
  refine aw_block ?_
  refine aw_loop' (fun j : Nat × ByteArray => [(0, .imm (sv s)), (3, .imm (sv j.2)), (4, .imm (iv (j.1 : Int)))]) (fun j => j.1 ≤ s.size ∧ lst j.2 = hexB ((lst s).take j.1)) (fun j => s.size - j.1) (⟨0, ⟨#[]⟩⟩) ?_ ⟨rfl, rfl, rfl, trivial⟩ ?_
  · exact ⟨Nat.zero_le _, rfl⟩
  · rintro ⟨i, t⟩ ⟨h1, h2⟩; dsimp only at h1 h2; have hlen : t.size ≤ 2 * s.size := by rw [← lst_len t, h2, hexB_length, List.length_take]; omega
    refine aw_seq ?_
    refine aw_seq ?_
    refine aw_region ?_
    refine g_u (s_mv_imm rfl rfl) ?_
    refine g_u (s_mv_imm rfl rfl) ?_
    refine g_u (s_lenS rfl rfl Tryd.underlying9) ?_
    refine g_u (s_ltI rfl rfl rfl) ?_
    refine g_nil ?_
    refine normal_thn ?_
    refine aw_cond rfl (fun hb1 => ?_) (fun hb1 => ?_)
    · skip
      refine aw_skip ?_
      refine normal_thn ?_
      refine aw_seq ?_
      refine aw_block ?_
      refine aw_draw mixed ?_
      refine g_u (s_mv_imm rfl rfl) ?_
      refine g_u (s_mv_imm rfl rfl) ?_
      refine g_u (s_mv_imm rfl rfl) ?_
      refine g_u (si_ix rfl rfl rfl Tryd.underlying9 (by ((try simp only [decide_eq_true_eq, decide_eq_false_iff_not, bne_iff_ne, ne_eq, beq_iff_eq, bne_eq_false_iff_eq, beq_eq_false_iff_ne, Bool.not_eq_true', Bool.not_eq_false', gt_iff_lt, ge_iff_le] at *); (repeat simp (disch := omega) only [wrap64, wrap32] at *)); omega)) ?_
      refine g_u (s_quo rfl rfl rfl (by first | decide | omega | (((try simp only [decide_eq_true_eq, decide_eq_false_iff_not, bne_iff_ne, ne_eq, beq_iff_eq, bne_eq_false_iff_eq, beq_eq_false_iff_ne, Bool.not_eq_true', Bool.not_eq_false', gt_iff_lt, ge_iff_le] at *); (repeat simp (disch := omega) only [wrap64, wrap32] at *)); omega))) ?_
      refine g_u (s_mv_imm rfl rfl) ?_
      refine g_u (s_mv_imm rfl rfl) ?_
      refine g_u (si_ix rfl rfl rfl Tryd.underlying9 (by ((try simp only [decide_eq_true_eq, decide_eq_false_iff_not, bne_iff_ne, ne_eq, beq_iff_eq, bne_eq_false_iff_eq, beq_eq_false_iff_ne, Bool.not_eq_true', Bool.not_eq_false', gt_iff_lt, ge_iff_le] at *); (repeat simp (disch := omega) only [wrap64, wrap32] at *)); omega)) ?_
      refine g_u (s_quo rfl rfl rfl (by first | decide | omega | (((try simp only [decide_eq_true_eq, decide_eq_false_iff_not, bne_iff_ne, ne_eq, beq_iff_eq, bne_eq_false_iff_eq, beq_eq_false_iff_ne, Bool.not_eq_true', Bool.not_eq_false', gt_iff_lt, ge_iff_le] at *); (repeat simp (disch := omega) only [wrap64, wrap32] at *)); omega))) ?_
      refine g_u (s_add rfl rfl rfl) ?_
      refine g_u (si_lh rfl rfl rfl rfl Tryd.underlying9 (q16 _ (bAt_lt _ _))) ?_
      refine g_u (s_catS rfl rfl rfl (by show _ ≤ (9223372036854775807 : Int); have f1 := dig16a (bAt s (i : Int)) (bAt_lt _ _); have f2 := dig16b (bAt s (i : Int)) (bAt_lt _ _); (try simp only [app_size]); (try erw [f1]); (try erw [f2]); simp only [strOf_size, List.length_cons, List.length_nil]; omega)) ?_
      refine g_u (s_mv_imm rfl rfl) ?_
      refine g_u (s_mv_imm rfl rfl) ?_
      refine g_u (si_ix rfl rfl rfl Tryd.underlying9 (by ((try simp only [decide_eq_true_eq, decide_eq_false_iff_not, bne_iff_ne, ne_eq, beq_iff_eq, bne_eq_false_iff_eq, beq_eq_false_iff_ne, Bool.not_eq_true', Bool.not_eq_false', gt_iff_lt, ge_iff_le] at *); (repeat simp (disch := omega) only [wrap64, wrap32] at *)); omega)) ?_
      refine g_u (s_rem rfl rfl rfl (by first | decide | omega | (((try simp only [decide_eq_true_eq, decide_eq_false_iff_not, bne_iff_ne, ne_eq, beq_iff_eq, bne_eq_false_iff_eq, beq_eq_false_iff_ne, Bool.not_eq_true', Bool.not_eq_false', gt_iff_lt, ge_iff_le] at *); (repeat simp (disch := omega) only [wrap64, wrap32] at *)); omega))) ?_
      refine g_u (s_mv_imm rfl rfl) ?_
      refine g_u (s_mv_imm rfl rfl) ?_
      refine g_u (si_ix rfl rfl rfl Tryd.underlying9 (by ((try simp only [decide_eq_true_eq, decide_eq_false_iff_not, bne_iff_ne, ne_eq, beq_iff_eq, bne_eq_false_iff_eq, beq_eq_false_iff_ne, Bool.not_eq_true', Bool.not_eq_false', gt_iff_lt, ge_iff_le] at *); (repeat simp (disch := omega) only [wrap64, wrap32] at *)); omega)) ?_
      refine g_u (s_rem rfl rfl rfl (by first | decide | omega | (((try simp only [decide_eq_true_eq, decide_eq_false_iff_not, bne_iff_ne, ne_eq, beq_iff_eq, bne_eq_false_iff_eq, beq_eq_false_iff_ne, Bool.not_eq_true', Bool.not_eq_false', gt_iff_lt, ge_iff_le] at *); (repeat simp (disch := omega) only [wrap64, wrap32] at *)); omega))) ?_
      refine g_u (s_add rfl rfl rfl) ?_
      refine g_u (si_lh rfl rfl rfl rfl Tryd.underlying9 (r16 _ (bAt_lt _ _))) ?_
      refine g_u (s_catS rfl rfl rfl (by show _ ≤ (9223372036854775807 : Int); have f1 := dig16a (bAt s (i : Int)) (bAt_lt _ _); have f2 := dig16b (bAt s (i : Int)) (bAt_lt _ _); (try simp only [app_size]); (try erw [f1]); (try erw [f2]); simp only [strOf_size, List.length_cons, List.length_nil]; omega)) ?_
      refine g_u (s_as_imm rfl rfl) ?_
      refine g_nil ⟨by kernel_rfl, ?_⟩
      refine normal_blk ?_
      refine normal_thn ?_
      refine aw_region ?_
      refine g_u (s_mv_imm rfl rfl) ?_
      refine g_u (s_add rfl rfl rfl) ?_
      refine g_u (s_as_imm rfl rfl) ?_
      refine g_nil ?_
      refine normal_thn ?_
      change decide ((i : Int) < (s.size : Int)) = true at hb1
      have hi : i < s.size := by have := of_decide_eq_true hb1; omega
      obtain ⟨c, hc1, hc2⟩ := bAt_nat s i hi
      refine ⟨⟨i + 1, _⟩, ⟨hi, ?_⟩, ⟨rfl, rfl, look_int rfl (by rw [wrap64 (by omega) (by omega)]; rfl), trivial⟩, by dsimp only; omega⟩
      dsimp only
      have f1 := dig16a (bAt s (i : Int)) (bAt_lt _ _)
      have f2 := dig16b (bAt s (i : Int)) (bAt_lt _ _)
      have hc3 : (bAt s (i : Int)).toNat = c.toNat := by omega
      rw [hc3] at f1 f2
      show lst (t ++ digs.extract _ _ ++ digs.extract _ _) = _
      rw [f1, f2, lst_app, lst_app, lst_strOf, lst_strOf, h2, take_snoc hc1, hexB_append, List.append_assoc]
      rfl
    · skip
      refine aw_exit ?_
      refine exit_thn ?_
      refine exit_thn ?_
      refine exit_blk ?_
      refine normal_thn ?_
      refine aw_seq ?_
      refine aw_region ?_
      refine g_u (s_mv_imm rfl rfl) ?_
      refine g_u (s_as_imm rfl rfl) ?_
      refine g_nil ?_
      refine normal_thn ?_
      refine aw_ret ?_
      change decide ((i : Int) < (s.size : Int)) = false at hb1
      have hi : i = s.size := by have := of_decide_eq_false hb1; omega
      exact ⟨⟨(rfl : toAV (Al.look _ _) = some _).trans (congrArg (fun z => some (sv z)) (strOf_eq (by rw [h2, hi, List.take_of_length_le (Nat.le_of_eq hz)]))), rfl⟩, trivial⟩

set_option maxHeartbeats 400000 in
theorem rhigh_c (u : Int) (h : 0 ≤ u ∧ u < 18446744073709551616) : PCall Tryd.prog Γ0 227 [uv u, iv 8] [sv (strOf (be 8 u.toNat))] := by
  refine pcall_of Tryd.func227 rfl Tryd.ntmps227 (by kernel_rfl) rfl fun w0 I0 G0 => ?_
  refine aw_seq ?_
  refine aw_region ?_
  refine g_u (s_as_imm rfl rfl) ?_
  refine g_nil ?_
  refine normal_thn ?_
  refine aw_seq ?_
  refine aw_region ?_
  refine g_u (s_as_imm rfl rfl) ?_
  refine g_nil ?_
  refine normal_thn ?_
  refine aw_seq ?_
  refine aw_seq ?_
  refine aw_region ?_
  refine g_u (s_as_imm rfl rfl) ?_
  refine g_nil ?_
  refine normal_thn ?_
  refine aw_block ?_
  refine aw_loop' (fun j : Nat × Int × ByteArray => [(0, .imm (uv j.2.1)), (1, .imm (iv 8)), (5, .imm (sv j.2.2)), (6, .imm (iv (j.1 : Int)))]) (fun j => j.1 ≤ 8 ∧ (0 ≤ j.2.1 ∧ j.2.1 < 18446744073709551616) ∧ j.2.2.size = j.1 ∧ be (8 - j.1) j.2.1.toNat ++ lst j.2.2 = be 8 u.toNat) (fun j => 8 - j.1) (⟨0, u, ⟨#[]⟩⟩) ?_ ⟨rfl, rfl, rfl, rfl, trivial⟩ ?_
  · exact ⟨Nat.zero_le _, h, rfl, by rw [show lst (ByteArray.mk #[]) = [] from rfl, List.append_nil]; rfl⟩
  · rintro ⟨i, v, t⟩ ⟨h1, h2, h3, h4⟩; dsimp only at h1 h2 h3 h4
    refine aw_seq ?_
    refine aw_seq ?_
    refine aw_region ?_
    refine g_u (s_mv_imm rfl rfl) ?_
    refine g_u (s_mv_imm rfl rfl) ?_
    refine g_u (s_ltI rfl rfl rfl) ?_
    refine g_nil ?_
    refine normal_thn ?_
    refine aw_cond rfl (fun hb1 => ?_) (fun hb1 => ?_)
    · skip
      refine aw_skip ?_
      refine normal_thn ?_
      refine aw_seq ?_
      refine aw_block ?_
      refine aw_seq ?_
      refine aw_region ?_
      refine g_u (s_mv_imm rfl rfl) ?_
      refine g_u (s_rem rfl rfl rfl (by first | decide | omega | (((try simp only [decide_eq_true_eq, decide_eq_false_iff_not, bne_iff_ne, ne_eq, beq_iff_eq, bne_eq_false_iff_eq, beq_eq_false_iff_ne, Bool.not_eq_true', Bool.not_eq_false', gt_iff_lt, ge_iff_le] at *); (repeat simp (disch := omega) only [wrap64, wrap32] at *)); omega))) ?_
      refine g_u (s_cvII rfl rfl Tryd.underlying29 Tryd.underlying5) ?_
      refine g_u (s_buildSlice (X0 := z5) rfl Tryd.underlying102 tS5 tZ5 rfl rfl rfl rfl rfl rfl rfl rfl) ?_
      refine g_u (s_cvBS' ((bl_cons bl_nil)) rfl rfl Tryd.underlying102 Tryd.underlying9 Tryd.underlying5) ?_
      refine g_u (s_mv_imm rfl rfl) ?_
      refine g_u (s_catS rfl rfl rfl (by show _ ≤ (9223372036854775807 : Int); (try dsimp only); simp only [strOf_size, List.length_cons, List.length_nil]; omega)) ?_
      refine g_u (s_as_imm rfl rfl) ?_
      refine g_nil ?_
      refine normal_thn ?_
      refine aw_region ?_
      refine g_u (s_mv_imm rfl rfl) ?_
      refine g_u (s_quo rfl rfl rfl (by first | decide | omega | (((try simp only [decide_eq_true_eq, decide_eq_false_iff_not, bne_iff_ne, ne_eq, beq_iff_eq, bne_eq_false_iff_eq, beq_eq_false_iff_ne, Bool.not_eq_true', Bool.not_eq_false', gt_iff_lt, ge_iff_le] at *); (repeat simp (disch := omega) only [wrap64, wrap32] at *)); omega))) ?_
      refine g_u (s_as_imm rfl rfl) ?_
      refine g_nil ?_
      refine normal_blk ?_
      refine normal_thn ?_
      refine aw_region ?_
      refine g_u (s_mv_imm rfl rfl) ?_
      refine g_u (s_add rfl rfl rfl) ?_
      refine g_u (s_as_imm rfl rfl) ?_
      refine g_nil ?_
      refine normal_thn ?_
      change decide ((i : Int) < 8) = true at hb1
      have hi : i < 8 := by have := of_decide_eq_true hb1; omega
      have e1 : IntKind.u64.wrap (v.tdiv 256) = v / 256 := by rw [tdiv_pos v 256 h2.1 (by decide), wrapu64 (by omega) (by omega)]
      refine ⟨⟨i + 1, _, _⟩, ⟨hi, ?_, ?_, ?_⟩, ⟨rfl, rfl, rfl, look_int rfl (by rw [wrap64 (by omega) (by omega)]; rfl), trivial⟩, by dsimp only; omega⟩
      · show 0 ≤ IntKind.u64.wrap (v.tdiv 256) ∧ IntKind.u64.wrap (v.tdiv 256) < 18446744073709551616; rw [e1]; omega
      · dsimp only; rw [app_size, strOf_size, h3]; simp only [List.length_cons, List.length_nil]; omega
      · show be (8 - (i + 1)) (IntKind.u64.wrap (v.tdiv 256)).toNat ++ lst (strOf [ofI (IntKind.u8.wrap (v.tmod 256))] ++ t) = be 8 u.toNat
        rw [e1, lst_app, lst_strOf, byte_ofI v h2.1, ← h4, show 8 - i = 8 - (i + 1) + 1 by omega, be_next _ _ h2.1, List.append_assoc]
    · skip
      refine aw_exit ?_
      refine exit_thn ?_
      refine exit_thn ?_
      refine exit_blk ?_
      refine normal_thn ?_
      refine aw_seq ?_
      refine aw_region ?_
      refine g_u (s_mv_imm rfl rfl) ?_
      refine g_u (s_as_imm rfl rfl) ?_
      refine g_nil ?_
      refine normal_thn ?_
      refine aw_ret ?_
      change decide ((i : Int) < 8) = false at hb1
      have hi : i = 8 := by have := of_decide_eq_false hb1; omega
      exact ⟨⟨(rfl : toAV (Al.look _ _) = some _).trans (congrArg (fun z => some (sv z)) (strOf_eq (by rw [← h4, hi]; rfl))), rfl⟩, trivial⟩

set_option maxHeartbeats 400000 in
theorem rquote_c (s : ByteArray) (hs : s.size ≤ 100000000000) : PCall Tryd.prog Γ0 224 [sv s] [sv (strOf (quoteB (lst s)))] := by
  have hz := lst_len s
  have c1 : (ByteArray.mk #[92]).size = 1 := rfl
  have c4 : (ByteArray.mk #[92, 117, 48, 48]).size = 4 := rfl
  have c0 : (ByteArray.mk #[34]).size = 1 := rfl
  refine pcall_of Tryd.func224 rfl Tryd.ntmps224 (by kernel_rfl) rfl fun w0 I0 G0 => ?_
  refine aw_seq ?_
  refine aw_region ?_
  refine g_u (s_as_imm rfl rfl) ?_
  refine g_nil ?_
  refine normal_thn ?_
  refine aw_seq ?_
  refine aw_region ?_
  refine g_u (s_as_imm rfl rfl) ?_
  refine g_nil ?_
  refine normal_thn ?_
  refine aw_seq ?_
  refine aw_seq ?_
  refine aw_region ?_
  refine g_u (s_as_imm rfl rfl) ?_
  refine g_nil ?_
  refine normal_thn ?_
  refine aw_block ?_
  refine aw_loop' (fun j : Nat × ByteArray => [(0, .imm (sv s)), (3, .imm (sv j.2)), (4, .imm (iv (j.1 : Int)))]) (fun j => j.1 ≤ s.size ∧ lst j.2 = 34 :: escs ((lst s).take j.1)) (fun j => s.size - j.1) (⟨0, ⟨#[34]⟩⟩) ?_ ⟨rfl, rfl, rfl, trivial⟩ ?_
  · exact ⟨Nat.zero_le _, rfl⟩
  · rintro ⟨i, t⟩ ⟨h1, h2⟩; dsimp only at h1 h2; have hlen : t.size ≤ 1 + 6 * s.size := by have := escs_length ((lst s).take i); rw [← lst_len t, h2, List.length_cons]; rw [List.length_take] at this; omega
    have e2 : i < s.size → (IntKind.i64.wrap ((i : Int) + 1)).toNat = i + 1 := fun h => by rw [wrap64 (by omega) (by omega)]; omega
    have hx : (i : Int) < (s.size : Int) → (s.extract (i : Int).toNat (IntKind.i64.wrap ((i : Int) + 1)).toNat).size = 1 := fun h => by rw [e2 (by omega), Int.toNat_natCast]; exact ex1_size (by omega)
    refine aw_seq ?_
    refine aw_seq ?_
    refine aw_region ?_
    refine g_u (s_mv_imm rfl rfl) ?_
    refine g_u (s_mv_imm rfl rfl) ?_
    refine g_u (s_lenS rfl rfl Tryd.underlying9) ?_
    refine g_u (s_ltI rfl rfl rfl) ?_
    refine g_nil ?_
    refine normal_thn ?_
    refine aw_cond rfl (fun hb1 => ?_) (fun hb1 => ?_)
    · skip
      refine aw_skip ?_
      refine normal_thn ?_
      refine aw_seq ?_
      refine aw_block ?_
      refine aw_seq ?_
      refine aw_seq ?_
      refine aw_region ?_
      refine g_u (s_mv_imm rfl rfl) ?_
      refine g_u (s_mv_imm rfl rfl) ?_
      refine g_u (si_ix rfl rfl rfl Tryd.underlying9 (by ((try simp only [decide_eq_true_eq, decide_eq_false_iff_not, bne_iff_ne, ne_eq, beq_iff_eq, bne_eq_false_iff_eq, beq_eq_false_iff_ne, Bool.not_eq_true', Bool.not_eq_false', gt_iff_lt, ge_iff_le] at *); (repeat simp (disch := omega) only [wrap64, wrap32] at *)); omega)) ?_
      refine g_u (s_eqI rfl rfl rfl) ?_
      refine g_u (s_mv_imm rfl rfl) ?_
      refine g_case (t := 15) rfl ?_
      rintro (hb2 | hb2)
      · rw [hb2]
        refine g_skip rfl rfl rfl ?_
        refine g_skip rfl rfl rfl ?_
        refine g_skip rfl rfl rfl ?_
        refine g_skip rfl rfl rfl ?_
        refine g_u (s_pick_t rfl rfl rfl) ?_
        refine g_nil ?_
        refine normal_thn ?_
        refine aw_cond_true rfl ?_
        refine aw_region ?_
        refine g_u (s_mv_imm rfl rfl) ?_
        refine g_u (s_catS rfl rfl rfl (by show _ ≤ (9223372036854775807 : Int); (try dsimp only); first | (simp only [app_size, c0, c1, c4]; omega) | (have q := hx (of_decide_eq_true hb1); simp only [app_size, strOf_size, hexB_length, lst_len, q, c1, c4]; omega))) ?_
        refine g_u (s_as_imm rfl rfl) ?_
        refine g_nil ?_
        refine normal_thn ?_
        refine aw_seq ?_
        refine aw_region ?_
        refine g_u (s_mv_imm rfl rfl) ?_
        refine g_u (s_mv_imm rfl rfl) ?_
        refine g_u (si_ix rfl rfl rfl Tryd.underlying9 (by ((try simp only [decide_eq_true_eq, decide_eq_false_iff_not, bne_iff_ne, ne_eq, beq_iff_eq, bne_eq_false_iff_eq, beq_eq_false_iff_ne, Bool.not_eq_true', Bool.not_eq_false', gt_iff_lt, ge_iff_le] at *); (repeat simp (disch := omega) only [wrap64, wrap32] at *)); omega)) ?_
        refine g_u (s_ltI rfl rfl rfl) ?_
        refine g_nil ?_
        refine normal_thn ?_
        refine aw_cond rfl (fun hb3 => ?_) (fun hb3 => ?_)
        · skip
          refine aw_region ?_
          refine g_u (s_mv_imm rfl rfl) ?_
          refine g_u (s_catS rfl rfl rfl (by show _ ≤ (9223372036854775807 : Int); (try dsimp only); first | (simp only [app_size, c0, c1, c4]; omega) | (have q := hx (of_decide_eq_true hb1); simp only [app_size, strOf_size, hexB_length, lst_len, q, c1, c4]; omega))) ?_
          refine g_u (s_mv_imm rfl rfl) ?_
          refine g_u (s_mv_imm rfl rfl) ?_
          refine g_u (s_mv_imm rfl rfl) ?_
          refine g_u (s_add rfl rfl rfl) ?_
          refine g_u (si_lh rfl rfl rfl rfl Tryd.underlying9 (by ((try simp only [decide_eq_true_eq, decide_eq_false_iff_not, bne_iff_ne, ne_eq, beq_iff_eq, bne_eq_false_iff_eq, beq_eq_false_iff_ne, Bool.not_eq_true', Bool.not_eq_false', gt_iff_lt, ge_iff_le] at *); (repeat simp (disch := omega) only [wrap64, wrap32] at *)); omega)) ?_
          refine g_u (s_call1 (rhex_c _ (by have q := hx (of_decide_eq_true hb1); (try dsimp only); omega)) rfl rfl) ?_
          refine g_u (s_catS rfl rfl rfl (by show _ ≤ (9223372036854775807 : Int); (try dsimp only); first | (simp only [app_size, c0, c1, c4]; omega) | (have q := hx (of_decide_eq_true hb1); simp only [app_size, strOf_size, hexB_length, lst_len, q, c1, c4]; omega))) ?_
          refine g_u (s_as_imm rfl rfl) ?_
          refine g_nil ?_
          refine normal_blk ?_
          refine normal_thn ?_
          refine aw_region ?_
          refine g_u (s_mv_imm rfl rfl) ?_
          refine g_u (s_add rfl rfl rfl) ?_
          refine g_u (s_as_imm rfl rfl) ?_
          refine g_nil ?_
          refine normal_thn ?_
          change decide ((i : Int) < (s.size : Int)) = true at hb1
          have hi : i < s.size := by have := of_decide_eq_true hb1; omega
          obtain ⟨c, hc1, hc2⟩ := bAt_nat s i hi
          refine ⟨⟨i + 1, _⟩, ⟨hi, ?_⟩, ⟨rfl, rfl, look_int rfl (by rw [wrap64 (by omega) (by omega)]; rfl), trivial⟩, by dsimp only; omega⟩
          dsimp only at *
          rw [take_snoc hc1, escs_snoc, ← List.cons_append, ← h2, e2 hi, Int.toNat_natCast]
          simp only [beq_iff_eq, beq_eq_false_iff_ne, ne_eq, decide_eq_true_eq, decide_eq_false_iff_not] at *
          first | (exfalso; omega) | exact resc1 hc1 (.inl (by omega)) | exact resc1 hc1 (.inr (by omega)) | exact resc2 hc1 (by omega) (by omega) (by omega) | exact resc3 hc1 (by omega) (by omega) (by omega)
        · skip
          refine aw_region ?_
          refine g_u (s_mv_imm rfl rfl) ?_
          refine g_u (s_mv_imm rfl rfl) ?_
          refine g_u (s_mv_imm rfl rfl) ?_
          refine g_u (s_mv_imm rfl rfl) ?_
          refine g_u (s_add rfl rfl rfl) ?_
          refine g_u (si_lh rfl rfl rfl rfl Tryd.underlying9 (by ((try simp only [decide_eq_true_eq, decide_eq_false_iff_not, bne_iff_ne, ne_eq, beq_iff_eq, bne_eq_false_iff_eq, beq_eq_false_iff_ne, Bool.not_eq_true', Bool.not_eq_false', gt_iff_lt, ge_iff_le] at *); (repeat simp (disch := omega) only [wrap64, wrap32] at *)); omega)) ?_
          refine g_u (s_catS rfl rfl rfl (by show _ ≤ (9223372036854775807 : Int); (try dsimp only); first | (simp only [app_size, c0, c1, c4]; omega) | (have q := hx (of_decide_eq_true hb1); simp only [app_size, strOf_size, hexB_length, lst_len, q, c1, c4]; omega))) ?_
          refine g_u (s_as_imm rfl rfl) ?_
          refine g_nil ?_
          refine normal_blk ?_
          refine normal_thn ?_
          refine aw_region ?_
          refine g_u (s_mv_imm rfl rfl) ?_
          refine g_u (s_add rfl rfl rfl) ?_
          refine g_u (s_as_imm rfl rfl) ?_
          refine g_nil ?_
          refine normal_thn ?_
          change decide ((i : Int) < (s.size : Int)) = true at hb1
          have hi : i < s.size := by have := of_decide_eq_true hb1; omega
          obtain ⟨c, hc1, hc2⟩ := bAt_nat s i hi
          refine ⟨⟨i + 1, _⟩, ⟨hi, ?_⟩, ⟨rfl, rfl, look_int rfl (by rw [wrap64 (by omega) (by omega)]; rfl), trivial⟩, by dsimp only; omega⟩
          dsimp only at *
          rw [take_snoc hc1, escs_snoc, ← List.cons_append, ← h2, e2 hi, Int.toNat_natCast]
          simp only [beq_iff_eq, beq_eq_false_iff_ne, ne_eq, decide_eq_true_eq, decide_eq_false_iff_not] at *
          first | (exfalso; omega) | exact resc1 hc1 (.inl (by omega)) | exact resc1 hc1 (.inr (by omega)) | exact resc2 hc1 (by omega) (by omega) (by omega) | exact resc3 hc1 (by omega) (by omega) (by omega)
      · rw [hb2]
        refine g_run rfl rfl (s_mv_imm rfl rfl) ?_
        refine g_run rfl rfl (s_mv_imm rfl rfl) ?_
        refine g_run rfl rfl (si_ix rfl rfl rfl Tryd.underlying9 (by ((try simp only [decide_eq_true_eq, decide_eq_false_iff_not, bne_iff_ne, ne_eq, beq_iff_eq, bne_eq_false_iff_eq, beq_eq_false_iff_ne, Bool.not_eq_true', Bool.not_eq_false', gt_iff_lt, ge_iff_le] at *); (repeat simp (disch := omega) only [wrap64, wrap32] at *)); omega)) ?_
        refine g_run rfl rfl (s_eqI rfl rfl rfl) ?_
        refine g_u (s_pick_f rfl rfl rfl) ?_
        refine g_nil ?_
        refine normal_thn ?_
        refine aw_cond rfl (fun hb4 => ?_) (fun hb4 => ?_)
        · skip
          refine aw_region ?_
          refine g_u (s_mv_imm rfl rfl) ?_
          refine g_u (s_catS rfl rfl rfl (by show _ ≤ (9223372036854775807 : Int); (try dsimp only); first | (simp only [app_size, c0, c1, c4]; omega) | (have q := hx (of_decide_eq_true hb1); simp only [app_size, strOf_size, hexB_length, lst_len, q, c1, c4]; omega))) ?_
          refine g_u (s_as_imm rfl rfl) ?_
          refine g_nil ?_
          refine normal_thn ?_
          refine aw_seq ?_
          refine aw_region ?_
          refine g_u (s_mv_imm rfl rfl) ?_
          refine g_u (s_mv_imm rfl rfl) ?_
          refine g_u (si_ix rfl rfl rfl Tryd.underlying9 (by ((try simp only [decide_eq_true_eq, decide_eq_false_iff_not, bne_iff_ne, ne_eq, beq_iff_eq, bne_eq_false_iff_eq, beq_eq_false_iff_ne, Bool.not_eq_true', Bool.not_eq_false', gt_iff_lt, ge_iff_le] at *); (repeat simp (disch := omega) only [wrap64, wrap32] at *)); omega)) ?_
          refine g_u (s_ltI rfl rfl rfl) ?_
          refine g_nil ?_
          refine normal_thn ?_
          refine aw_cond rfl (fun hb5 => ?_) (fun hb5 => ?_)
          · skip
            refine aw_region ?_
            refine g_u (s_mv_imm rfl rfl) ?_
            refine g_u (s_catS rfl rfl rfl (by show _ ≤ (9223372036854775807 : Int); (try dsimp only); first | (simp only [app_size, c0, c1, c4]; omega) | (have q := hx (of_decide_eq_true hb1); simp only [app_size, strOf_size, hexB_length, lst_len, q, c1, c4]; omega))) ?_
            refine g_u (s_mv_imm rfl rfl) ?_
            refine g_u (s_mv_imm rfl rfl) ?_
            refine g_u (s_mv_imm rfl rfl) ?_
            refine g_u (s_add rfl rfl rfl) ?_
            refine g_u (si_lh rfl rfl rfl rfl Tryd.underlying9 (by ((try simp only [decide_eq_true_eq, decide_eq_false_iff_not, bne_iff_ne, ne_eq, beq_iff_eq, bne_eq_false_iff_eq, beq_eq_false_iff_ne, Bool.not_eq_true', Bool.not_eq_false', gt_iff_lt, ge_iff_le] at *); (repeat simp (disch := omega) only [wrap64, wrap32] at *)); omega)) ?_
            refine g_u (s_call1 (rhex_c _ (by have q := hx (of_decide_eq_true hb1); (try dsimp only); omega)) rfl rfl) ?_
            refine g_u (s_catS rfl rfl rfl (by show _ ≤ (9223372036854775807 : Int); (try dsimp only); first | (simp only [app_size, c0, c1, c4]; omega) | (have q := hx (of_decide_eq_true hb1); simp only [app_size, strOf_size, hexB_length, lst_len, q, c1, c4]; omega))) ?_
            refine g_u (s_as_imm rfl rfl) ?_
            refine g_nil ?_
            refine normal_blk ?_
            refine normal_thn ?_
            refine aw_region ?_
            refine g_u (s_mv_imm rfl rfl) ?_
            refine g_u (s_add rfl rfl rfl) ?_
            refine g_u (s_as_imm rfl rfl) ?_
            refine g_nil ?_
            refine normal_thn ?_
            change decide ((i : Int) < (s.size : Int)) = true at hb1
            have hi : i < s.size := by have := of_decide_eq_true hb1; omega
            obtain ⟨c, hc1, hc2⟩ := bAt_nat s i hi
            refine ⟨⟨i + 1, _⟩, ⟨hi, ?_⟩, ⟨rfl, rfl, look_int rfl (by rw [wrap64 (by omega) (by omega)]; rfl), trivial⟩, by dsimp only; omega⟩
            dsimp only at *
            rw [take_snoc hc1, escs_snoc, ← List.cons_append, ← h2, e2 hi, Int.toNat_natCast]
            simp only [beq_iff_eq, beq_eq_false_iff_ne, ne_eq, decide_eq_true_eq, decide_eq_false_iff_not] at *
            first | (exfalso; omega) | exact resc1 hc1 (.inl (by omega)) | exact resc1 hc1 (.inr (by omega)) | exact resc2 hc1 (by omega) (by omega) (by omega) | exact resc3 hc1 (by omega) (by omega) (by omega)
          · skip
            refine aw_region ?_
            refine g_u (s_mv_imm rfl rfl) ?_
            refine g_u (s_mv_imm rfl rfl) ?_
            refine g_u (s_mv_imm rfl rfl) ?_
            refine g_u (s_mv_imm rfl rfl) ?_
            refine g_u (s_add rfl rfl rfl) ?_
            refine g_u (si_lh rfl rfl rfl rfl Tryd.underlying9 (by ((try simp only [decide_eq_true_eq, decide_eq_false_iff_not, bne_iff_ne, ne_eq, beq_iff_eq, bne_eq_false_iff_eq, beq_eq_false_iff_ne, Bool.not_eq_true', Bool.not_eq_false', gt_iff_lt, ge_iff_le] at *); (repeat simp (disch := omega) only [wrap64, wrap32] at *)); omega)) ?_
            refine g_u (s_catS rfl rfl rfl (by show _ ≤ (9223372036854775807 : Int); (try dsimp only); first | (simp only [app_size, c0, c1, c4]; omega) | (have q := hx (of_decide_eq_true hb1); simp only [app_size, strOf_size, hexB_length, lst_len, q, c1, c4]; omega))) ?_
            refine g_u (s_as_imm rfl rfl) ?_
            refine g_nil ?_
            refine normal_blk ?_
            refine normal_thn ?_
            refine aw_region ?_
            refine g_u (s_mv_imm rfl rfl) ?_
            refine g_u (s_add rfl rfl rfl) ?_
            refine g_u (s_as_imm rfl rfl) ?_
            refine g_nil ?_
            refine normal_thn ?_
            change decide ((i : Int) < (s.size : Int)) = true at hb1
            have hi : i < s.size := by have := of_decide_eq_true hb1; omega
            obtain ⟨c, hc1, hc2⟩ := bAt_nat s i hi
            refine ⟨⟨i + 1, _⟩, ⟨hi, ?_⟩, ⟨rfl, rfl, look_int rfl (by rw [wrap64 (by omega) (by omega)]; rfl), trivial⟩, by dsimp only; omega⟩
            dsimp only at *
            rw [take_snoc hc1, escs_snoc, ← List.cons_append, ← h2, e2 hi, Int.toNat_natCast]
            simp only [beq_iff_eq, beq_eq_false_iff_ne, ne_eq, decide_eq_true_eq, decide_eq_false_iff_not] at *
            first | (exfalso; omega) | exact resc1 hc1 (.inl (by omega)) | exact resc1 hc1 (.inr (by omega)) | exact resc2 hc1 (by omega) (by omega) (by omega) | exact resc3 hc1 (by omega) (by omega) (by omega)
        · skip
          refine aw_skip ?_
          refine normal_thn ?_
          refine aw_seq ?_
          refine aw_region ?_
          refine g_u (s_mv_imm rfl rfl) ?_
          refine g_u (s_mv_imm rfl rfl) ?_
          refine g_u (si_ix rfl rfl rfl Tryd.underlying9 (by ((try simp only [decide_eq_true_eq, decide_eq_false_iff_not, bne_iff_ne, ne_eq, beq_iff_eq, bne_eq_false_iff_eq, beq_eq_false_iff_ne, Bool.not_eq_true', Bool.not_eq_false', gt_iff_lt, ge_iff_le] at *); (repeat simp (disch := omega) only [wrap64, wrap32] at *)); omega)) ?_
          refine g_u (s_ltI rfl rfl rfl) ?_
          refine g_nil ?_
          refine normal_thn ?_
          refine aw_cond rfl (fun hb6 => ?_) (fun hb6 => ?_)
          · skip
            refine aw_region ?_
            refine g_u (s_mv_imm rfl rfl) ?_
            refine g_u (s_catS rfl rfl rfl (by show _ ≤ (9223372036854775807 : Int); (try dsimp only); first | (simp only [app_size, c0, c1, c4]; omega) | (have q := hx (of_decide_eq_true hb1); simp only [app_size, strOf_size, hexB_length, lst_len, q, c1, c4]; omega))) ?_
            refine g_u (s_mv_imm rfl rfl) ?_
            refine g_u (s_mv_imm rfl rfl) ?_
            refine g_u (s_mv_imm rfl rfl) ?_
            refine g_u (s_add rfl rfl rfl) ?_
            refine g_u (si_lh rfl rfl rfl rfl Tryd.underlying9 (by ((try simp only [decide_eq_true_eq, decide_eq_false_iff_not, bne_iff_ne, ne_eq, beq_iff_eq, bne_eq_false_iff_eq, beq_eq_false_iff_ne, Bool.not_eq_true', Bool.not_eq_false', gt_iff_lt, ge_iff_le] at *); (repeat simp (disch := omega) only [wrap64, wrap32] at *)); omega)) ?_
            refine g_u (s_call1 (rhex_c _ (by have q := hx (of_decide_eq_true hb1); (try dsimp only); omega)) rfl rfl) ?_
            refine g_u (s_catS rfl rfl rfl (by show _ ≤ (9223372036854775807 : Int); (try dsimp only); first | (simp only [app_size, c0, c1, c4]; omega) | (have q := hx (of_decide_eq_true hb1); simp only [app_size, strOf_size, hexB_length, lst_len, q, c1, c4]; omega))) ?_
            refine g_u (s_as_imm rfl rfl) ?_
            refine g_nil ?_
            refine normal_blk ?_
            refine normal_thn ?_
            refine aw_region ?_
            refine g_u (s_mv_imm rfl rfl) ?_
            refine g_u (s_add rfl rfl rfl) ?_
            refine g_u (s_as_imm rfl rfl) ?_
            refine g_nil ?_
            refine normal_thn ?_
            change decide ((i : Int) < (s.size : Int)) = true at hb1
            have hi : i < s.size := by have := of_decide_eq_true hb1; omega
            obtain ⟨c, hc1, hc2⟩ := bAt_nat s i hi
            refine ⟨⟨i + 1, _⟩, ⟨hi, ?_⟩, ⟨rfl, rfl, look_int rfl (by rw [wrap64 (by omega) (by omega)]; rfl), trivial⟩, by dsimp only; omega⟩
            dsimp only at *
            rw [take_snoc hc1, escs_snoc, ← List.cons_append, ← h2, e2 hi, Int.toNat_natCast]
            simp only [beq_iff_eq, beq_eq_false_iff_ne, ne_eq, decide_eq_true_eq, decide_eq_false_iff_not] at *
            first | (exfalso; omega) | exact resc1 hc1 (.inl (by omega)) | exact resc1 hc1 (.inr (by omega)) | exact resc2 hc1 (by omega) (by omega) (by omega) | exact resc3 hc1 (by omega) (by omega) (by omega)
          · skip
            refine aw_region ?_
            refine g_u (s_mv_imm rfl rfl) ?_
            refine g_u (s_mv_imm rfl rfl) ?_
            refine g_u (s_mv_imm rfl rfl) ?_
            refine g_u (s_mv_imm rfl rfl) ?_
            refine g_u (s_add rfl rfl rfl) ?_
            refine g_u (si_lh rfl rfl rfl rfl Tryd.underlying9 (by ((try simp only [decide_eq_true_eq, decide_eq_false_iff_not, bne_iff_ne, ne_eq, beq_iff_eq, bne_eq_false_iff_eq, beq_eq_false_iff_ne, Bool.not_eq_true', Bool.not_eq_false', gt_iff_lt, ge_iff_le] at *); (repeat simp (disch := omega) only [wrap64, wrap32] at *)); omega)) ?_
            refine g_u (s_catS rfl rfl rfl (by show _ ≤ (9223372036854775807 : Int); (try dsimp only); first | (simp only [app_size, c0, c1, c4]; omega) | (have q := hx (of_decide_eq_true hb1); simp only [app_size, strOf_size, hexB_length, lst_len, q, c1, c4]; omega))) ?_
            refine g_u (s_as_imm rfl rfl) ?_
            refine g_nil ?_
            refine normal_blk ?_
            refine normal_thn ?_
            refine aw_region ?_
            refine g_u (s_mv_imm rfl rfl) ?_
            refine g_u (s_add rfl rfl rfl) ?_
            refine g_u (s_as_imm rfl rfl) ?_
            refine g_nil ?_
            refine normal_thn ?_
            change decide ((i : Int) < (s.size : Int)) = true at hb1
            have hi : i < s.size := by have := of_decide_eq_true hb1; omega
            obtain ⟨c, hc1, hc2⟩ := bAt_nat s i hi
            refine ⟨⟨i + 1, _⟩, ⟨hi, ?_⟩, ⟨rfl, rfl, look_int rfl (by rw [wrap64 (by omega) (by omega)]; rfl), trivial⟩, by dsimp only; omega⟩
            dsimp only at *
            rw [take_snoc hc1, escs_snoc, ← List.cons_append, ← h2, e2 hi, Int.toNat_natCast]
            simp only [beq_iff_eq, beq_eq_false_iff_ne, ne_eq, decide_eq_true_eq, decide_eq_false_iff_not] at *
            first | (exfalso; omega) | exact resc1 hc1 (.inl (by omega)) | exact resc1 hc1 (.inr (by omega)) | exact resc2 hc1 (by omega) (by omega) (by omega) | exact resc3 hc1 (by omega) (by omega) (by omega)
    · skip
      refine aw_exit ?_
      refine exit_thn ?_
      refine exit_thn ?_
      refine exit_blk ?_
      refine normal_thn ?_
      refine aw_seq ?_
      refine aw_region ?_
      refine g_u (s_mv_imm rfl rfl) ?_
      refine g_u (s_catS rfl rfl rfl (by show _ ≤ (9223372036854775807 : Int); (try dsimp only); first | (simp only [app_size, c0, c1, c4]; omega) | (have q := hx (of_decide_eq_true hb1); simp only [app_size, strOf_size, hexB_length, lst_len, q, c1, c4]; omega))) ?_
      refine g_u (s_as_imm rfl rfl) ?_
      refine g_nil ?_
      refine normal_thn ?_
      refine aw_ret ?_
      change decide ((i : Int) < (s.size : Int)) = false at hb1
      have hi : i = s.size := by have := of_decide_eq_false hb1; omega
      exact ⟨⟨(rfl : toAV (Al.look _ _) = some _).trans (congrArg (fun z => some (sv z)) (strOf_eq (by show lst (t ++ ⟨#[34]⟩) = _; rw [lst_app, h2, hi, List.take_of_length_le (Nat.le_of_eq hz)]; rfl))), rfl⟩, trivial⟩

set_option maxHeartbeats 400000 in
theorem rcomma_c (i : Nat) : PCall Tryd.prog Γ0 225 [iv (i : Int)] [sv (strOf (comma (i == 0)))] := by
  refine pcall_of Tryd.func225 rfl Tryd.ntmps225 (by kernel_rfl) rfl fun w0 I0 G0 => ?_
  refine aw_seq ?_
  refine aw_region ?_
  refine g_u (s_as_imm rfl rfl) ?_
  refine g_nil ?_
  refine normal_thn ?_
  refine aw_seq ?_
  refine aw_seq ?_
  refine aw_region ?_
  refine g_u (s_mv_imm rfl rfl) ?_
  refine g_u (s_eqI rfl rfl rfl) ?_
  refine g_nil ?_
  refine normal_thn ?_
  refine aw_cond rfl (fun hb1 => ?_) (fun hb1 => ?_)
  · skip
    refine aw_seq ?_
    refine aw_region ?_
    refine g_u (s_as_imm rfl rfl) ?_
    refine g_nil ?_
    refine normal_thn ?_
    refine aw_ret ?_
    refine ret_thn ?_
    exact ⟨⟨(rfl : toAV (Al.look _ _) = some _).trans (congrArg some (by (have e : i = 0 := (by have : (i : Int) = 0 := (by simpa using hb1); omega); rw [e]; rfl))), rfl⟩, trivial⟩
  · skip
    refine aw_skip ?_
    refine normal_thn ?_
    refine aw_seq ?_
    refine aw_region ?_
    refine g_u (s_as_imm rfl rfl) ?_
    refine g_nil ?_
    refine normal_thn ?_
    refine aw_ret ?_
    exact ⟨⟨(rfl : toAV (Al.look _ _) = some _).trans (congrArg some (by (have e : i ≠ 0 := (by have : (i : Int) ≠ 0 := (by simpa using hb1); omega); rw [show (i == 0) = false from by simpa using e]; rfl))), rfl⟩, trivial⟩

set_option maxHeartbeats 400000 in
theorem rsimple_c (v : GV) (ho : v.ok) (hw : v.wt ≤ 10000000) : PCall Tryd.prog Γ0 174 [v.av] [sv (strOf (simpB v))] := by
  have lv := len_wtVs v.list
  have la := len_wtAs v.map
  have ek := v.wt_eq
  have ok := v.ok_iff.1 ho
  have sl := simpB_length v
  have jl := json_len v
  refine pcall_of Tryd.func174 rfl Tryd.ntmps174 (by kernel_rfl) rfl fun w0 I0 G0 => ?_
  refine aw_seq ?_
  refine aw_region ?_
  refine g_uG (s_box_imm 1001 rfl rfl rfl rfl) rfl ?_
  refine g_u (s_as_imm rfl rfl) ?_
  refine g_nil ?_
  refine normal_thn ?_
  refine aw_seq ?_
  refine aw_seq ?_
  refine aw_region ?_
  refine g_u (s_fieldAddr rfl rfl fa57_0 rfl) ?_
  refine g_u (s_load_imm rfl rfl rfl tA5 tS5 rfl rfl) ?_
  refine g_u (s_eqI rfl rfl rfl) ?_
  refine g_nil ?_
  refine normal_thn ?_
  refine aw_cond rfl (fun hb1 => ?_) (fun hb1 => ?_)
  · skip
    refine aw_seq ?_
    refine aw_region ?_
    refine g_u (s_fieldAddr rfl rfl fa57_1 rfl) ?_
    refine g_u (s_load_imm rfl rfl rfl tA9 tS9 rfl rfl) ?_
    refine g_u (s_as_imm rfl rfl) ?_
    refine g_nil ?_
    refine normal_thn ?_
    refine aw_ret ?_
    refine ret_thn ?_
    exact ⟨⟨(rfl : toAV (Al.look _ _) = some _).trans (congrArg some (by (simp only [beq_iff_eq, beq_eq_false_iff_ne, ne_eq, decide_eq_true_eq, decide_eq_false_iff_not] at *; first | (exfalso; omega) | exact congrArg sv (simp1 (by omega)).symm | (rw [simp2 (by omega) (by omega)]; rfl) | (rw [simp2' (by omega) (by omega)]; rfl) | (rw [simp3 (by omega)]) | (rw [simp4 (by omega), lst_strOf]; rfl) | (rw [simp5 (by omega)]) | (rw [simp6 (by omega)]; rfl)))), rfl⟩, trivial⟩
  · skip
    refine aw_skip ?_
    refine normal_thn ?_
    refine aw_seq ?_
    refine aw_seq ?_
    refine aw_region ?_
    refine g_u (s_fieldAddr rfl rfl fa57_0 rfl) ?_
    refine g_u (s_load_imm rfl rfl rfl tA5 tS5 rfl rfl) ?_
    refine g_u (s_eqI rfl rfl rfl) ?_
    refine g_u (s_mv_imm rfl rfl) ?_
    refine g_case (t := 11) rfl ?_
    rintro (hb2 | hb2)
    · rw [hb2]
      refine g_run rfl rfl (s_fieldAddr rfl rfl fa57_2 rfl) ?_
      refine g_run rfl rfl (s_load_imm rfl rfl rfl tA3 tS3 rfl rfl) ?_
      refine g_run rfl rfl (s_eqI rfl rfl rfl) ?_
      refine g_u (s_pick_t rfl rfl rfl) ?_
      refine g_nil ?_
      refine normal_thn ?_
      refine aw_cond rfl (fun hb3 => ?_) (fun hb3 => ?_)
      · skip
        refine aw_seq ?_
        refine aw_region ?_
        refine g_u (s_as_imm rfl rfl) ?_
        refine g_nil ?_
        refine normal_thn ?_
        refine aw_ret ?_
        refine ret_thn ?_
        exact ⟨⟨(rfl : toAV (Al.look _ _) = some _).trans (congrArg some (by (simp only [beq_iff_eq, beq_eq_false_iff_ne, ne_eq, decide_eq_true_eq, decide_eq_false_iff_not] at *; first | (exfalso; omega) | exact congrArg sv (simp1 (by omega)).symm | (rw [simp2 (by omega) (by omega)]; rfl) | (rw [simp2' (by omega) (by omega)]; rfl) | (rw [simp3 (by omega)]) | (rw [simp4 (by omega), lst_strOf]; rfl) | (rw [simp5 (by omega)]) | (rw [simp6 (by omega)]; rfl)))), rfl⟩, trivial⟩
      · skip
        refine aw_skip ?_
        refine normal_thn ?_
        refine aw_seq ?_
        refine aw_seq ?_
        refine aw_region ?_
        refine g_u (s_fieldAddr rfl rfl fa57_0 rfl) ?_
        refine g_u (s_load_imm rfl rfl rfl tA5 tS5 rfl rfl) ?_
        refine g_u (s_eqI rfl rfl rfl) ?_
        refine g_nil ?_
        refine normal_thn ?_
        refine aw_cond rfl (fun hb4 => ?_) (fun hb4 => ?_)
        · skip
          refine aw_seq ?_
          refine aw_region ?_
          refine g_u (s_as_imm rfl rfl) ?_
          refine g_nil ?_
          refine normal_thn ?_
          refine aw_ret ?_
          refine ret_thn ?_
          exact ⟨⟨(rfl : toAV (Al.look _ _) = some _).trans (congrArg some (by (simp only [beq_iff_eq, beq_eq_false_iff_ne, ne_eq, decide_eq_true_eq, decide_eq_false_iff_not] at *; first | (exfalso; omega) | exact congrArg sv (simp1 (by omega)).symm | (rw [simp2 (by omega) (by omega)]; rfl) | (rw [simp2' (by omega) (by omega)]; rfl) | (rw [simp3 (by omega)]) | (rw [simp4 (by omega), lst_strOf]; rfl) | (rw [simp5 (by omega)]) | (rw [simp6 (by omega)]; rfl)))), rfl⟩, trivial⟩
        · skip
          refine aw_skip ?_
          refine normal_thn ?_
          refine aw_seq ?_
          refine aw_seq ?_
          refine aw_region ?_
          refine g_u (s_fieldAddr rfl rfl fa57_0 rfl) ?_
          refine g_u (s_load_imm rfl rfl rfl tA5 tS5 rfl rfl) ?_
          refine g_u (s_eqI rfl rfl rfl) ?_
          refine g_nil ?_
          refine normal_thn ?_
          refine aw_cond rfl (fun hb5 => ?_) (fun hb5 => ?_)
          · skip
            refine aw_seq ?_
            refine aw_region ?_
            refine g_u (s_fieldAddr rfl rfl fa57_2 rfl) ?_
            refine g_u (s_load_imm rfl rfl rfl tA3 tS3 rfl rfl) ?_
            refine g_u (s_call1 (rdec_c _ ok.2.2.1) rfl rfl) ?_
            refine g_u (s_as_imm rfl rfl) ?_
            refine g_nil ?_
            refine normal_thn ?_
            refine aw_ret ?_
            refine ret_thn ?_
            exact ⟨⟨(rfl : toAV (Al.look _ _) = some _).trans (congrArg some (by (simp only [beq_iff_eq, beq_eq_false_iff_ne, ne_eq, decide_eq_true_eq, decide_eq_false_iff_not] at *; first | (exfalso; omega) | exact congrArg sv (simp1 (by omega)).symm | (rw [simp2 (by omega) (by omega)]; rfl) | (rw [simp2' (by omega) (by omega)]; rfl) | (rw [simp3 (by omega)]) | (rw [simp4 (by omega), lst_strOf]; rfl) | (rw [simp5 (by omega)]) | (rw [simp6 (by omega)]; rfl)))), rfl⟩, trivial⟩
          · skip
            refine aw_skip ?_
            refine normal_thn ?_
            refine aw_seq ?_
            refine aw_seq ?_
            refine aw_region ?_
            refine g_u (s_fieldAddr rfl rfl fa57_0 rfl) ?_
            refine g_u (s_load_imm rfl rfl rfl tA5 tS5 rfl rfl) ?_
            refine g_u (s_eqI rfl rfl rfl) ?_
            refine g_nil ?_
            refine normal_thn ?_
            refine aw_cond rfl (fun hb6 => ?_) (fun hb6 => ?_)
            · skip
              refine aw_seq ?_
              refine aw_region ?_
              refine g_u (s_fieldAddr rfl rfl fa57_3 rfl) ?_
              refine g_u (s_load_imm rfl rfl rfl tA29 tS29 rfl rfl) ?_
              refine g_u (s_call1 (rhigh_c _ ok.2.2.2.1) rfl rfl) ?_
              refine g_u (s_call1 (rhex_c _ (by first | omega | (rw [strOf_size, be_length]; omega))) rfl rfl) ?_
              refine g_u (s_catS rfl rfl rfl (by show _ ≤ (9223372036854775807 : Int); simp only [strOf_size, hexB_length, lst_strOf, be_length]; first | omega | (show 2 + _ ≤ _; omega) | (have c1 : (ByteArray.mk #[48, 120]).size = 2 := rfl; omega))) ?_
              refine g_u (s_as_imm rfl rfl) ?_
              refine g_nil ?_
              refine normal_thn ?_
              refine aw_ret ?_
              refine ret_thn ?_
              exact ⟨⟨(rfl : toAV (Al.look _ _) = some _).trans (congrArg some (by (simp only [beq_iff_eq, beq_eq_false_iff_ne, ne_eq, decide_eq_true_eq, decide_eq_false_iff_not] at *; first | (exfalso; omega) | exact congrArg sv (simp1 (by omega)).symm | (rw [simp2 (by omega) (by omega)]; rfl) | (rw [simp2' (by omega) (by omega)]; rfl) | (rw [simp3 (by omega)]) | (rw [simp4 (by omega), lst_strOf]; rfl) | (rw [simp5 (by omega)]) | (rw [simp6 (by omega)]; rfl)))), rfl⟩, trivial⟩
            · skip
              refine aw_skip ?_
              refine normal_thn ?_
              refine aw_seq ?_
              refine aw_seq ?_
              refine aw_region ?_
              refine g_u (s_fieldAddr rfl rfl fa57_0 rfl) ?_
              refine g_u (s_load_imm rfl rfl rfl tA5 tS5 rfl rfl) ?_
              refine g_u (s_eqI rfl rfl rfl) ?_
              refine g_nil ?_
              refine normal_thn ?_
              refine aw_cond rfl (fun hb7 => ?_) (fun hb7 => ?_)
              · skip
                refine aw_seq ?_
                refine aw_region ?_
                refine g_u (s_fieldAddr rfl rfl fa57_1 rfl) ?_
                refine g_u (s_load_imm rfl rfl rfl tA9 tS9 rfl rfl) ?_
                refine g_u (s_call1 (rhex_c _ (by first | omega | (rw [strOf_size, be_length]; omega))) rfl rfl) ?_
                refine g_u (s_as_imm rfl rfl) ?_
                refine g_nil ?_
                refine normal_thn ?_
                refine aw_ret ?_
                refine ret_thn ?_
                exact ⟨⟨(rfl : toAV (Al.look _ _) = some _).trans (congrArg some (by (simp only [beq_iff_eq, beq_eq_false_iff_ne, ne_eq, decide_eq_true_eq, decide_eq_false_iff_not] at *; first | (exfalso; omega) | exact congrArg sv (simp1 (by omega)).symm | (rw [simp2 (by omega) (by omega)]; rfl) | (rw [simp2' (by omega) (by omega)]; rfl) | (rw [simp3 (by omega)]) | (rw [simp4 (by omega), lst_strOf]; rfl) | (rw [simp5 (by omega)]) | (rw [simp6 (by omega)]; rfl)))), rfl⟩, trivial⟩
              · skip
                refine aw_skip ?_
                refine normal_thn ?_
                refine aw_seq ?_
                refine aw_region ?_
                refine g_u (s_as_imm rfl rfl) ?_
                refine g_nil ?_
                refine normal_thn ?_
                refine aw_ret ?_
                exact ⟨⟨(rfl : toAV (Al.look _ _) = some _).trans (congrArg some (by (simp only [beq_iff_eq, beq_eq_false_iff_ne, ne_eq, decide_eq_true_eq, decide_eq_false_iff_not] at *; first | (exfalso; omega) | exact congrArg sv (simp1 (by omega)).symm | (rw [simp2 (by omega) (by omega)]; rfl) | (rw [simp2' (by omega) (by omega)]; rfl) | (rw [simp3 (by omega)]) | (rw [simp4 (by omega), lst_strOf]; rfl) | (rw [simp5 (by omega)]) | (rw [simp6 (by omega)]; rfl)))), rfl⟩, trivial⟩
    · rw [hb2]
      refine g_skip rfl rfl rfl ?_
      refine g_skip rfl rfl rfl ?_
      refine g_skip rfl rfl rfl ?_
      refine g_u (s_pick_f rfl rfl rfl) ?_
      refine g_nil ?_
      refine normal_thn ?_
      refine aw_cond_false rfl ?_
      refine aw_skip ?_
      refine normal_thn ?_
      refine aw_seq ?_
      refine aw_seq ?_
      refine aw_region ?_
      refine g_u (s_fieldAddr rfl rfl fa57_0 rfl) ?_
      refine g_u (s_load_imm rfl rfl rfl tA5 tS5 rfl rfl) ?_
      refine g_u (s_eqI rfl rfl rfl) ?_
      refine g_nil ?_
      refine normal_thn ?_
      refine aw_cond rfl (fun hb8 => ?_) (fun hb8 => ?_)
      · skip
        refine aw_seq ?_
        refine aw_region ?_
        refine g_u (s_as_imm rfl rfl) ?_
        refine g_nil ?_
        refine normal_thn ?_
        refine aw_ret ?_
        refine ret_thn ?_
        exact ⟨⟨(rfl : toAV (Al.look _ _) = some _).trans (congrArg some (by (simp only [beq_iff_eq, beq_eq_false_iff_ne, ne_eq, decide_eq_true_eq, decide_eq_false_iff_not] at *; first | (exfalso; omega) | exact congrArg sv (simp1 (by omega)).symm | (rw [simp2 (by omega) (by omega)]; rfl) | (rw [simp2' (by omega) (by omega)]; rfl) | (rw [simp3 (by omega)]) | (rw [simp4 (by omega), lst_strOf]; rfl) | (rw [simp5 (by omega)]) | (rw [simp6 (by omega)]; rfl)))), rfl⟩, trivial⟩
      · skip
        refine aw_skip ?_
        refine normal_thn ?_
        refine aw_seq ?_
        refine aw_seq ?_
        refine aw_region ?_
        refine g_u (s_fieldAddr rfl rfl fa57_0 rfl) ?_
        refine g_u (s_load_imm rfl rfl rfl tA5 tS5 rfl rfl) ?_
        refine g_u (s_eqI rfl rfl rfl) ?_
        refine g_nil ?_
        refine normal_thn ?_
        refine aw_cond rfl (fun hb9 => ?_) (fun hb9 => ?_)
        · skip
          refine aw_seq ?_
          refine aw_region ?_
          refine g_u (s_fieldAddr rfl rfl fa57_2 rfl) ?_
          refine g_u (s_load_imm rfl rfl rfl tA3 tS3 rfl rfl) ?_
          refine g_u (s_call1 (rdec_c _ ok.2.2.1) rfl rfl) ?_
          refine g_u (s_as_imm rfl rfl) ?_
          refine g_nil ?_
          refine normal_thn ?_
          refine aw_ret ?_
          refine ret_thn ?_
          exact ⟨⟨(rfl : toAV (Al.look _ _) = some _).trans (congrArg some (by (simp only [beq_iff_eq, beq_eq_false_iff_ne, ne_eq, decide_eq_true_eq, decide_eq_false_iff_not] at *; first | (exfalso; omega) | exact congrArg sv (simp1 (by omega)).symm | (rw [simp2 (by omega) (by omega)]; rfl) | (rw [simp2' (by omega) (by omega)]; rfl) | (rw [simp3 (by omega)]) | (rw [simp4 (by omega), lst_strOf]; rfl) | (rw [simp5 (by omega)]) | (rw [simp6 (by omega)]; rfl)))), rfl⟩, trivial⟩
        · skip
          refine aw_skip ?_
          refine normal_thn ?_
          refine aw_seq ?_
          refine aw_seq ?_
          refine aw_region ?_
          refine g_u (s_fieldAddr rfl rfl fa57_0 rfl) ?_
          refine g_u (s_load_imm rfl rfl rfl tA5 tS5 rfl rfl) ?_
          refine g_u (s_eqI rfl rfl rfl) ?_
          refine g_nil ?_
          refine normal_thn ?_
          refine aw_cond rfl (fun hb10 => ?_) (fun hb10 => ?_)
          · skip
            refine aw_seq ?_
            refine aw_region ?_
            refine g_u (s_fieldAddr rfl rfl fa57_3 rfl) ?_
            refine g_u (s_load_imm rfl rfl rfl tA29 tS29 rfl rfl) ?_
            refine g_u (s_call1 (rhigh_c _ ok.2.2.2.1) rfl rfl) ?_
            refine g_u (s_call1 (rhex_c _ (by first | omega | (rw [strOf_size, be_length]; omega))) rfl rfl) ?_
            refine g_u (s_catS rfl rfl rfl (by show _ ≤ (9223372036854775807 : Int); simp only [strOf_size, hexB_length, lst_strOf, be_length]; first | omega | (show 2 + _ ≤ _; omega) | (have c1 : (ByteArray.mk #[48, 120]).size = 2 := rfl; omega))) ?_
            refine g_u (s_as_imm rfl rfl) ?_
            refine g_nil ?_
            refine normal_thn ?_
            refine aw_ret ?_
            refine ret_thn ?_
            exact ⟨⟨(rfl : toAV (Al.look _ _) = some _).trans (congrArg some (by (simp only [beq_iff_eq, beq_eq_false_iff_ne, ne_eq, decide_eq_true_eq, decide_eq_false_iff_not] at *; first | (exfalso; omega) | exact congrArg sv (simp1 (by omega)).symm | (rw [simp2 (by omega) (by omega)]; rfl) | (rw [simp2' (by omega) (by omega)]; rfl) | (rw [simp3 (by omega)]) | (rw [simp4 (by omega), lst_strOf]; rfl) | (rw [simp5 (by omega)]) | (rw [simp6 (by omega)]; rfl)))), rfl⟩, trivial⟩
          · skip
            refine aw_skip ?_
            refine normal_thn ?_
            refine aw_seq ?_
            refine aw_seq ?_
            refine aw_region ?_
            refine g_u (s_fieldAddr rfl rfl fa57_0 rfl) ?_
            refine g_u (s_load_imm rfl rfl rfl tA5 tS5 rfl rfl) ?_
            refine g_u (s_eqI rfl rfl rfl) ?_
            refine g_nil ?_
            refine normal_thn ?_
            refine aw_cond rfl (fun hb11 => ?_) (fun hb11 => ?_)
            · skip
              refine aw_seq ?_
              refine aw_region ?_
              refine g_u (s_fieldAddr rfl rfl fa57_1 rfl) ?_
              refine g_u (s_load_imm rfl rfl rfl tA9 tS9 rfl rfl) ?_
              refine g_u (s_call1 (rhex_c _ (by first | omega | (rw [strOf_size, be_length]; omega))) rfl rfl) ?_
              refine g_u (s_as_imm rfl rfl) ?_
              refine g_nil ?_
              refine normal_thn ?_
              refine aw_ret ?_
              refine ret_thn ?_
              exact ⟨⟨(rfl : toAV (Al.look _ _) = some _).trans (congrArg some (by (simp only [beq_iff_eq, beq_eq_false_iff_ne, ne_eq, decide_eq_true_eq, decide_eq_false_iff_not] at *; first | (exfalso; omega) | exact congrArg sv (simp1 (by omega)).symm | (rw [simp2 (by omega) (by omega)]; rfl) | (rw [simp2' (by omega) (by omega)]; rfl) | (rw [simp3 (by omega)]) | (rw [simp4 (by omega), lst_strOf]; rfl) | (rw [simp5 (by omega)]) | (rw [simp6 (by omega)]; rfl)))), rfl⟩, trivial⟩
            · skip
              refine aw_skip ?_
              refine normal_thn ?_
              refine aw_seq ?_
              refine aw_region ?_
              refine g_u (s_as_imm rfl rfl) ?_
              refine g_nil ?_
              refine normal_thn ?_
              refine aw_ret ?_
              exact ⟨⟨(rfl : toAV (Al.look _ _) = some _).trans (congrArg some (by (simp only [beq_iff_eq, beq_eq_false_iff_ne, ne_eq, decide_eq_true_eq, decide_eq_false_iff_not] at *; first | (exfalso; omega) | exact congrArg sv (simp1 (by omega)).symm | (rw [simp2 (by omega) (by omega)]; rfl) | (rw [simp2' (by omega) (by omega)]; rfl) | (rw [simp3 (by omega)]) | (rw [simp4 (by omega), lst_strOf]; rfl) | (rw [simp5 (by omega)]) | (rw [simp6 (by omega)]; rfl)))), rfl⟩, trivial⟩

set_option maxHeartbeats 400000 in
theorem rjson_step (v : GV) (ho : v.ok) (hw : v.wt ≤ 10000000) (ih : ∀ y ∈ v.list, PCall Tryd.prog Γ0 173 [y.av] [sv (strOf (jsonB y))]) (ihm : ∀ a ∈ v.map, PCall Tryd.prog Γ0 173 [a.val.av] [sv (strOf (jsonB a.val))]) : PCall Tryd.prog Γ0 173 [v.av] [sv (strOf (jsonB v))] := by
  have lv := len_wtVs v.list
  have la := len_wtAs v.map
  have ek := v.wt_eq
  have ok := v.ok_iff.1 ho
  have sl := simpB_length v
  have jl := json_len v
  have c1 : (ByteArray.mk #[91]).size = 1 := rfl
  have c2 : (ByteArray.mk #[93]).size = 1 := rfl
  have c3 : (ByteArray.mk #[123]).size = 1 := rfl
  have c4 : (ByteArray.mk #[125]).size = 1 := rfl
  have c5 : (ByteArray.mk #[58]).size = 1 := rfl
  refine pcall_of Tryd.func173 rfl Tryd.ntmps173 (by kernel_rfl) rfl fun w0 I0 G0 => ?_
  refine aw_seq ?_
  refine aw_region ?_
  refine g_uG (s_box_imm 1001 rfl rfl rfl rfl) rfl ?_
  refine g_u (s_as_imm rfl rfl) ?_
  refine g_nil ?_
  refine normal_thn ?_
  refine aw_seq ?_
  refine aw_seq ?_
  refine aw_region ?_
  refine g_u (s_fieldAddr rfl rfl fa57_0 rfl) ?_
  refine g_u (s_load_imm rfl rfl rfl tA5 tS5 rfl rfl) ?_
  refine g_u (s_eqI rfl rfl rfl) ?_
  refine g_nil ?_
  refine normal_thn ?_
  refine aw_cond rfl (fun hb1 => ?_) (fun hb1 => ?_)
  · skip
    refine aw_seq ?_
    refine aw_region ?_
    refine g_u (s_as_imm rfl rfl) ?_
    refine g_nil ?_
    refine normal_thn ?_
    refine aw_ret ?_
    refine ret_thn ?_
    exact ⟨⟨(rfl : toAV (Al.look _ _) = some _).trans (congrArg some (by (simp only [beq_iff_eq, beq_eq_false_iff_ne, ne_eq, decide_eq_true_eq, decide_eq_false_iff_not] at *; rw [json0 (by omega)]; rfl))), rfl⟩, trivial⟩
  · skip
    refine aw_skip ?_
    refine normal_thn ?_
    refine aw_seq ?_
    refine aw_seq ?_
    refine aw_region ?_
    refine g_u (s_fieldAddr rfl rfl fa57_0 rfl) ?_
    refine g_u (s_load_imm rfl rfl rfl tA5 tS5 rfl rfl) ?_
    refine g_u (s_eqI rfl rfl rfl) ?_
    refine g_u (s_mv_imm rfl rfl) ?_
    refine g_case (t := 12) rfl ?_
    rintro (hb2 | hb2)
    · rw [hb2]
      refine g_skip rfl rfl rfl ?_
      refine g_skip rfl rfl rfl ?_
      refine g_skip rfl rfl rfl ?_
      refine g_u (s_pick_t rfl rfl rfl) ?_
      refine g_u (s_mv_imm rfl rfl) ?_
      refine g_skip rfl rfl rfl ?_
      refine g_skip rfl rfl rfl ?_
      refine g_skip rfl rfl rfl ?_
      refine g_u (s_pick_t rfl rfl rfl) ?_
      refine g_nil ?_
      refine normal_thn ?_
      refine aw_cond_true rfl ?_
      refine aw_seq ?_
      refine aw_region ?_
      refine g_u (s_load_imm rfl rfl rfl tA57 tS57 rfl rfl) ?_
      refine g_u (s_call1 (rsimple_c _ ho hw) rfl rfl) ?_
      refine g_u (s_call1 (rquote_c _ (by first | exact hka | (rw [strOf_size]; omega))) rfl rfl) ?_
      refine g_u (s_as_imm rfl rfl) ?_
      refine g_nil ?_
      refine normal_thn ?_
      refine aw_ret ?_
      refine ret_thn ?_
      exact ⟨⟨(rfl : toAV (Al.look _ _) = some _).trans (congrArg some (by (simp only [beq_iff_eq, beq_eq_false_iff_ne, ne_eq, decide_eq_true_eq, decide_eq_false_iff_not] at *; rw [jsonS (by omega)]; rw [lst_strOf]))), rfl⟩, trivial⟩
    · rw [hb2]
      refine g_run rfl rfl (s_fieldAddr rfl rfl fa57_0 rfl) ?_
      refine g_run rfl rfl (s_load_imm rfl rfl rfl tA5 tS5 rfl rfl) ?_
      refine g_run rfl rfl (s_eqI rfl rfl rfl) ?_
      refine g_u (s_pick_f rfl rfl rfl) ?_
      refine g_u (s_mv_imm rfl rfl) ?_
      refine g_case (t := 17) rfl ?_
      rintro (hb3 | hb3)
      · rw [hb3]
        refine g_skip rfl rfl rfl ?_
        refine g_skip rfl rfl rfl ?_
        refine g_skip rfl rfl rfl ?_
        refine g_u (s_pick_t rfl rfl rfl) ?_
        refine g_nil ?_
        refine normal_thn ?_
        refine aw_cond_true rfl ?_
        refine aw_seq ?_
        refine aw_region ?_
        refine g_u (s_load_imm rfl rfl rfl tA57 tS57 rfl rfl) ?_
        refine g_u (s_call1 (rsimple_c _ ho hw) rfl rfl) ?_
        refine g_u (s_call1 (rquote_c _ (by first | exact hka | (rw [strOf_size]; omega))) rfl rfl) ?_
        refine g_u (s_as_imm rfl rfl) ?_
        refine g_nil ?_
        refine normal_thn ?_
        refine aw_ret ?_
        refine ret_thn ?_
        exact ⟨⟨(rfl : toAV (Al.look _ _) = some _).trans (congrArg some (by (simp only [beq_iff_eq, beq_eq_false_iff_ne, ne_eq, decide_eq_true_eq, decide_eq_false_iff_not] at *; rw [jsonS (by omega)]; rw [lst_strOf]))), rfl⟩, trivial⟩
      · rw [hb3]
        refine g_run rfl rfl (s_fieldAddr rfl rfl fa57_0 rfl) ?_
        refine g_run rfl rfl (s_load_imm rfl rfl rfl tA5 tS5 rfl rfl) ?_
        refine g_run rfl rfl (s_eqI rfl rfl rfl) ?_
        refine g_u (s_pick_f rfl rfl rfl) ?_
        refine g_nil ?_
        refine normal_thn ?_
        refine aw_cond rfl (fun hb4 => ?_) (fun hb4 => ?_)
        · skip
          refine aw_seq ?_
          refine aw_region ?_
          refine g_u (s_load_imm rfl rfl rfl tA57 tS57 rfl rfl) ?_
          refine g_u (s_call1 (rsimple_c _ ho hw) rfl rfl) ?_
          refine g_u (s_call1 (rquote_c _ (by first | exact hka | (rw [strOf_size]; omega))) rfl rfl) ?_
          refine g_u (s_as_imm rfl rfl) ?_
          refine g_nil ?_
          refine normal_thn ?_
          refine aw_ret ?_
          refine ret_thn ?_
          exact ⟨⟨(rfl : toAV (Al.look _ _) = some _).trans (congrArg some (by (simp only [beq_iff_eq, beq_eq_false_iff_ne, ne_eq, decide_eq_true_eq, decide_eq_false_iff_not] at *; rw [jsonS (by omega)]; rw [lst_strOf]))), rfl⟩, trivial⟩
        · skip
          refine aw_skip ?_
          refine normal_thn ?_
          refine aw_seq ?_
          refine aw_region ?_
          refine g_u (s_as_imm rfl rfl) ?_
          refine g_nil ?_
          refine normal_thn ?_
          refine aw_seq ?_
          refine aw_seq ?_
          refine aw_region ?_
          refine g_u (s_fieldAddr rfl rfl fa57_0 rfl) ?_
          refine g_u (s_load_imm rfl rfl rfl tA5 tS5 rfl rfl) ?_
          refine g_u (s_eqI rfl rfl rfl) ?_
          refine g_nil ?_
          refine normal_thn ?_
          refine aw_cond rfl (fun hb5 => ?_) (fun hb5 => ?_)
          · skip
            refine aw_seq ?_
            refine aw_seq ?_
            refine aw_region ?_
            refine g_u (s_as_imm rfl rfl) ?_
            refine g_nil ?_
            refine normal_thn ?_
            refine aw_block ?_
            refine aw_loop' (fun j : Nat × ByteArray => [(1, .ptr 1001 0), (1001, .box 57 (.imm v.av)), (3, .imm (sv j.2)), (4, .imm (iv (j.1 : Int)))]) (fun j => j.1 ≤ v.list.length ∧ lst j.2 = jsonVs true (v.list.take j.1)) (fun j => v.list.length - j.1) (⟨0, ⟨#[]⟩⟩) ?_ ⟨rfl, rfl, rfl, rfl, trivial⟩ ?_
            · exact ⟨Nat.zero_le _, rfl⟩
            · rintro ⟨i, t⟩ ⟨h1, h2⟩; dsimp only at h1 h2; have hlen : t.size ≤ 150 * wtVs (v.list.take i) := by rw [← lst_len t, h2]; exact jsonVs_len _ _
              have htk := wtVs_take v.list i
              refine aw_seq ?_
              refine aw_seq ?_
              refine aw_region ?_
              refine g_u (s_mv_imm rfl rfl) ?_
              refine g_u (s_fieldAddr rfl rfl fa57_4 rfl) ?_
              refine g_u (s_load_imm rfl rfl rfl tA55 tS55 rfl rfl) ?_
              refine g_u (s_lenL rfl rfl Tryd.underlying55) ?_
              refine g_u (s_ltI rfl rfl rfl) ?_
              refine g_nil ?_
              refine normal_thn ?_
              refine aw_cond rfl (fun hb6 => ?_) (fun hb6 => ?_)
              · skip
                have hiv : i < v.list.length := by have := of_decide_eq_true hb6; simp only [List.length_map] at this; omega
                refine aw_skip ?_
                refine normal_thn ?_
                refine aw_seq ?_
                refine aw_block ?_
                refine aw_draw mixed ?_
                refine g_u (s_mv_imm rfl rfl) ?_
                refine g_u (s_mv_imm rfl rfl) ?_
                refine g_u (s_call1 (rcomma_c _) rfl rfl) ?_
                refine g_u (s_catS rfl rfl rfl (by show _ ≤ (9223372036854775807 : Int); (try dsimp only); first | (have q1 := wtVs_nth hiv; have q2 := json_len (nthV v.list i); have q3 := comma_length (i == 0); simp only [app_size, strOf_size, c1, c2, c3, c4, c5]; omega) | (have q1 := wtAs_nth hia; have q2 := jsonA_len (nthA v.map i); have q3 := comma_length (i == 0); have q4 := (nthA v.map i).wt_eq; have q5 := quoteB_length (lst (nthA v.map i).key); have q6 := lst_len (nthA v.map i).key; have q7 := json_len (nthA v.map i).val; simp only [app_size, strOf_size, c1, c2, c3, c4, c5]; omega) | (simp only [app_size, strOf_size, c1, c2, c3, c4, c5]; omega))) ?_
                refine g_u (s_fieldAddr rfl rfl fa57_4 rfl) ?_
                refine g_u (s_load_imm rfl rfl rfl tA55 tS55 rfl rfl) ?_
                refine g_u (s_mv_imm rfl rfl) ?_
                refine g_u (s_indexAddr rfl rfl rfl Tryd.underlying55 tS57 (by omega) (ixV hiv)) ?_
                refine g_u (s_load_cp rfl rfl tA57 tS57 rfl rfl) ?_
                refine g_u (s_call1 ((by first | exact ih _ (nthV_mem hiv) | exact ihm _ (nthA_mem hia))) rfl rfl) ?_
                refine g_u (s_catS rfl rfl rfl (by show _ ≤ (9223372036854775807 : Int); (try dsimp only); first | (have q1 := wtVs_nth hiv; have q2 := json_len (nthV v.list i); have q3 := comma_length (i == 0); simp only [app_size, strOf_size, c1, c2, c3, c4, c5]; omega) | (have q1 := wtAs_nth hia; have q2 := jsonA_len (nthA v.map i); have q3 := comma_length (i == 0); have q4 := (nthA v.map i).wt_eq; have q5 := quoteB_length (lst (nthA v.map i).key); have q6 := lst_len (nthA v.map i).key; have q7 := json_len (nthA v.map i).val; simp only [app_size, strOf_size, c1, c2, c3, c4, c5]; omega) | (simp only [app_size, strOf_size, c1, c2, c3, c4, c5]; omega))) ?_
                refine g_u (s_as_imm rfl rfl) ?_
                refine g_nil ⟨by kernel_rfl, ?_⟩
                refine normal_blk ?_
                refine normal_thn ?_
                refine aw_region ?_
                refine g_u (s_mv_imm rfl rfl) ?_
                refine g_u (s_add rfl rfl rfl) ?_
                refine g_u (s_as_imm rfl rfl) ?_
                refine g_nil ?_
                refine normal_thn ?_
                refine ⟨⟨i + 1, _⟩, ⟨hiv, ?_⟩, ⟨rfl, rfl, rfl, look_int rfl (by rw [wrap64 (by omega) (by omega)]; rfl), trivial⟩, by dsimp only; omega⟩
                show lst (t ++ strOf (comma (i == 0)) ++ strOf (jsonB (nthV v.list i))) = _
                rw [jsonVs_take hiv, lst_app, lst_app, lst_strOf, lst_strOf, h2]
              · skip
                have hi : i = v.list.length := by have := of_decide_eq_false hb6; simp only [List.length_map] at this; omega
                refine aw_exit ?_
                refine exit_thn ?_
                refine exit_thn ?_
                refine exit_blk ?_
                refine normal_thn ?_
                refine aw_seq ?_
                refine aw_region ?_
                refine g_u (s_mv_imm rfl rfl) ?_
                refine g_u (s_catS rfl rfl rfl (by show _ ≤ (9223372036854775807 : Int); (try dsimp only); first | (have q1 := wtVs_nth hiv; have q2 := json_len (nthV v.list i); have q3 := comma_length (i == 0); simp only [app_size, strOf_size, c1, c2, c3, c4, c5]; omega) | (have q1 := wtAs_nth hia; have q2 := jsonA_len (nthA v.map i); have q3 := comma_length (i == 0); have q4 := (nthA v.map i).wt_eq; have q5 := quoteB_length (lst (nthA v.map i).key); have q6 := lst_len (nthA v.map i).key; have q7 := json_len (nthA v.map i).val; simp only [app_size, strOf_size, c1, c2, c3, c4, c5]; omega) | (simp only [app_size, strOf_size, c1, c2, c3, c4, c5]; omega))) ?_
                refine g_u (s_catS rfl rfl rfl (by show _ ≤ (9223372036854775807 : Int); (try dsimp only); first | (have q1 := wtVs_nth hiv; have q2 := json_len (nthV v.list i); have q3 := comma_length (i == 0); simp only [app_size, strOf_size, c1, c2, c3, c4, c5]; omega) | (have q1 := wtAs_nth hia; have q2 := jsonA_len (nthA v.map i); have q3 := comma_length (i == 0); have q4 := (nthA v.map i).wt_eq; have q5 := quoteB_length (lst (nthA v.map i).key); have q6 := lst_len (nthA v.map i).key; have q7 := json_len (nthA v.map i).val; simp only [app_size, strOf_size, c1, c2, c3, c4, c5]; omega) | (simp only [app_size, strOf_size, c1, c2, c3, c4, c5]; omega))) ?_
                refine g_u (s_as_imm rfl rfl) ?_
                refine g_nil ?_
                refine normal_thn ?_
                refine aw_ret ?_
                refine ret_thn ?_
                exact ⟨⟨(rfl : toAV (Al.look _ _) = some _).trans (congrArg some (by (simp only [beq_iff_eq, beq_eq_false_iff_ne, ne_eq, decide_eq_true_eq, decide_eq_false_iff_not] at *; rw [json6 (by omega)]; refine congrArg sv (strOf_eq ?_); show lst (⟨#[91]⟩ ++ t ++ ⟨#[93]⟩) = _; rw [lst_app, lst_app, h2, hi, List.take_of_length_le (Nat.le_refl _)]; rfl))), rfl⟩, trivial⟩
          · skip
            refine aw_skip ?_
            refine normal_thn ?_
            refine aw_seq ?_
            refine aw_seq ?_
            refine aw_region ?_
            refine g_u (s_fieldAddr rfl rfl fa57_0 rfl) ?_
            refine g_u (s_load_imm rfl rfl rfl tA5 tS5 rfl rfl) ?_
            refine g_u (s_eqI rfl rfl rfl) ?_
            refine g_nil ?_
            refine normal_thn ?_
            refine aw_cond rfl (fun hb7 => ?_) (fun hb7 => ?_)
            · skip
              refine aw_seq ?_
              refine aw_seq ?_
              refine aw_region ?_
              refine g_u (s_as_imm rfl rfl) ?_
              refine g_nil ?_
              refine normal_thn ?_
              refine aw_block ?_
              refine aw_loop' (fun j : Nat × ByteArray => [(1, .ptr 1001 0), (1001, .box 57 (.imm v.av)), (3, .imm (sv j.2)), (5, .imm (iv (j.1 : Int)))]) (fun j => j.1 ≤ v.map.length ∧ lst j.2 = jsonAs true (v.map.take j.1)) (fun j => v.map.length - j.1) (⟨0, ⟨#[]⟩⟩) ?_ ⟨rfl, rfl, rfl, rfl, trivial⟩ ?_
              · exact ⟨Nat.zero_le _, rfl⟩
              · rintro ⟨i, t⟩ ⟨h1, h2⟩; dsimp only at h1 h2; have hlen : t.size ≤ 150 * wtAs (v.map.take i) := by rw [← lst_len t, h2]; exact jsonAs_len _ _
                have htk := wtAs_take v.map i
                refine aw_seq ?_
                refine aw_seq ?_
                refine aw_region ?_
                refine g_u (s_mv_imm rfl rfl) ?_
                refine g_u (s_fieldAddr rfl rfl fa57_5 rfl) ?_
                refine g_u (s_load_imm rfl rfl rfl tA30 tS30 rfl rfl) ?_
                refine g_u (s_lenL rfl rfl Tryd.underlying30) ?_
                refine g_u (s_ltI rfl rfl rfl) ?_
                refine g_nil ?_
                refine normal_thn ?_
                refine aw_cond rfl (fun hb8 => ?_) (fun hb8 => ?_)
                · skip
                  have hia : i < v.map.length := by have := of_decide_eq_true hb8; simp only [List.length_map] at this; omega
                  have hka : (nthA v.map i).key.size ≤ 100000000000 := by have q1 := wtAs_nth hia; have q4 := (nthA v.map i).wt_eq; omega
                  refine aw_skip ?_
                  refine normal_thn ?_
                  refine aw_seq ?_
                  refine aw_block ?_
                  refine aw_draw mixed ?_
                  refine g_u (s_mv_imm rfl rfl) ?_
                  refine g_u (s_mv_imm rfl rfl) ?_
                  refine g_u (s_call1 (rcomma_c _) rfl rfl) ?_
                  refine g_u (s_catS rfl rfl rfl (by show _ ≤ (9223372036854775807 : Int); (try dsimp only); first | (have q1 := wtVs_nth hiv; have q2 := json_len (nthV v.list i); have q3 := comma_length (i == 0); simp only [app_size, strOf_size, c1, c2, c3, c4, c5]; omega) | (have q1 := wtAs_nth hia; have q2 := jsonA_len (nthA v.map i); have q3 := comma_length (i == 0); have q4 := (nthA v.map i).wt_eq; have q5 := quoteB_length (lst (nthA v.map i).key); have q6 := lst_len (nthA v.map i).key; have q7 := json_len (nthA v.map i).val; simp only [app_size, strOf_size, c1, c2, c3, c4, c5]; omega) | (simp only [app_size, strOf_size, c1, c2, c3, c4, c5]; omega))) ?_
                  refine g_u (s_fieldAddr rfl rfl fa57_5 rfl) ?_
                  refine g_u (s_load_imm rfl rfl rfl tA30 tS30 rfl rfl) ?_
                  refine g_u (s_mv_imm rfl rfl) ?_
                  refine g_u (s_indexAddr rfl rfl rfl Tryd.underlying30 tS61 (by omega) (ixA hia)) ?_
                  refine g_u (s_fieldAddr_cp rfl rfl fa61_0 rfl rfl) ?_
                  refine g_u (s_load_cp rfl rfl tA9 tS9 rfl rfl) ?_
                  refine g_u (s_call1 (rquote_c _ (by first | exact hka | (rw [strOf_size]; omega))) rfl rfl) ?_
                  refine g_u (s_catS rfl rfl rfl (by show _ ≤ (9223372036854775807 : Int); (try dsimp only); first | (have q1 := wtVs_nth hiv; have q2 := json_len (nthV v.list i); have q3 := comma_length (i == 0); simp only [app_size, strOf_size, c1, c2, c3, c4, c5]; omega) | (have q1 := wtAs_nth hia; have q2 := jsonA_len (nthA v.map i); have q3 := comma_length (i == 0); have q4 := (nthA v.map i).wt_eq; have q5 := quoteB_length (lst (nthA v.map i).key); have q6 := lst_len (nthA v.map i).key; have q7 := json_len (nthA v.map i).val; simp only [app_size, strOf_size, c1, c2, c3, c4, c5]; omega) | (simp only [app_size, strOf_size, c1, c2, c3, c4, c5]; omega))) ?_
                  refine g_u (s_catS rfl rfl rfl (by show _ ≤ (9223372036854775807 : Int); (try dsimp only); first | (have q1 := wtVs_nth hiv; have q2 := json_len (nthV v.list i); have q3 := comma_length (i == 0); simp only [app_size, strOf_size, c1, c2, c3, c4, c5]; omega) | (have q1 := wtAs_nth hia; have q2 := jsonA_len (nthA v.map i); have q3 := comma_length (i == 0); have q4 := (nthA v.map i).wt_eq; have q5 := quoteB_length (lst (nthA v.map i).key); have q6 := lst_len (nthA v.map i).key; have q7 := json_len (nthA v.map i).val; simp only [app_size, strOf_size, c1, c2, c3, c4, c5]; omega) | (simp only [app_size, strOf_size, c1, c2, c3, c4, c5]; omega))) ?_
                  refine g_u (s_fieldAddr rfl rfl fa57_5 rfl) ?_
                  refine g_u (s_load_imm rfl rfl rfl tA30 tS30 rfl rfl) ?_
                  refine g_u (s_mv_imm rfl rfl) ?_
                  refine g_u (s_indexAddr rfl rfl rfl Tryd.underlying30 tS61 (by omega) (ixA hia)) ?_
                  refine g_u (s_fieldAddr_cp rfl rfl fa61_1 rfl rfl) ?_
                  refine g_u (s_load_cp rfl rfl tA57 tS57 rfl rfl) ?_
                  refine g_u (s_call1 ((by first | exact ih _ (nthV_mem hiv) | exact ihm _ (nthA_mem hia))) rfl rfl) ?_
                  refine g_u (s_catS rfl rfl rfl (by show _ ≤ (9223372036854775807 : Int); (try dsimp only); first | (have q1 := wtVs_nth hiv; have q2 := json_len (nthV v.list i); have q3 := comma_length (i == 0); simp only [app_size, strOf_size, c1, c2, c3, c4, c5]; omega) | (have q1 := wtAs_nth hia; have q2 := jsonA_len (nthA v.map i); have q3 := comma_length (i == 0); have q4 := (nthA v.map i).wt_eq; have q5 := quoteB_length (lst (nthA v.map i).key); have q6 := lst_len (nthA v.map i).key; have q7 := json_len (nthA v.map i).val; simp only [app_size, strOf_size, c1, c2, c3, c4, c5]; omega) | (simp only [app_size, strOf_size, c1, c2, c3, c4, c5]; omega))) ?_
                  refine g_u (s_as_imm rfl rfl) ?_
                  refine g_nil ⟨by kernel_rfl, ?_⟩
                  refine normal_blk ?_
                  refine normal_thn ?_
                  refine aw_region ?_
                  refine g_u (s_mv_imm rfl rfl) ?_
                  refine g_u (s_add rfl rfl rfl) ?_
                  refine g_u (s_as_imm rfl rfl) ?_
                  refine g_nil ?_
                  refine normal_thn ?_
                  refine ⟨⟨i + 1, _⟩, ⟨hia, ?_⟩, ⟨rfl, rfl, rfl, look_int rfl (by rw [wrap64 (by omega) (by omega)]; rfl), trivial⟩, by dsimp only; omega⟩
                  show lst (t ++ strOf (comma (i == 0)) ++ strOf (quoteB (lst (nthA v.map i).key)) ++ ⟨#[58]⟩ ++ strOf (jsonB (nthA v.map i).val)) = _
                  rw [jsonAs_take hia, jsonA_eq, lst_app, lst_app, lst_app, lst_app, lst_strOf, lst_strOf, lst_strOf, h2]
                  simp only [List.append_assoc]
                  rfl
                · skip
                  have hi : i = v.map.length := by have := of_decide_eq_false hb8; simp only [List.length_map] at this; omega
                  refine aw_exit ?_
                  refine exit_thn ?_
                  refine exit_thn ?_
                  refine exit_blk ?_
                  refine normal_thn ?_
                  refine aw_seq ?_
                  refine aw_region ?_
                  refine g_u (s_mv_imm rfl rfl) ?_
                  refine g_u (s_catS rfl rfl rfl (by show _ ≤ (9223372036854775807 : Int); (try dsimp only); first | (have q1 := wtVs_nth hiv; have q2 := json_len (nthV v.list i); have q3 := comma_length (i == 0); simp only [app_size, strOf_size, c1, c2, c3, c4, c5]; omega) | (have q1 := wtAs_nth hia; have q2 := jsonA_len (nthA v.map i); have q3 := comma_length (i == 0); have q4 := (nthA v.map i).wt_eq; have q5 := quoteB_length (lst (nthA v.map i).key); have q6 := lst_len (nthA v.map i).key; have q7 := json_len (nthA v.map i).val; simp only [app_size, strOf_size, c1, c2, c3, c4, c5]; omega) | (simp only [app_size, strOf_size, c1, c2, c3, c4, c5]; omega))) ?_
                  refine g_u (s_catS rfl rfl rfl (by show _ ≤ (9223372036854775807 : Int); (try dsimp only); first | (have q1 := wtVs_nth hiv; have q2 := json_len (nthV v.list i); have q3 := comma_length (i == 0); simp only [app_size, strOf_size, c1, c2, c3, c4, c5]; omega) | (have q1 := wtAs_nth hia; have q2 := jsonA_len (nthA v.map i); have q3 := comma_length (i == 0); have q4 := (nthA v.map i).wt_eq; have q5 := quoteB_length (lst (nthA v.map i).key); have q6 := lst_len (nthA v.map i).key; have q7 := json_len (nthA v.map i).val; simp only [app_size, strOf_size, c1, c2, c3, c4, c5]; omega) | (simp only [app_size, strOf_size, c1, c2, c3, c4, c5]; omega))) ?_
                  refine g_u (s_as_imm rfl rfl) ?_
                  refine g_nil ?_
                  refine normal_thn ?_
                  refine aw_ret ?_
                  refine ret_thn ?_
                  exact ⟨⟨(rfl : toAV (Al.look _ _) = some _).trans (congrArg some (by (simp only [beq_iff_eq, beq_eq_false_iff_ne, ne_eq, decide_eq_true_eq, decide_eq_false_iff_not] at *; rw [json7 (by omega)]; refine congrArg sv (strOf_eq ?_); show lst (⟨#[123]⟩ ++ t ++ ⟨#[125]⟩) = _; rw [lst_app, lst_app, h2, hi, List.take_of_length_le (Nat.le_refl _)]; rfl))), rfl⟩, trivial⟩
            · skip
              refine aw_skip ?_
              refine normal_thn ?_
              refine aw_seq ?_
              refine aw_region ?_
              refine g_u (s_load_imm rfl rfl rfl tA57 tS57 rfl rfl) ?_
              refine g_u (s_call1 (rsimple_c _ ho hw) rfl rfl) ?_
              refine g_u (s_as_imm rfl rfl) ?_
              refine g_nil ?_
              refine normal_thn ?_
              refine aw_ret ?_
              exact ⟨⟨(rfl : toAV (Al.look _ _) = some _).trans (congrArg some (by (simp only [beq_iff_eq, beq_eq_false_iff_ne, ne_eq, decide_eq_true_eq, decide_eq_false_iff_not] at *; rw [jsonE (by omega)]))), rfl⟩, trivial⟩

theorem rjson_c (v : GV) : v.ok → v.wt ≤ 10000000 → PCall Tryd.prog Γ0 173 [v.av] [sv (strOf (jsonB v))] := by
  refine GV.ind (P := fun v => v.ok → v.wt ≤ 10000000 → PCall Tryd.prog Γ0 173 [v.av] [sv (strOf (jsonB v))]) ?_ v
  intro v h1 h2 ho hw
  have ok := v.ok_iff.1 ho
  have ek := v.wt_eq
  refine rjson_step v ho hw (fun y hy => h1 y hy (ok.2.2.2.2.1 y hy) ?_) (fun a ha => h2 a ha ((GA.ok_iff a).1 (ok.2.2.2.2.2 a ha)).2 ?_)
  · have := wtVs_mem hy; omega
  · have := wtAs_mem ha; have := a.wt_eq; omega

set_option maxHeartbeats 400000 in
theorem rtext_c (v : GV) (ho : v.ok) (hw : v.wt ≤ 10000000) : PCall Tryd.prog Γ0 106 [v.av] [sv (textM v)] := by
  refine pcall_of Tryd.func106 rfl Tryd.ntmps106 (by kernel_rfl) rfl fun w0 I0 G0 => ?_
  refine aw_seq ?_
  refine aw_region ?_
  refine g_uG (s_box_imm 1001 rfl rfl rfl rfl) rfl ?_
  refine g_u (s_as_imm rfl rfl) ?_
  refine g_nil ?_
  refine normal_thn ?_
  refine aw_seq ?_
  refine aw_seq ?_
  refine aw_region ?_
  refine g_u (s_fieldAddr rfl rfl fa57_0 rfl) ?_
  refine g_u (s_load_imm rfl rfl rfl tA5 tS5 rfl rfl) ?_
  refine g_u (s_eqI rfl rfl rfl) ?_
  refine g_u (s_mv_imm rfl rfl) ?_
  refine g_case (t := 6) rfl ?_
  rintro (hb1 | hb1)
  · rw [hb1]
    refine g_skip rfl rfl rfl ?_
    refine g_skip rfl rfl rfl ?_
    refine g_skip rfl rfl rfl ?_
    refine g_u (s_pick_t rfl rfl rfl) ?_
    refine g_nil ?_
    refine normal_thn ?_
    refine aw_cond_true rfl ?_
    refine aw_seq ?_
    refine aw_region ?_
    refine g_u (s_load_imm rfl rfl rfl tA57 tS57 rfl rfl) ?_
    refine g_u (s_call1 (rjson_c v ho hw) rfl rfl) ?_
    refine g_u (s_as_imm rfl rfl) ?_
    refine g_nil ?_
    refine normal_thn ?_
    refine aw_ret ?_
    refine ret_thn ?_
    exact ⟨⟨(rfl : toAV (Al.look _ _) = some _).trans (congrArg some (by (simp only [beq_iff_eq, beq_eq_false_iff_ne, ne_eq, decide_eq_true_eq, decide_eq_false_iff_not] at *; first | rw [text6 (by omega)] | rw [textE (by omega)]))), rfl⟩, trivial⟩
  · rw [hb1]
    refine g_run rfl rfl (s_fieldAddr rfl rfl fa57_0 rfl) ?_
    refine g_run rfl rfl (s_load_imm rfl rfl rfl tA5 tS5 rfl rfl) ?_
    refine g_run rfl rfl (s_eqI rfl rfl rfl) ?_
    refine g_u (s_pick_f rfl rfl rfl) ?_
    refine g_nil ?_
    refine normal_thn ?_
    refine aw_cond rfl (fun hb2 => ?_) (fun hb2 => ?_)
    · skip
      refine aw_seq ?_
      refine aw_region ?_
      refine g_u (s_load_imm rfl rfl rfl tA57 tS57 rfl rfl) ?_
      refine g_u (s_call1 (rjson_c v ho hw) rfl rfl) ?_
      refine g_u (s_as_imm rfl rfl) ?_
      refine g_nil ?_
      refine normal_thn ?_
      refine aw_ret ?_
      refine ret_thn ?_
      exact ⟨⟨(rfl : toAV (Al.look _ _) = some _).trans (congrArg some (by (simp only [beq_iff_eq, beq_eq_false_iff_ne, ne_eq, decide_eq_true_eq, decide_eq_false_iff_not] at *; first | rw [text6 (by omega)] | rw [textE (by omega)]))), rfl⟩, trivial⟩
    · skip
      refine aw_skip ?_
      refine normal_thn ?_
      refine aw_seq ?_
      refine aw_region ?_
      refine g_u (s_load_imm rfl rfl rfl tA57 tS57 rfl rfl) ?_
      refine g_u (s_call1 (rsimple_c _ ho hw) rfl rfl) ?_
      refine g_u (s_as_imm rfl rfl) ?_
      refine g_nil ?_
      refine normal_thn ?_
      refine aw_ret ?_
      exact ⟨⟨(rfl : toAV (Al.look _ _) = some _).trans (congrArg some (by (simp only [beq_iff_eq, beq_eq_false_iff_ne, ne_eq, decide_eq_true_eq, decide_eq_false_iff_not] at *; first | rw [text6 (by omega)] | rw [textE (by omega)]))), rfl⟩, trivial⟩

set_option maxHeartbeats 400000 in
theorem rplain_c (v : GV) (ho : v.ok) (hw : v.wt ≤ 10000000) : PCall Tryd.prog Γ0 36 [v.av] [(plainV v).av] := by
  refine pcall_of Tryd.func36 rfl Tryd.ntmps36 (by kernel_rfl) rfl fun w0 I0 G0 => ?_
  refine aw_seq ?_
  refine aw_region ?_
  refine g_uG (s_box_imm 1001 rfl rfl rfl rfl) rfl ?_
  refine g_uG (s_alloc' 1002 rfl rfl rfl tZ57) rfl ?_
  refine g_nil ?_
  refine normal_thn ?_
  refine aw_seq ?_
  refine aw_region ?_
  refine g_u (s_load_imm rfl rfl rfl tA57 tS57 rfl rfl) ?_
  refine g_u (s_call1 (rtext_c v ho hw) rfl rfl) ?_
  refine g_u (s_build rfl tU57 us57 pl57 rfl rfl rfl rfl) ?_
  refine g_u (s_store_imm rfl rfl rfl tS57 rfl rfl) ?_
  refine g_nil ?_
  refine normal_thn ?_
  refine aw_ret ?_
  exact ⟨⟨_, _, _, _, _, _, _, rfl, rfl, tA57, tS57, rfl, rfl, (rfl : toAV _ = some _).trans (congrArg some (by rfl))⟩, trivial⟩

def truthB (n : Int) : Bs := if n = 0 then [102, 97, 108, 115, 101] else [116, 114, 117, 101]
def thingM (v : GV) : AV :=
  if v.kind = 0 then .ifc 194 (sv (strOf [110, 117, 108, 108]))
  else if v.kind = 1 then .ifc 193 (sv v.text)
  else if v.kind = 2 then .ifc 194 (sv (strOf (truthB v.num)))
  else if v.kind = 3 then .ifc 194 (sv (strOf (decB v.num)))
  else if v.kind = 4 then .ifc 193 (sv (strOf (48 :: 120 :: hexB (be 8 v.bits.toNat))))
  else if v.kind = 5 then .ifc 193 (sv (strOf (hexB (lst v.text))))
  else if v.kind = 6 then .ifc 237 (.sl 6 (v.list.map avV))
  else if v.kind = 7 then .ifc 238 (.sl 7 (v.map.map avA))
  else .ifc 194 (sv ⟨#[]⟩)

set_option maxHeartbeats 400000 in
theorem truth_c (n : Int) : PCall Tryd.prog Γ0 220 [iv n] [sv (strOf (truthB n))] := by
  refine pcall_of Tryd.func220 rfl Tryd.ntmps220 (by kernel_rfl) rfl fun w0 I0 G0 => ?_
  refine aw_seq ?_
  refine aw_region ?_
  refine g_u (s_as_imm rfl rfl) ?_
  refine g_nil ?_
  refine normal_thn ?_
  refine aw_seq ?_
  refine aw_seq ?_
  refine aw_region ?_
  refine g_u (s_mv_imm rfl rfl) ?_
  refine g_u (s_neI rfl rfl rfl) ?_
  refine g_nil ?_
  refine normal_thn ?_
  refine aw_cond rfl (fun hb1 => ?_) (fun hb1 => ?_)
  · skip
    refine aw_seq ?_
    refine aw_region ?_
    refine g_u (s_as_imm rfl rfl) ?_
    refine g_nil ?_
    refine normal_thn ?_
    refine aw_ret ?_
    refine ret_thn ?_
    exact ⟨⟨(rfl : toAV (Al.look _ _) = some _).trans (congrArg some (by (unfold truthB; first | (rw [if_neg (by simpa using hb1)]; rfl) | (rw [if_pos (by simpa using hb1)]; rfl)))), rfl⟩, trivial⟩
  · skip
    refine aw_skip ?_
    refine normal_thn ?_
    refine aw_seq ?_
    refine aw_region ?_
    refine g_u (s_as_imm rfl rfl) ?_
    refine g_nil ?_
    refine normal_thn ?_
    refine aw_ret ?_
    exact ⟨⟨(rfl : toAV (Al.look _ _) = some _).trans (congrArg some (by (unfold truthB; first | (rw [if_neg (by simpa using hb1)]; rfl) | (rw [if_pos (by simpa using hb1)]; rfl)))), rfl⟩, trivial⟩

set_option maxHeartbeats 400000 in
theorem double_c (u : Int) (h : 0 ≤ u ∧ u < 18446744073709551616) : PCall Tryd.prog Γ0 221 [uv u] [sv (strOf (48 :: 120 :: hexB (be 8 u.toNat)))] := by
  have c1 : (ByteArray.mk #[48, 120]).size = 2 := rfl
  refine pcall_of Tryd.func221 rfl Tryd.ntmps221 (by kernel_rfl) rfl fun w0 I0 G0 => ?_
  refine aw_seq ?_
  refine aw_region ?_
  refine g_u (s_as_imm rfl rfl) ?_
  refine g_nil ?_
  refine normal_thn ?_
  refine aw_seq ?_
  refine aw_region ?_
  refine g_u (s_mv_imm rfl rfl) ?_
  refine g_u (s_call1 (nil1 (n := 1) (high_c [] u h (by simp))) rfl rfl) ?_
  refine g_u (s_cvBS' (rfl) rfl rfl Tryd.underlying102 Tryd.underlying9 Tryd.underlying5) ?_
  refine g_u (s_call1 (htext_c _ (by rw [strOf_size]; simp only [List.nil_append, be_length]; omega)) rfl rfl) ?_
  refine g_u (s_catS rfl rfl rfl (by show _ ≤ (9223372036854775807 : Int); simp only [strOf_size, hexB_length, lst_strOf, List.nil_append, be_length, c1]; omega)) ?_
  refine g_u (s_as_imm rfl rfl) ?_
  refine g_nil ?_
  refine normal_thn ?_
  refine aw_ret ?_
  exact ⟨⟨(rfl : toAV (Al.look _ _) = some _).trans (congrArg some (by (rw [lst_strOf]; rfl))), rfl⟩, trivial⟩

set_option maxHeartbeats 400000 in
theorem thing_c (v : GV) (ho : v.ok) (hw : v.wt ≤ 10000000) : PCall Tryd.prog Γ0 171 [v.av] [thingM v] := by
  have lv := len_wtVs v.list
  have la := len_wtAs v.map
  have ek := v.wt_eq
  have ok := v.ok_iff.1 ho
  have sl := simpB_length v
  have jl := json_len v
  refine pcall_of Tryd.func171 rfl Tryd.ntmps171 (by kernel_rfl) rfl fun w0 I0 G0 => ?_
  refine aw_seq ?_
  refine aw_region ?_
  refine g_uG (s_box_imm 1001 rfl rfl rfl rfl) rfl ?_
  refine g_u (s_as_imm rfl rfl) ?_
  refine g_nil ?_
  refine normal_thn ?_
  refine aw_seq ?_
  refine aw_seq ?_
  refine aw_region ?_
  refine g_u (s_fieldAddr rfl rfl fa57_0 rfl) ?_
  refine g_u (s_load_imm rfl rfl rfl tA5 tS5 rfl rfl) ?_
  refine g_nil ?_
  refine normal_thn ?_
  refine aw_block ?_
  refine aw_seq ?_
  refine aw_region ?_
  refine g_u (s_eqI rfl rfl rfl) ?_
  refine g_u (s_as_imm rfl rfl) ?_
  refine g_nil ?_
  refine normal_thn ?_
  refine aw_cond rfl (fun hb1 => ?_) (fun hb1 => ?_)
  · skip
    refine aw_seq ?_
    refine aw_region ?_
    refine g_u (s_makeIface rfl rfl nI194) ?_
    refine g_u (s_as_imm rfl rfl) ?_
    refine g_nil ?_
    refine normal_thn ?_
    refine aw_ret ?_
    refine ret_blk ?_
    refine ret_thn ?_
    exact ⟨⟨(rfl : toAV (Al.look _ _) = some _).trans (congrArg some (by (simp only [beq_iff_eq, beq_eq_false_iff_ne, ne_eq, decide_eq_true_eq, decide_eq_false_iff_not] at *; unfold thingM; (repeat (first | rw [if_pos (by omega)] | rw [if_neg (by omega)])); (first | done | rfl)))), rfl⟩, trivial⟩
  · skip
    refine aw_seq ?_
    refine aw_region ?_
    refine g_u (s_eqI rfl rfl rfl) ?_
    refine g_u (s_as_imm rfl rfl) ?_
    refine g_nil ?_
    refine normal_thn ?_
    refine aw_cond rfl (fun hb2 => ?_) (fun hb2 => ?_)
    · skip
      refine aw_seq ?_
      refine aw_region ?_
      refine g_u (s_fieldAddr rfl rfl fa57_1 rfl) ?_
      refine g_u (s_load_imm rfl rfl rfl tA9 tS9 rfl rfl) ?_
      refine g_u (s_makeIface rfl rfl nI193) ?_
      refine g_u (s_as_imm rfl rfl) ?_
      refine g_nil ?_
      refine normal_thn ?_
      refine aw_ret ?_
      refine ret_blk ?_
      refine ret_thn ?_
      exact ⟨⟨(rfl : toAV (Al.look _ _) = some _).trans (congrArg some (by (simp only [beq_iff_eq, beq_eq_false_iff_ne, ne_eq, decide_eq_true_eq, decide_eq_false_iff_not] at *; unfold thingM; (repeat (first | rw [if_pos (by omega)] | rw [if_neg (by omega)])); (first | done | rfl)))), rfl⟩, trivial⟩
    · skip
      refine aw_seq ?_
      refine aw_region ?_
      refine g_u (s_eqI rfl rfl rfl) ?_
      refine g_u (s_as_imm rfl rfl) ?_
      refine g_nil ?_
      refine normal_thn ?_
      refine aw_cond rfl (fun hb3 => ?_) (fun hb3 => ?_)
      · skip
        refine aw_seq ?_
        refine aw_region ?_
        refine g_u (s_fieldAddr rfl rfl fa57_2 rfl) ?_
        refine g_u (s_load_imm rfl rfl rfl tA3 tS3 rfl rfl) ?_
        refine g_u (s_call1 (truth_c _) rfl rfl) ?_
        refine g_u (s_makeIface rfl rfl nI194) ?_
        refine g_u (s_as_imm rfl rfl) ?_
        refine g_nil ?_
        refine normal_thn ?_
        refine aw_ret ?_
        refine ret_blk ?_
        refine ret_thn ?_
        exact ⟨⟨(rfl : toAV (Al.look _ _) = some _).trans (congrArg some (by (simp only [beq_iff_eq, beq_eq_false_iff_ne, ne_eq, decide_eq_true_eq, decide_eq_false_iff_not] at *; unfold thingM; (repeat (first | rw [if_pos (by omega)] | rw [if_neg (by omega)])); (first | done | rfl)))), rfl⟩, trivial⟩
      · skip
        refine aw_seq ?_
        refine aw_region ?_
        refine g_u (s_eqI rfl rfl rfl) ?_
        refine g_u (s_as_imm rfl rfl) ?_
        refine g_nil ?_
        refine normal_thn ?_
        refine aw_cond rfl (fun hb4 => ?_) (fun hb4 => ?_)
        · skip
          refine aw_seq ?_
          refine aw_region ?_
          refine g_u (s_fieldAddr rfl rfl fa57_2 rfl) ?_
          refine g_u (s_load_imm rfl rfl rfl tA3 tS3 rfl rfl) ?_
          refine g_u (s_call1 (nil1 (n := 1) (dput_c [] _ ok.2.2.1 (by simp))) rfl rfl) ?_
          refine g_u (s_cvBS' (rfl) rfl rfl Tryd.underlying102 Tryd.underlying194 Tryd.underlying5) ?_
          refine g_u (s_makeIface rfl rfl nI194) ?_
          refine g_u (s_as_imm rfl rfl) ?_
          refine g_nil ?_
          refine normal_thn ?_
          refine aw_ret ?_
          refine ret_blk ?_
          refine ret_thn ?_
          exact ⟨⟨(rfl : toAV (Al.look _ _) = some _).trans (congrArg some (by (simp only [beq_iff_eq, beq_eq_false_iff_ne, ne_eq, decide_eq_true_eq, decide_eq_false_iff_not] at *; unfold thingM; (repeat (first | rw [if_pos (by omega)] | rw [if_neg (by omega)])); (first | done | rfl)))), rfl⟩, trivial⟩
        · skip
          refine aw_seq ?_
          refine aw_region ?_
          refine g_u (s_eqI rfl rfl rfl) ?_
          refine g_u (s_as_imm rfl rfl) ?_
          refine g_nil ?_
          refine normal_thn ?_
          refine aw_cond rfl (fun hb5 => ?_) (fun hb5 => ?_)
          · skip
            refine aw_seq ?_
            refine aw_region ?_
            refine g_u (s_fieldAddr rfl rfl fa57_3 rfl) ?_
            refine g_u (s_load_imm rfl rfl rfl tA29 tS29 rfl rfl) ?_
            refine g_u (s_call1 (double_c _ ok.2.2.2.1) rfl rfl) ?_
            refine g_u (s_makeIface rfl rfl nI193) ?_
            refine g_u (s_as_imm rfl rfl) ?_
            refine g_nil ?_
            refine normal_thn ?_
            refine aw_ret ?_
            refine ret_blk ?_
            refine ret_thn ?_
            exact ⟨⟨(rfl : toAV (Al.look _ _) = some _).trans (congrArg some (by (simp only [beq_iff_eq, beq_eq_false_iff_ne, ne_eq, decide_eq_true_eq, decide_eq_false_iff_not] at *; unfold thingM; (repeat (first | rw [if_pos (by omega)] | rw [if_neg (by omega)])); (first | done | rfl)))), rfl⟩, trivial⟩
          · skip
            refine aw_seq ?_
            refine aw_region ?_
            refine g_u (s_eqI rfl rfl rfl) ?_
            refine g_u (s_as_imm rfl rfl) ?_
            refine g_nil ?_
            refine normal_thn ?_
            refine aw_cond rfl (fun hb6 => ?_) (fun hb6 => ?_)
            · skip
              refine aw_seq ?_
              refine aw_region ?_
              refine g_u (s_fieldAddr rfl rfl fa57_1 rfl) ?_
              refine g_u (s_load_imm rfl rfl rfl tA9 tS9 rfl rfl) ?_
              refine g_u (s_call1 (htext_c _ (by omega)) rfl rfl) ?_
              refine g_u (s_makeIface rfl rfl nI193) ?_
              refine g_u (s_as_imm rfl rfl) ?_
              refine g_nil ?_
              refine normal_thn ?_
              refine aw_ret ?_
              refine ret_blk ?_
              refine ret_thn ?_
              exact ⟨⟨(rfl : toAV (Al.look _ _) = some _).trans (congrArg some (by (simp only [beq_iff_eq, beq_eq_false_iff_ne, ne_eq, decide_eq_true_eq, decide_eq_false_iff_not] at *; unfold thingM; (repeat (first | rw [if_pos (by omega)] | rw [if_neg (by omega)])); (first | done | rfl)))), rfl⟩, trivial⟩
            · skip
              refine aw_seq ?_
              refine aw_region ?_
              refine g_u (s_eqI rfl rfl rfl) ?_
              refine g_u (s_as_imm rfl rfl) ?_
              refine g_nil ?_
              refine normal_thn ?_
              refine aw_cond rfl (fun hb7 => ?_) (fun hb7 => ?_)
              · skip
                refine aw_seq ?_
                refine aw_region ?_
                refine g_u (s_fieldAddr rfl rfl fa57_4 rfl) ?_
                refine g_u (s_load_imm rfl rfl rfl tA55 tS55 rfl rfl) ?_
                refine g_u (s_makeIface rfl rfl nI237) ?_
                refine g_u (s_as_imm rfl rfl) ?_
                refine g_nil ?_
                refine normal_thn ?_
                refine aw_ret ?_
                refine ret_blk ?_
                refine ret_thn ?_
                exact ⟨⟨(rfl : toAV (Al.look _ _) = some _).trans (congrArg some (by (simp only [beq_iff_eq, beq_eq_false_iff_ne, ne_eq, decide_eq_true_eq, decide_eq_false_iff_not] at *; unfold thingM; (repeat (first | rw [if_pos (by omega)] | rw [if_neg (by omega)])); (first | done | rfl)))), rfl⟩, trivial⟩
              · skip
                refine aw_seq ?_
                refine aw_region ?_
                refine g_u (s_eqI rfl rfl rfl) ?_
                refine g_u (s_as_imm rfl rfl) ?_
                refine g_nil ?_
                refine normal_thn ?_
                refine aw_cond rfl (fun hb8 => ?_) (fun hb8 => ?_)
                · skip
                  refine aw_seq ?_
                  refine aw_region ?_
                  refine g_u (s_fieldAddr rfl rfl fa57_5 rfl) ?_
                  refine g_u (s_load_imm rfl rfl rfl tA30 tS30 rfl rfl) ?_
                  refine g_u (s_makeIface rfl rfl nI238) ?_
                  refine g_u (s_as_imm rfl rfl) ?_
                  refine g_nil ?_
                  refine normal_thn ?_
                  refine aw_ret ?_
                  refine ret_blk ?_
                  refine ret_thn ?_
                  exact ⟨⟨(rfl : toAV (Al.look _ _) = some _).trans (congrArg some (by (simp only [beq_iff_eq, beq_eq_false_iff_ne, ne_eq, decide_eq_true_eq, decide_eq_false_iff_not] at *; unfold thingM; (repeat (first | rw [if_pos (by omega)] | rw [if_neg (by omega)])); (first | done | rfl)))), rfl⟩, trivial⟩
                · skip
                  refine aw_skip ?_
                  refine normal_blk ?_
                  refine normal_thn ?_
                  refine aw_seq ?_
                  refine aw_region ?_
                  refine g_u (s_makeIface rfl rfl nI194) ?_
                  refine g_u (s_as_imm rfl rfl) ?_
                  refine g_nil ?_
                  refine normal_thn ?_
                  refine aw_ret ?_
                  exact ⟨⟨(rfl : toAV (Al.look _ _) = some _).trans (congrArg some (by (simp only [beq_iff_eq, beq_eq_false_iff_ne, ne_eq, decide_eq_true_eq, decide_eq_false_iff_not] at *; unfold thingM; (repeat (first | rw [if_pos (by omega)] | rw [if_neg (by omega)])); (first | done | rfl)))), rfl⟩, trivial⟩

theorem thing_p {v : GV} (h : v.kind ≠ 1 ∧ v.kind ≠ 4 ∧ v.kind ≠ 5 ∧ v.kind ≠ 6 ∧ v.kind ≠ 7) (c : PCall Tryd.prog Γ0 171 [v.av] [thingM v]) : PCall Tryd.prog Γ0 171 [v.av] [.ifc 194 (sv (strOf (jsonB v)))] := by
  have e : thingM v = .ifc 194 (sv (strOf (jsonB v))) := by
    unfold thingM
    by_cases h0 : v.kind = 0
    · rw [if_pos h0, json0 h0]
    · rw [if_neg h0, if_neg h.1, jsonE (by omega)]
      by_cases h2 : v.kind = 2
      · rw [if_pos h2]
        by_cases hn : v.num = 0
        · rw [simp2 h2 hn, truthB, if_pos hn]
        · rw [simp2' h2 hn, truthB, if_neg hn]
      · rw [if_neg h2]
        by_cases h3 : v.kind = 3
        · rw [if_pos h3, simp3 h3]
        · rw [if_neg h3, if_neg h.2.1, if_neg h.2.2.1, if_neg h.2.2.2.1, if_neg h.2.2.2.2, simp6 (by omega)]; rfl
  rw [← e]; exact c
theorem thing_q {v : GV} (h : v.kind = 1 ∨ v.kind = 4 ∨ v.kind = 5) (c : PCall Tryd.prog Γ0 171 [v.av] [thingM v]) : PCall Tryd.prog Γ0 171 [v.av] [.ifc 193 (sv (strOf (simpB v)))] := by
  have e : thingM v = .ifc 193 (sv (strOf (simpB v))) := by
    unfold thingM
    rcases h with h | h | h
    · rw [if_neg (by omega), if_pos h, simp1 h]
    · rw [if_neg (by omega), if_neg (by omega), if_neg (by omega), if_neg (by omega), if_pos h, simp4 h]
    · rw [if_neg (by omega), if_neg (by omega), if_neg (by omega), if_neg (by omega), if_neg (by omega), if_pos h, simp5 h]
  rw [← e]; exact c
theorem thing_l {v : GV} (h : v.kind = 6) (c : PCall Tryd.prog Γ0 171 [v.av] [thingM v]) : PCall Tryd.prog Γ0 171 [v.av] [.ifc 237 (.sl 6 (v.list.map avV))] := by
  have e : thingM v = .ifc 237 (.sl 6 (v.list.map avV)) := by
    unfold thingM
    rw [if_neg (by omega), if_neg (by omega), if_neg (by omega), if_neg (by omega), if_neg (by omega), if_neg (by omega), if_pos h]
  rw [← e]; exact c
theorem thing_m {v : GV} (h : v.kind = 7) (c : PCall Tryd.prog Γ0 171 [v.av] [thingM v]) : PCall Tryd.prog Γ0 171 [v.av] [.ifc 238 (.sl 7 (v.map.map avA))] := by
  have e : thingM v = .ifc 238 (.sl 7 (v.map.map avA)) := by
    unfold thingM
    rw [if_neg (by omega), if_neg (by omega), if_neg (by omega), if_neg (by omega), if_neg (by omega), if_neg (by omega), if_neg (by omega), if_pos h]
  rw [← e]; exact c

set_option maxHeartbeats 400000 in
theorem lay_p (v : GV) (ho : v.ok) (hw : v.wt ≤ 10000000) (xs : List AV) (hx : W1 xs) (hl : xs.length + 150 * v.wt ≤ 5000000000) (hk : v.kind ≠ 1 ∧ v.kind ≠ 4 ∧ v.kind ≠ 5 ∧ v.kind ≠ 6 ∧ v.kind ≠ 7) : MCall Tryd.prog Γ0 223 [.slg 100001 1 xs, .imm v.av] [(100001, .tok 1 xs)] (.slg 100001 1 (xs ++ bytesL (jsonB v))) [(100001, .tok 1 (xs ++ bytesL (jsonB v)))] := by
  have lv := len_wtVs v.list
  have la := len_wtAs v.map
  have ek := v.wt_eq
  have ok := v.ok_iff.1 ho
  have sl := simpB_length v
  have jl := json_len v
  have e0 : bytesL (strOf (jsonB v)).data.toList = bytesL (jsonB v) := by rw [strOf_list]
  refine mcall_of (rs := [.slg 100001 1 (xs ++ bytesL (jsonB v))]) Tryd.func223 rfl Tryd.ntmps223 (by kernel_rfl) rfl rfl rfl rfl rfl fun w0 I0 G0 E => ?_
  refine aw_seq ?_
  refine aw_region ?_
  refine g_uG (s_box_imm 1003 rfl rfl rfl rfl) rfl ?_
  refine g_u (s_as_imm rfl rfl) ?_
  refine g_nil ?_
  refine normal_thn ?_
  refine aw_seq ?_
  refine aw_seq ?_
  refine aw_region ?_
  refine g_u (s_load_imm rfl rfl rfl tA57 tS57 rfl rfl) ?_
  refine g_u (s_call1 (thing_p hk (thing_c v ho hw)) rfl rfl) ?_
  refine g_nil ?_
  refine normal_thn ?_
  refine aw_block ?_
  refine aw_seq ?_
  refine aw_region ?_
  refine g_u (s_assert_yes rfl rfl nI194) ?_
  refine g_u (s_extract rfl rfl rfl rfl) ?_
  refine g_u (s_extract rfl rfl rfl rfl) ?_
  refine g_nil ?_
  refine normal_thn ?_
  refine aw_cond_true rfl ?_
  refine aw_seq ?_
  refine aw_region ?_
  refine g_u (s_as_imm rfl rfl) ?_
  refine g_nil ?_
  refine normal_thn ?_
  refine aw_seq ?_
  refine aw_region ?_
  refine g_u (s_mv_slg rfl rfl) ?_
  refine g_u (s_mv_imm rfl rfl) ?_
  refine g_u (s_appendS rfl rfl rfl rfl rfl Tryd.underlying102 Tryd.underlying194 tS5 zv5 rfl by5 (by rw [strOf_size]; omega) (by rw [strOf_size]; omega)) ?_
  refine g_u (s_as_slg rfl rfl) ?_
  refine g_nil ?_
  refine normal_thn ?_
  refine aw_ret ?_
  refine ret_blk ?_
  refine ret_thn ?_
  exact ⟨⟨.inr ⟨_, rfl, look_slg rfl (by rw [e0]), rfl⟩, trivial⟩, ⟨look_tok rfl (by rw [e0]), trivial⟩⟩

set_option maxHeartbeats 400000 in
theorem lay_q (v : GV) (ho : v.ok) (hw : v.wt ≤ 10000000) (xs : List AV) (hx : W1 xs) (hl : xs.length + 150 * v.wt ≤ 5000000000) (hk : v.kind = 1 ∨ v.kind = 4 ∨ v.kind = 5) : MCall Tryd.prog Γ0 223 [.slg 100001 1 xs, .imm v.av] [(100001, .tok 1 xs)] (.slg 100001 1 (xs ++ bytesL (jsonB v))) [(100001, .tok 1 (xs ++ bytesL (jsonB v)))] := by
  have lv := len_wtVs v.list
  have la := len_wtAs v.map
  have ek := v.wt_eq
  have ok := v.ok_iff.1 ho
  have sl := simpB_length v
  have jl := json_len v
  refine mcall_of (rs := [.slg 100001 1 (xs ++ bytesL (jsonB v))]) Tryd.func223 rfl Tryd.ntmps223 (by kernel_rfl) rfl rfl rfl rfl rfl fun w0 I0 G0 E => ?_
  refine aw_seq ?_
  refine aw_region ?_
  refine g_uG (s_box_imm 1003 rfl rfl rfl rfl) rfl ?_
  refine g_u (s_as_imm rfl rfl) ?_
  refine g_nil ?_
  refine normal_thn ?_
  refine aw_seq ?_
  refine aw_seq ?_
  refine aw_region ?_
  refine g_u (s_load_imm rfl rfl rfl tA57 tS57 rfl rfl) ?_
  refine g_u (s_call1 (thing_q hk (thing_c v ho hw)) rfl rfl) ?_
  refine g_nil ?_
  refine normal_thn ?_
  refine aw_block ?_
  refine aw_seq ?_
  refine aw_region ?_
  refine g_u (s_assert_no rfl rfl nI194 tZ194 (fun z h => by rw [zv194] at h; cases h; rfl) rfl) ?_
  refine g_u (s_extract rfl rfl rfl rfl) ?_
  refine g_u (s_extract rfl rfl rfl rfl) ?_
  refine g_nil ?_
  refine normal_thn ?_
  refine aw_cond_false rfl ?_
  refine aw_seq ?_
  refine aw_region ?_
  refine g_u (s_assert_yes rfl rfl nI193) ?_
  refine g_u (s_extract rfl rfl rfl rfl) ?_
  refine g_u (s_extract rfl rfl rfl rfl) ?_
  refine g_nil ?_
  refine normal_thn ?_
  refine aw_cond_true rfl ?_
  refine aw_seq ?_
  refine aw_region ?_
  refine g_u (s_as_imm rfl rfl) ?_
  refine g_nil ?_
  refine normal_thn ?_
  refine aw_seq ?_
  refine aw_region ?_
  refine g_u (s_mv_slg rfl rfl) ?_
  refine g_u (s_mv_imm rfl rfl) ?_
  refine g_uG (s_mcall [(3014, 20001)] (jput_c _ _ hx (by rw [strOf_size]; omega) (by omega)) rfl rfl ⟨.inr ⟨_, rfl, rfl⟩, .inl rfl, trivial⟩ trivial rfl rfl rfl) rfl ?_
  refine g_u (s_as_slg rfl rfl) ?_
  refine g_nil ?_
  refine normal_thn ?_
  refine aw_renTok 20001 100001 1 (xs ++ bytesL (quoteB (lst (strOf (simpB v))))) [(4, .slg 100001 1 (xs ++ bytesL (quoteB (lst (strOf (simpB v))))))] rfl rfl rfl rfl rfl rfl ⟨.inr (.inl ⟨rfl, rfl⟩), trivial⟩ (by rw [List.length_append, bytesL_len]; simp only [quoteB, List.length_cons]; omega) ?_
  refine aw_ret ?_
  refine ret_blk ?_
  refine ret_thn ?_
  exact ⟨⟨.inr ⟨_, rfl, look_slg rfl (by rw [jsonS hk, lst_strOf]), rfl⟩, trivial⟩, ⟨look_tok rfl (by rw [jsonS hk, lst_strOf]), trivial⟩⟩

theorem bytesL_cons (c : UInt8) (l : Bs) : bytesL (c :: l) = .v (byteV c) :: bytesL l := rfl
theorem bytesL_nil : bytesL [] = [] := rfl
theorem W1.app {a b : List AV} (h : W1 a) (k : W1 b) : W1 (a ++ b) := fun x hx => (List.mem_append.1 hx).elim (h x) (k x)

set_option maxHeartbeats 400000 in
theorem lay_l (v : GV) (ho : v.ok) (hw : v.wt ≤ 10000000) (xs : List AV) (hx : W1 xs) (hl : xs.length + 150 * v.wt ≤ 5000000000) (hk : v.kind = 6) (ih : ∀ y ∈ v.list, ∀ xs : List AV, W1 xs → xs.length + 150 * y.wt ≤ 5000000000 → MCall Tryd.prog Γ0 223 [.slg 100001 1 xs, .imm y.av] [(100001, .tok 1 xs)] (.slg 100001 1 (xs ++ bytesL (jsonB y))) [(100001, .tok 1 (xs ++ bytesL (jsonB y)))]) : MCall Tryd.prog Γ0 223 [.slg 100001 1 xs, .imm v.av] [(100001, .tok 1 xs)] (.slg 100001 1 (xs ++ bytesL (jsonB v))) [(100001, .tok 1 (xs ++ bytesL (jsonB v)))] := by
  have lv := len_wtVs v.list
  have la := len_wtAs v.map
  have ek := v.wt_eq
  have ok := v.ok_iff.1 ho
  have sl := simpB_length v
  have jl := json_len v
  refine mcall_of (rs := [.slg 100001 1 (xs ++ bytesL (jsonB v))]) Tryd.func223 rfl Tryd.ntmps223 (by kernel_rfl) rfl rfl rfl rfl rfl fun w0 I0 G0 E => ?_
  refine aw_seq ?_
  refine aw_region ?_
  refine g_uG (s_box_imm 1003 rfl rfl rfl rfl) rfl ?_
  refine g_u (s_as_imm rfl rfl) ?_
  refine g_nil ?_
  refine normal_thn ?_
  refine aw_seq ?_
  refine aw_seq ?_
  refine aw_region ?_
  refine g_u (s_load_imm rfl rfl rfl tA57 tS57 rfl rfl) ?_
  refine g_u (s_call1 (thing_l hk (thing_c v ho hw)) rfl rfl) ?_
  refine g_nil ?_
  refine normal_thn ?_
  refine aw_block ?_
  refine aw_seq ?_
  refine aw_region ?_
  refine g_u (s_assert_no rfl rfl nI194 tZ194 (fun z h => by rw [zv194] at h; cases h; rfl) rfl) ?_
  refine g_u (s_extract rfl rfl rfl rfl) ?_
  refine g_u (s_extract rfl rfl rfl rfl) ?_
  refine g_nil ?_
  refine normal_thn ?_
  refine aw_cond_false rfl ?_
  refine aw_seq ?_
  refine aw_region ?_
  refine g_u (s_assert_no rfl rfl nI193 tZ193 (fun z h => by rw [zv193] at h; cases h; rfl) rfl) ?_
  refine g_u (s_extract rfl rfl rfl rfl) ?_
  refine g_u (s_extract rfl rfl rfl rfl) ?_
  refine g_nil ?_
  refine normal_thn ?_
  refine aw_cond_false rfl ?_
  refine aw_seq ?_
  refine aw_region ?_
  refine g_u (s_assert_yes rfl rfl nI237) ?_
  refine g_u (s_extract rfl rfl rfl rfl) ?_
  refine g_u (s_extract rfl rfl rfl rfl) ?_
  refine g_nil ?_
  refine normal_thn ?_
  refine aw_cond_true rfl ?_
  refine aw_seq ?_
  refine aw_region ?_
  refine g_u (s_as_imm rfl rfl) ?_
  refine g_nil ?_
  refine normal_thn ?_
  refine aw_seq ?_
  refine aw_region ?_
  refine g_u (s_mv_slg rfl rfl) ?_
  refine g_u (s_buildSlice (X0 := z5) rfl Tryd.underlying102 tS5 tZ5 rfl rfl rfl rfl rfl rfl rfl rfl) ?_
  refine g_u (s_append rfl rfl rfl rfl rfl Tryd.underlying102 Tryd.underlying102 tS5 zv5 rfl (by decide) by5 (by (try dsimp only); simp only [List.length_append, List.length_cons, List.length_nil]; omega) (by (try dsimp only); simp only [List.length_append, List.length_cons, List.length_nil]; omega)) ?_
  refine g_u (s_as_slg rfl rfl) ?_
  refine g_nil ?_
  refine normal_thn ?_
  refine aw_seq ?_
  refine aw_seq ?_
  refine aw_region ?_
  refine g_u (s_mv_imm rfl rfl) ?_
  refine g_u (s_lenL rfl rfl Tryd.underlying237) ?_
  refine g_u (s_mv_imm rfl rfl) ?_
  refine g_nil ?_
  refine normal_thn ?_
  refine aw_block ?_
  refine aw_loop' (fun j : Nat × List AV => [(0, .slg 100001 1 j.2), (100001, .tok 1 j.2), (33, .imm (.sl 6 (v.list.map avV))), (34, .imm (iv (v.list.length : Int))), (35, .imm (iv (j.1 : Int)))]) (fun j => j.1 ≤ v.list.length ∧ j.2 = xs ++ bytesL (91 :: jsonVs true (v.list.take j.1))) (fun j => v.list.length - j.1) (⟨0, xs ++ bytesL [91]⟩) ?_ ⟨rfl, rfl, rfl, look_int rfl (by rw [List.length_map]), rfl, trivial⟩ ?_
  · exact ⟨Nat.zero_le _, rfl⟩
  · rintro ⟨i, ys⟩ ⟨h1, h2⟩; dsimp only at h1 h2; have hlen : ys.length ≤ xs.length + 1 + 150 * wtVs (v.list.take i) := by have := jsonVs_len (v.list.take i) true; rw [h2, List.length_append, bytesL_len, List.length_cons]; omega
    have hwy : W1 ys := by rw [h2]; exact hx.app (W1.bytes _)
    have htk := wtVs_take v.list i
    refine aw_seq ?_
    refine aw_region ?_
    refine g_u (s_ltI rfl rfl rfl) ?_
    refine g_nil ?_
    refine normal_thn ?_
    refine aw_seq ?_
    refine aw_cond rfl (fun hb1 => ?_) (fun hb1 => ?_)
    · skip
      have hiv : i < v.list.length := by have := of_decide_eq_true hb1; simp only [List.length_map] at this; omega
      refine aw_skip ?_
      refine normal_thn ?_
      refine aw_seq ?_
      refine aw_block ?_
      refine aw_seq ?_
      refine aw_region ?_
      refine g_u (s_mv_imm rfl rfl) ?_
      refine g_u (s_indexAddr rfl rfl rfl Tryd.underlying237 tS57 (by omega) (ixV hiv)) ?_
      refine g_u (s_load_cp rfl rfl tA57 tS57 rfl rfl) ?_
      refine g_uG (s_alloc' 1009 rfl rfl rfl tZ57) rfl ?_
      refine g_u (s_as_imm rfl rfl) ?_
      refine g_u (s_store_imm rfl rfl rfl tS57 rfl rfl) ?_
      refine g_nil ?_
      refine normal_thn ?_
      refine aw_seq ?_
      refine aw_seq ?_
      refine aw_region ?_
      refine g_u (s_mv_imm rfl rfl) ?_
      refine g_u (s_gtI rfl rfl rfl) ?_
      refine g_nil ?_
      refine normal_thn ?_
      refine aw_cond rfl (fun hb2 => ?_) (fun hb2 => ?_)
      · skip
        have hc : comma (i == 0) = [44] := by have hp : i ≠ 0 := (by have := of_decide_eq_true hb2; omega); rw [show (i == 0) = false from by simpa using hp]; rfl
        refine aw_region ?_
        refine g_u (s_mv_slg rfl rfl) ?_
        refine g_u (s_buildSlice (X0 := z5) rfl Tryd.underlying102 tS5 tZ5 rfl rfl rfl rfl rfl rfl rfl rfl) ?_
        refine g_u (s_append rfl rfl rfl rfl rfl Tryd.underlying102 Tryd.underlying102 tS5 zv5 rfl (by decide) by5 (by (try dsimp only); simp only [List.length_append, List.length_cons, List.length_nil]; omega) (by (try dsimp only); simp only [List.length_append, List.length_cons, List.length_nil]; omega)) ?_
        refine g_u (s_as_slg rfl rfl) ?_
        refine g_nil ?_
        refine normal_thn ?_
        refine aw_region ?_
        refine g_u (s_mv_slg rfl rfl) ?_
        refine g_u (s_load_imm rfl rfl rfl tA57 tS57 rfl rfl) ?_
        refine g_uG (s_mcall [(100001, 100001)] (ih _ (nthV_mem hiv) _ (by first | exact hwy | exact hwy.app (W1.bytes [44])) (by have q1 := wtVs_nth hiv; (try simp only [List.length_append, List.length_cons, List.length_nil]); omega)) rfl rfl ⟨.inl rfl, .inl rfl, trivial⟩ ⟨rfl, trivial⟩ rfl rfl rfl) rfl ?_
        refine g_u (s_as_slg rfl rfl) ?_
        refine g_nil ?_
        refine normal_blk ?_
        refine normal_thn ?_
        refine aw_region ?_
        refine g_u (s_add rfl rfl rfl) ?_
        refine g_u (s_mv_imm rfl rfl) ?_
        refine g_nil ?_
        refine normal_thn ?_
        refine ⟨⟨i + 1, _⟩, ⟨hiv, ?_⟩, ⟨rfl, rfl, rfl, rfl, look_int rfl (by rw [wrap64 (by omega) (by omega)]; rfl), trivial⟩, by dsimp only; omega⟩
        dsimp only
        rw [jsonVs_take hiv, hc]
        subst h2
        simp only [List.append_assoc, List.cons_append, List.nil_append, ← bytesL_app, bytesL_cons, bytesL_nil, strOf_list, lst_strOf]
        try rfl
      · skip
        have hc : comma (i == 0) = [] := by have hp : i = 0 := (by have := of_decide_eq_false hb2; omega); rw [hp]; rfl
        refine aw_skip ?_
        refine normal_thn ?_
        refine aw_region ?_
        refine g_u (s_mv_slg rfl rfl) ?_
        refine g_u (s_load_imm rfl rfl rfl tA57 tS57 rfl rfl) ?_
        refine g_uG (s_mcall [(100001, 100001)] (ih _ (nthV_mem hiv) _ (by first | exact hwy | exact hwy.app (W1.bytes [44])) (by have q1 := wtVs_nth hiv; (try simp only [List.length_append, List.length_cons, List.length_nil]); omega)) rfl rfl ⟨.inl rfl, .inl rfl, trivial⟩ ⟨rfl, trivial⟩ rfl rfl rfl) rfl ?_
        refine g_u (s_as_slg rfl rfl) ?_
        refine g_nil ?_
        refine normal_blk ?_
        refine normal_thn ?_
        refine aw_region ?_
        refine g_u (s_add rfl rfl rfl) ?_
        refine g_u (s_mv_imm rfl rfl) ?_
        refine g_nil ?_
        refine normal_thn ?_
        refine ⟨⟨i + 1, _⟩, ⟨hiv, ?_⟩, ⟨rfl, rfl, rfl, rfl, look_int rfl (by rw [wrap64 (by omega) (by omega)]; rfl), trivial⟩, by dsimp only; omega⟩
        dsimp only
        rw [jsonVs_take hiv, hc]
        subst h2
        simp only [List.append_assoc, List.cons_append, List.nil_append, ← bytesL_app, bytesL_cons, bytesL_nil, strOf_list, lst_strOf]
        try rfl
    · skip
      have hi : i = v.list.length := by have := of_decide_eq_false hb1; simp only [List.length_map] at this; omega
      refine aw_exit ?_
      refine exit_thn ?_
      refine exit_thn ?_
      refine exit_blk ?_
      refine normal_thn ?_
      refine aw_seq ?_
      refine aw_region ?_
      refine g_u (s_mv_slg rfl rfl) ?_
      refine g_u (s_buildSlice (X0 := z5) rfl Tryd.underlying102 tS5 tZ5 rfl rfl rfl rfl rfl rfl rfl rfl) ?_
      refine g_u (s_append rfl rfl rfl rfl rfl Tryd.underlying102 Tryd.underlying102 tS5 zv5 rfl (by decide) by5 (by (try dsimp only); simp only [List.length_append, List.length_cons, List.length_nil]; omega) (by (try dsimp only); simp only [List.length_append, List.length_cons, List.length_nil]; omega)) ?_
      refine g_u (s_as_slg rfl rfl) ?_
      refine g_nil ?_
      refine normal_thn ?_
      refine aw_ret ?_
      refine ret_blk ?_
      refine ret_thn ?_
      exact ⟨⟨.inr ⟨_, rfl, look_slg rfl (by rw [json6 hk, h2, hi, List.take_of_length_le (Nat.le_refl _), List.append_assoc]; exact congrArg (xs ++ ·) (bytesL_app _ [93])), rfl⟩, trivial⟩, ⟨look_tok rfl (by rw [json6 hk, h2, hi, List.take_of_length_le (Nat.le_refl _), List.append_assoc]; exact congrArg (xs ++ ·) (bytesL_app _ [93])), trivial⟩⟩

set_option maxHeartbeats 400000 in
theorem lay_m (v : GV) (ho : v.ok) (hw : v.wt ≤ 10000000) (xs : List AV) (hx : W1 xs) (hl : xs.length + 150 * v.wt ≤ 5000000000) (hk : v.kind = 7) (ih : ∀ a ∈ v.map, ∀ xs : List AV, W1 xs → xs.length + 150 * a.val.wt ≤ 5000000000 → MCall Tryd.prog Γ0 223 [.slg 100001 1 xs, .imm a.val.av] [(100001, .tok 1 xs)] (.slg 100001 1 (xs ++ bytesL (jsonB a.val))) [(100001, .tok 1 (xs ++ bytesL (jsonB a.val)))]) : MCall Tryd.prog Γ0 223 [.slg 100001 1 xs, .imm v.av] [(100001, .tok 1 xs)] (.slg 100001 1 (xs ++ bytesL (jsonB v))) [(100001, .tok 1 (xs ++ bytesL (jsonB v)))] := by
  have lv := len_wtVs v.list
  have la := len_wtAs v.map
  have ek := v.wt_eq
  have ok := v.ok_iff.1 ho
  have sl := simpB_length v
  have jl := json_len v
  refine mcall_of (rs := [.slg 100001 1 (xs ++ bytesL (jsonB v))]) Tryd.func223 rfl Tryd.ntmps223 (by kernel_rfl) rfl rfl rfl rfl rfl fun w0 I0 G0 E => ?_
  refine aw_seq ?_
  refine aw_region ?_
  refine g_uG (s_box_imm 1003 rfl rfl rfl rfl) rfl ?_
  refine g_u (s_as_imm rfl rfl) ?_
  refine g_nil ?_
  refine normal_thn ?_
  refine aw_seq ?_
  refine aw_seq ?_
  refine aw_region ?_
  refine g_u (s_load_imm rfl rfl rfl tA57 tS57 rfl rfl) ?_
  refine g_u (s_call1 (thing_m hk (thing_c v ho hw)) rfl rfl) ?_
  refine g_nil ?_
  refine normal_thn ?_
  refine aw_block ?_
  refine aw_seq ?_
  refine aw_region ?_
  refine g_u (s_assert_no rfl rfl nI194 tZ194 (fun z h => by rw [zv194] at h; cases h; rfl) rfl) ?_
  refine g_u (s_extract rfl rfl rfl rfl) ?_
  refine g_u (s_extract rfl rfl rfl rfl) ?_
  refine g_nil ?_
  refine normal_thn ?_
  refine aw_cond_false rfl ?_
  refine aw_seq ?_
  refine aw_region ?_
  refine g_u (s_assert_no rfl rfl nI193 tZ193 (fun z h => by rw [zv193] at h; cases h; rfl) rfl) ?_
  refine g_u (s_extract rfl rfl rfl rfl) ?_
  refine g_u (s_extract rfl rfl rfl rfl) ?_
  refine g_nil ?_
  refine normal_thn ?_
  refine aw_cond_false rfl ?_
  refine aw_seq ?_
  refine aw_region ?_
  refine g_u (s_assert_no rfl rfl nI237 tZ237 (fun z h => by rw [zv237] at h; cases h; rfl) rfl) ?_
  refine g_u (s_extract rfl rfl rfl rfl) ?_
  refine g_u (s_extract rfl rfl rfl rfl) ?_
  refine g_nil ?_
  refine normal_thn ?_
  refine aw_cond_false rfl ?_
  refine aw_seq ?_
  refine aw_region ?_
  refine g_u (s_assert_yes rfl rfl nI238) ?_
  refine g_u (s_extract rfl rfl rfl rfl) ?_
  refine g_u (s_extract rfl rfl rfl rfl) ?_
  refine g_nil ?_
  refine normal_thn ?_
  refine aw_cond_true rfl ?_
  refine aw_seq ?_
  refine aw_region ?_
  refine g_u (s_as_imm rfl rfl) ?_
  refine g_nil ?_
  refine normal_thn ?_
  refine aw_seq ?_
  refine aw_region ?_
  refine g_u (s_mv_slg rfl rfl) ?_
  refine g_u (s_buildSlice (X0 := z5) rfl Tryd.underlying102 tS5 tZ5 rfl rfl rfl rfl rfl rfl rfl rfl) ?_
  refine g_u (s_append rfl rfl rfl rfl rfl Tryd.underlying102 Tryd.underlying102 tS5 zv5 rfl (by decide) by5 (by (try dsimp only); (try (have q1 := wtAs_nth hia; have q2 := (nthA v.map i).wt_eq; have q3 := quoteB_length (lst (nthA v.map i).key); have q4 := lst_len (nthA v.map i).key)); (try simp only [List.length_append, List.length_cons, List.length_nil, bytesL_len]); omega) (by (try dsimp only); (try (have q1 := wtAs_nth hia; have q2 := (nthA v.map i).wt_eq; have q3 := quoteB_length (lst (nthA v.map i).key); have q4 := lst_len (nthA v.map i).key)); (try simp only [List.length_append, List.length_cons, List.length_nil, bytesL_len]); omega)) ?_
  refine g_u (s_as_slg rfl rfl) ?_
  refine g_nil ?_
  refine normal_thn ?_
  refine aw_seq ?_
  refine aw_seq ?_
  refine aw_region ?_
  refine g_u (s_mv_imm rfl rfl) ?_
  refine g_u (s_lenL rfl rfl Tryd.underlying238) ?_
  refine g_u (s_mv_imm rfl rfl) ?_
  refine g_nil ?_
  refine normal_thn ?_
  refine aw_block ?_
  refine aw_loop' (fun j : Nat × List AV => [(0, .slg 100001 1 j.2), (100001, .tok 1 j.2), (58, .imm (.sl 7 (v.map.map avA))), (59, .imm (iv (v.map.length : Int))), (60, .imm (iv (j.1 : Int)))]) (fun j => j.1 ≤ v.map.length ∧ j.2 = xs ++ bytesL (123 :: jsonAs true (v.map.take j.1))) (fun j => v.map.length - j.1) (⟨0, xs ++ bytesL [123]⟩) ?_ ⟨rfl, rfl, rfl, look_int rfl (by rw [List.length_map]), rfl, trivial⟩ ?_
  · exact ⟨Nat.zero_le _, rfl⟩
  · rintro ⟨i, ys⟩ ⟨h1, h2⟩; dsimp only at h1 h2; have hlen : ys.length ≤ xs.length + 1 + 150 * wtAs (v.map.take i) := by have := jsonAs_len (v.map.take i) true; rw [h2, List.length_append, bytesL_len, List.length_cons]; omega
    have hwy : W1 ys := by rw [h2]; exact hx.app (W1.bytes _)
    have htk := wtAs_take v.map i
    refine aw_seq ?_
    refine aw_region ?_
    refine g_u (s_ltI rfl rfl rfl) ?_
    refine g_nil ?_
    refine normal_thn ?_
    refine aw_seq ?_
    refine aw_cond rfl (fun hb1 => ?_) (fun hb1 => ?_)
    · skip
      have hia : i < v.map.length := by have := of_decide_eq_true hb1; simp only [List.length_map] at this; omega
      have hka : (nthA v.map i).key.size ≤ 10000000000 := by have q1 := wtAs_nth hia; have q4 := (nthA v.map i).wt_eq; omega
      refine aw_skip ?_
      refine normal_thn ?_
      refine aw_seq ?_
      refine aw_block ?_
      refine aw_seq ?_
      refine aw_region ?_
      refine g_u (s_mv_imm rfl rfl) ?_
      refine g_u (s_indexAddr rfl rfl rfl Tryd.underlying238 tS61 (by omega) (ixA hia)) ?_
      refine g_u (s_load_cp rfl rfl tA61 tS61 rfl rfl) ?_
      refine g_uG (s_alloc' 1012 rfl rfl rfl tZ61) rfl ?_
      refine g_u (s_as_imm rfl rfl) ?_
      refine g_u (s_store_imm rfl rfl rfl tS61 rfl rfl) ?_
      refine g_nil ?_
      refine normal_thn ?_
      refine aw_seq ?_
      refine aw_seq ?_
      refine aw_region ?_
      refine g_u (s_mv_imm rfl rfl) ?_
      refine g_u (s_gtI rfl rfl rfl) ?_
      refine g_nil ?_
      refine normal_thn ?_
      refine aw_cond rfl (fun hb2 => ?_) (fun hb2 => ?_)
      · skip
        have hc : comma (i == 0) = [44] := by have hp : i ≠ 0 := (by have := of_decide_eq_true hb2; omega); rw [show (i == 0) = false from by simpa using hp]; rfl
        refine aw_region ?_
        refine g_u (s_mv_slg rfl rfl) ?_
        refine g_u (s_buildSlice (X0 := z5) rfl Tryd.underlying102 tS5 tZ5 rfl rfl rfl rfl rfl rfl rfl rfl) ?_
        refine g_u (s_append rfl rfl rfl rfl rfl Tryd.underlying102 Tryd.underlying102 tS5 zv5 rfl (by decide) by5 (by (try dsimp only); (try (have q1 := wtAs_nth hia; have q2 := (nthA v.map i).wt_eq; have q3 := quoteB_length (lst (nthA v.map i).key); have q4 := lst_len (nthA v.map i).key)); (try simp only [List.length_append, List.length_cons, List.length_nil, bytesL_len]); omega) (by (try dsimp only); (try (have q1 := wtAs_nth hia; have q2 := (nthA v.map i).wt_eq; have q3 := quoteB_length (lst (nthA v.map i).key); have q4 := lst_len (nthA v.map i).key)); (try simp only [List.length_append, List.length_cons, List.length_nil, bytesL_len]); omega)) ?_
        refine g_u (s_as_slg rfl rfl) ?_
        refine g_nil ?_
        refine normal_thn ?_
        refine aw_draw mixed ?_
        refine g_u (s_mv_slg rfl rfl) ?_
        refine g_u (s_fieldAddr rfl rfl fa61_0 rfl) ?_
        refine g_u (s_load_imm rfl rfl rfl tA9 tS9 rfl rfl) ?_
        refine g_uG (s_mcall [(3014, 20001)] (jput_c _ _ (by first | exact hwy | exact hwy.app (W1.bytes [44])) hka (by have q1 := wtAs_nth hia; have q2 := (nthA v.map i).wt_eq; have q3 := quoteB_length (lst (nthA v.map i).key); have q4 := lst_len (nthA v.map i).key; (try simp only [List.length_append, List.length_cons, List.length_nil, bytesL_len]); omega)) rfl rfl ⟨.inr ⟨_, rfl, rfl⟩, .inl rfl, trivial⟩ trivial rfl rfl rfl) rfl ?_
        refine g_u (s_buildSlice (X0 := z5) rfl Tryd.underlying102 tS5 tZ5 rfl rfl rfl rfl rfl rfl rfl rfl) ?_
        refine g_u (s_append rfl rfl rfl rfl rfl Tryd.underlying102 Tryd.underlying102 tS5 zv5 rfl (by decide) by5 (by (try dsimp only); (try (have q1 := wtAs_nth hia; have q2 := (nthA v.map i).wt_eq; have q3 := quoteB_length (lst (nthA v.map i).key); have q4 := lst_len (nthA v.map i).key)); (try simp only [List.length_append, List.length_cons, List.length_nil, bytesL_len]); omega) (by (try dsimp only); (try (have q1 := wtAs_nth hia; have q2 := (nthA v.map i).wt_eq; have q3 := quoteB_length (lst (nthA v.map i).key); have q4 := lst_len (nthA v.map i).key)); (try simp only [List.length_append, List.length_cons, List.length_nil, bytesL_len]); omega)) ?_
        refine g_u (s_fieldAddr rfl rfl fa61_1 rfl) ?_
        refine g_u (s_load_imm rfl rfl rfl tA57 tS57 rfl rfl) ?_
        refine g_uG (s_mcall [(100001, 20001)] (ih _ (nthA_mem hia) _ (by first | exact ((hwy.app (W1.bytes _)).app (W1.bytes [58])) | exact (((hwy.app (W1.bytes [44])).app (W1.bytes _)).app (W1.bytes [58]))) (by show _ + 150 * (nthA v.map i).val.wt ≤ 5000000000; have q1 := wtAs_nth hia; have q2 := (nthA v.map i).wt_eq; have q3 := quoteB_length (lst (nthA v.map i).key); have q4 := lst_len (nthA v.map i).key; (try simp only [List.length_append, List.length_cons, List.length_nil, bytesL_len]); omega)) rfl rfl ⟨.inl rfl, .inl rfl, trivial⟩ ⟨rfl, trivial⟩ rfl rfl rfl) rfl ?_
        refine g_u (s_as_slg rfl rfl) ?_
        refine g_nil ⟨by kernel_rfl, ?_⟩
        refine normal_blk ?_
        refine normal_thn ?_
        refine aw_renTok 20001 100001 1 _ [(0, .slg 100001 1 _), (58, .imm (.sl 7 (v.map.map avA))), (59, .imm (iv (v.map.length : Int))), (60, .imm (iv (i : Int)))] rfl rfl rfl rfl rfl rfl ⟨.inr (.inl ⟨rfl, rfl⟩), .inl ⟨rfl, rfl⟩, .inl ⟨rfl, rfl⟩, .inl ⟨rfl, rfl⟩, trivial⟩ (by simp only [List.length_append, List.length_cons, List.length_nil, bytesL_len]; omega) ?_
        refine aw_region ?_
        refine g_u (s_add rfl rfl rfl) ?_
        refine g_u (s_mv_imm rfl rfl) ?_
        refine g_nil ?_
        refine normal_thn ?_
        refine ⟨⟨i + 1, _⟩, ⟨hia, ?_⟩, ⟨rfl, rfl, rfl, rfl, look_int rfl (by rw [wrap64 (by omega) (by omega)]; rfl), trivial⟩, by dsimp only; omega⟩
        dsimp only
        rw [jsonAs_take hia, hc, jsonA_eq]
        subst h2
        simp only [List.append_assoc, List.cons_append, List.nil_append, ← bytesL_app, bytesL_cons, bytesL_nil, strOf_list, lst_strOf]
        try rfl
      · skip
        have hc : comma (i == 0) = [] := by have hp : i = 0 := (by have := of_decide_eq_false hb2; omega); rw [hp]; rfl
        refine aw_skip ?_
        refine normal_thn ?_
        refine aw_draw mixed ?_
        refine g_u (s_mv_slg rfl rfl) ?_
        refine g_u (s_fieldAddr rfl rfl fa61_0 rfl) ?_
        refine g_u (s_load_imm rfl rfl rfl tA9 tS9 rfl rfl) ?_
        refine g_uG (s_mcall [(3014, 20002)] (jput_c _ _ (by first | exact hwy | exact hwy.app (W1.bytes [44])) hka (by have q1 := wtAs_nth hia; have q2 := (nthA v.map i).wt_eq; have q3 := quoteB_length (lst (nthA v.map i).key); have q4 := lst_len (nthA v.map i).key; (try simp only [List.length_append, List.length_cons, List.length_nil, bytesL_len]); omega)) rfl rfl ⟨.inr ⟨_, rfl, rfl⟩, .inl rfl, trivial⟩ trivial rfl rfl rfl) rfl ?_
        refine g_u (s_buildSlice (X0 := z5) rfl Tryd.underlying102 tS5 tZ5 rfl rfl rfl rfl rfl rfl rfl rfl) ?_
        refine g_u (s_append rfl rfl rfl rfl rfl Tryd.underlying102 Tryd.underlying102 tS5 zv5 rfl (by decide) by5 (by (try dsimp only); (try (have q1 := wtAs_nth hia; have q2 := (nthA v.map i).wt_eq; have q3 := quoteB_length (lst (nthA v.map i).key); have q4 := lst_len (nthA v.map i).key)); (try simp only [List.length_append, List.length_cons, List.length_nil, bytesL_len]); omega) (by (try dsimp only); (try (have q1 := wtAs_nth hia; have q2 := (nthA v.map i).wt_eq; have q3 := quoteB_length (lst (nthA v.map i).key); have q4 := lst_len (nthA v.map i).key)); (try simp only [List.length_append, List.length_cons, List.length_nil, bytesL_len]); omega)) ?_
        refine g_u (s_fieldAddr rfl rfl fa61_1 rfl) ?_
        refine g_u (s_load_imm rfl rfl rfl tA57 tS57 rfl rfl) ?_
        refine g_uG (s_mcall [(100001, 20002)] (ih _ (nthA_mem hia) _ (by first | exact ((hwy.app (W1.bytes _)).app (W1.bytes [58])) | exact (((hwy.app (W1.bytes [44])).app (W1.bytes _)).app (W1.bytes [58]))) (by show _ + 150 * (nthA v.map i).val.wt ≤ 5000000000; have q1 := wtAs_nth hia; have q2 := (nthA v.map i).wt_eq; have q3 := quoteB_length (lst (nthA v.map i).key); have q4 := lst_len (nthA v.map i).key; (try simp only [List.length_append, List.length_cons, List.length_nil, bytesL_len]); omega)) rfl rfl ⟨.inl rfl, .inl rfl, trivial⟩ ⟨rfl, trivial⟩ rfl rfl rfl) rfl ?_
        refine g_u (s_as_slg rfl rfl) ?_
        refine g_nil ⟨by kernel_rfl, ?_⟩
        refine normal_blk ?_
        refine normal_thn ?_
        refine aw_renTok 20002 100001 1 _ [(0, .slg 100001 1 _), (58, .imm (.sl 7 (v.map.map avA))), (59, .imm (iv (v.map.length : Int))), (60, .imm (iv (i : Int)))] rfl rfl rfl rfl rfl rfl ⟨.inr (.inl ⟨rfl, rfl⟩), .inl ⟨rfl, rfl⟩, .inl ⟨rfl, rfl⟩, .inl ⟨rfl, rfl⟩, trivial⟩ (by simp only [List.length_append, List.length_cons, List.length_nil, bytesL_len]; omega) ?_
        refine aw_region ?_
        refine g_u (s_add rfl rfl rfl) ?_
        refine g_u (s_mv_imm rfl rfl) ?_
        refine g_nil ?_
        refine normal_thn ?_
        refine ⟨⟨i + 1, _⟩, ⟨hia, ?_⟩, ⟨rfl, rfl, rfl, rfl, look_int rfl (by rw [wrap64 (by omega) (by omega)]; rfl), trivial⟩, by dsimp only; omega⟩
        dsimp only
        rw [jsonAs_take hia, hc, jsonA_eq]
        subst h2
        simp only [List.append_assoc, List.cons_append, List.nil_append, ← bytesL_app, bytesL_cons, bytesL_nil, strOf_list, lst_strOf]
        try rfl
    · skip
      have hi : i = v.map.length := by have := of_decide_eq_false hb1; simp only [List.length_map] at this; omega
      refine aw_exit ?_
      refine exit_thn ?_
      refine exit_thn ?_
      refine exit_blk ?_
      refine normal_thn ?_
      refine aw_seq ?_
      refine aw_region ?_
      refine g_u (s_mv_slg rfl rfl) ?_
      refine g_u (s_buildSlice (X0 := z5) rfl Tryd.underlying102 tS5 tZ5 rfl rfl rfl rfl rfl rfl rfl rfl) ?_
      refine g_u (s_append rfl rfl rfl rfl rfl Tryd.underlying102 Tryd.underlying102 tS5 zv5 rfl (by decide) by5 (by (try dsimp only); (try (have q1 := wtAs_nth hia; have q2 := (nthA v.map i).wt_eq; have q3 := quoteB_length (lst (nthA v.map i).key); have q4 := lst_len (nthA v.map i).key)); (try simp only [List.length_append, List.length_cons, List.length_nil, bytesL_len]); omega) (by (try dsimp only); (try (have q1 := wtAs_nth hia; have q2 := (nthA v.map i).wt_eq; have q3 := quoteB_length (lst (nthA v.map i).key); have q4 := lst_len (nthA v.map i).key)); (try simp only [List.length_append, List.length_cons, List.length_nil, bytesL_len]); omega)) ?_
      refine g_u (s_as_slg rfl rfl) ?_
      refine g_nil ?_
      refine normal_thn ?_
      refine aw_ret ?_
      refine ret_blk ?_
      refine ret_thn ?_
      exact ⟨⟨.inr ⟨_, rfl, look_slg rfl (by rw [json7 hk, h2, hi, List.take_of_length_le (Nat.le_refl _), List.append_assoc]; exact congrArg (xs ++ ·) (bytesL_app _ [125])), rfl⟩, trivial⟩, ⟨look_tok rfl (by rw [json7 hk, h2, hi, List.take_of_length_le (Nat.le_refl _), List.append_assoc]; exact congrArg (xs ++ ·) (bytesL_app _ [125])), trivial⟩⟩

theorem lay_c (v : GV) : v.ok → v.wt ≤ 10000000 → ∀ xs : List AV, W1 xs → xs.length + 150 * v.wt ≤ 5000000000 → MCall Tryd.prog Γ0 223 [.slg 100001 1 xs, .imm v.av] [(100001, .tok 1 xs)] (.slg 100001 1 (xs ++ bytesL (jsonB v))) [(100001, .tok 1 (xs ++ bytesL (jsonB v)))] := by
  refine GV.ind (P := fun v => v.ok → v.wt ≤ 10000000 → ∀ xs : List AV, W1 xs → xs.length + 150 * v.wt ≤ 5000000000 → MCall Tryd.prog Γ0 223 [.slg 100001 1 xs, .imm v.av] [(100001, .tok 1 xs)] (.slg 100001 1 (xs ++ bytesL (jsonB v))) [(100001, .tok 1 (xs ++ bytesL (jsonB v)))]) ?_ v
  intro v h1 h2 ho hw xs hx hl
  have ok := v.ok_iff.1 ho
  have ek := v.wt_eq
  by_cases h6 : v.kind = 6
  · exact lay_l v ho hw xs hx hl h6 fun y hy ys hy1 hy2 => h1 y hy (ok.2.2.2.2.1 y hy) (by have := wtVs_mem hy; omega) ys hy1 hy2
  by_cases h7 : v.kind = 7
  · exact lay_m v ho hw xs hx hl h7 fun a ha ys hy1 hy2 => h2 a ha ((GA.ok_iff a).1 (ok.2.2.2.2.2 a ha)).2 (by have := wtAs_mem ha; have := a.wt_eq; omega) ys hy1 hy2
  by_cases hq : v.kind = 1 ∨ v.kind = 4 ∨ v.kind = 5
  · exact lay_q v ho hw xs hx hl hq
  · exact lay_p v ho hw xs hx hl (by omega)

set_option maxHeartbeats 400000 in
theorem json_c (v : GV) (ho : v.ok) (hw : v.wt ≤ 10000000) : PCall Tryd.prog Γ0 172 [v.av] [sv (strOf (jsonB v))] := by
  have lv := len_wtVs v.list
  have la := len_wtAs v.map
  have ek := v.wt_eq
  have ok := v.ok_iff.1 ho
  have sl := simpB_length v
  have jl := json_len v
  refine pcall_of Tryd.func172 rfl Tryd.ntmps172 (by kernel_rfl) rfl fun w0 I0 G0 => ?_
  refine aw_seq ?_
  refine aw_region ?_
  refine g_uG (s_box_imm 1001 rfl rfl rfl rfl) rfl ?_
  refine g_u (s_as_imm rfl rfl) ?_
  refine g_nil ?_
  refine normal_thn ?_
  refine aw_seq ?_
  refine aw_region ?_
  refine g_u (s_load_imm rfl rfl rfl tA57 tS57 rfl rfl) ?_
  refine g_u (s_call1 (pcall_nil (n := 1) (xs := [v.av]) (lay_c v ho hw [] (fun x hx => by cases hx) (by simp only [List.length_nil]; omega))) rfl rfl) ?_
  refine g_u (s_cvBS' (rfl) rfl rfl Tryd.underlying102 Tryd.underlying9 Tryd.underlying5) ?_
  refine g_u (s_as_imm rfl rfl) ?_
  refine g_nil ?_
  refine normal_thn ?_
  refine aw_ret ?_
  exact ⟨⟨(rfl : toAV (Al.look _ _) = some _).trans (congrArg some (by rfl)), rfl⟩, trivial⟩

set_option maxHeartbeats 400000 in
theorem text_q (v : GV) (ho : v.ok) (hw : v.wt ≤ 10000000) (hk : v.kind = 1 ∨ v.kind = 4 ∨ v.kind = 5) : PCall Tryd.prog Γ0 105 [v.av] [sv (textM v)] := by
  have lv := len_wtVs v.list
  have la := len_wtAs v.map
  have ek := v.wt_eq
  have ok := v.ok_iff.1 ho
  have sl := simpB_length v
  have jl := json_len v
  refine pcall_of Tryd.func105 rfl Tryd.ntmps105 (by kernel_rfl) rfl fun w0 I0 G0 => ?_
  refine aw_seq ?_
  refine aw_region ?_
  refine g_uG (s_box_imm 1001 rfl rfl rfl rfl) rfl ?_
  refine g_u (s_as_imm rfl rfl) ?_
  refine g_nil ?_
  refine normal_thn ?_
  refine aw_seq ?_
  refine aw_seq ?_
  refine aw_region ?_
  refine g_u (s_load_imm rfl rfl rfl tA57 tS57 rfl rfl) ?_
  refine g_u (s_call1 (thing_q hk (thing_c v ho hw)) rfl rfl) ?_
  refine g_nil ?_
  refine normal_thn ?_
  refine aw_block ?_
  refine aw_seq ?_
  refine aw_region ?_
  refine g_u (s_assert_yes rfl rfl nI193) ?_
  refine g_u (s_extract rfl rfl rfl rfl) ?_
  refine g_u (s_extract rfl rfl rfl rfl) ?_
  refine g_nil ?_
  refine normal_thn ?_
  refine aw_cond_true rfl ?_
  refine aw_seq ?_
  refine aw_region ?_
  refine g_u (s_as_imm rfl rfl) ?_
  refine g_nil ?_
  refine normal_thn ?_
  refine aw_seq ?_
  refine aw_region ?_
  refine g_u (s_mv_imm rfl rfl) ?_
  refine g_u (s_as_imm rfl rfl) ?_
  refine g_nil ?_
  refine normal_thn ?_
  refine aw_ret ?_
  refine ret_blk ?_
  refine ret_thn ?_
  exact ⟨⟨(rfl : toAV (Al.look _ _) = some _).trans (congrArg some (by (rw [textE (by omega)]))), rfl⟩, trivial⟩

set_option maxHeartbeats 400000 in
theorem text_p (v : GV) (ho : v.ok) (hw : v.wt ≤ 10000000) (hk : v.kind ≠ 1 ∧ v.kind ≠ 4 ∧ v.kind ≠ 5 ∧ v.kind ≠ 6 ∧ v.kind ≠ 7) : PCall Tryd.prog Γ0 105 [v.av] [sv (textM v)] := by
  have lv := len_wtVs v.list
  have la := len_wtAs v.map
  have ek := v.wt_eq
  have ok := v.ok_iff.1 ho
  have sl := simpB_length v
  have jl := json_len v
  refine pcall_of Tryd.func105 rfl Tryd.ntmps105 (by kernel_rfl) rfl fun w0 I0 G0 => ?_
  refine aw_seq ?_
  refine aw_region ?_
  refine g_uG (s_box_imm 1001 rfl rfl rfl rfl) rfl ?_
  refine g_u (s_as_imm rfl rfl) ?_
  refine g_nil ?_
  refine normal_thn ?_
  refine aw_seq ?_
  refine aw_seq ?_
  refine aw_region ?_
  refine g_u (s_load_imm rfl rfl rfl tA57 tS57 rfl rfl) ?_
  refine g_u (s_call1 (thing_p hk (thing_c v ho hw)) rfl rfl) ?_
  refine g_nil ?_
  refine normal_thn ?_
  refine aw_block ?_
  refine aw_seq ?_
  refine aw_region ?_
  refine g_u (s_assert_no rfl rfl nI193 tZ193 (fun z h => by rw [zv193] at h; cases h; rfl) rfl) ?_
  refine g_u (s_extract rfl rfl rfl rfl) ?_
  refine g_u (s_extract rfl rfl rfl rfl) ?_
  refine g_nil ?_
  refine normal_thn ?_
  refine aw_cond_false rfl ?_
  refine aw_seq ?_
  refine aw_region ?_
  refine g_u (s_assert_yes rfl rfl nI194) ?_
  refine g_u (s_extract rfl rfl rfl rfl) ?_
  refine g_u (s_extract rfl rfl rfl rfl) ?_
  refine g_nil ?_
  refine normal_thn ?_
  refine aw_cond_true rfl ?_
  refine aw_seq ?_
  refine aw_region ?_
  refine g_u (s_as_imm rfl rfl) ?_
  refine g_nil ?_
  refine normal_thn ?_
  refine aw_seq ?_
  refine aw_seq ?_
  refine aw_region ?_
  refine g_u (s_fieldAddr rfl rfl fa57_0 rfl) ?_
  refine g_u (s_load_imm rfl rfl rfl tA5 tS5 rfl rfl) ?_
  refine g_u (s_eqI rfl rfl rfl) ?_
  refine g_nil ?_
  refine normal_thn ?_
  refine aw_cond rfl (fun hb1 => ?_) (fun hb1 => ?_)
  · skip
    refine aw_seq ?_
    refine aw_region ?_
    refine g_u (s_as_imm rfl rfl) ?_
    refine g_nil ?_
    refine normal_thn ?_
    refine aw_ret ?_
    refine ret_thn ?_
    refine ret_blk ?_
    refine ret_thn ?_
    exact ⟨⟨(rfl : toAV (Al.look _ _) = some _).trans (congrArg some (by (simp only [beq_iff_eq, beq_eq_false_iff_ne, ne_eq, decide_eq_true_eq, decide_eq_false_iff_not] at *; rw [textE (by omega), simp6 (by omega)]; rfl))), rfl⟩, trivial⟩
  · skip
    refine aw_skip ?_
    refine normal_thn ?_
    refine aw_seq ?_
    refine aw_region ?_
    refine g_u (s_mv_imm rfl rfl) ?_
    refine g_u (s_as_imm rfl rfl) ?_
    refine g_nil ?_
    refine normal_thn ?_
    refine aw_ret ?_
    refine ret_blk ?_
    refine ret_thn ?_
    exact ⟨⟨(rfl : toAV (Al.look _ _) = some _).trans (congrArg some (by (simp only [beq_iff_eq, beq_eq_false_iff_ne, ne_eq, decide_eq_true_eq, decide_eq_false_iff_not] at *; rw [textE (by omega), jsonE (by omega)]))), rfl⟩, trivial⟩

set_option maxHeartbeats 400000 in
theorem text_l (v : GV) (ho : v.ok) (hw : v.wt ≤ 10000000) (hk : v.kind = 6) : PCall Tryd.prog Γ0 105 [v.av] [sv (textM v)] := by
  have lv := len_wtVs v.list
  have la := len_wtAs v.map
  have ek := v.wt_eq
  have ok := v.ok_iff.1 ho
  have sl := simpB_length v
  have jl := json_len v
  refine pcall_of Tryd.func105 rfl Tryd.ntmps105 (by kernel_rfl) rfl fun w0 I0 G0 => ?_
  refine aw_seq ?_
  refine aw_region ?_
  refine g_uG (s_box_imm 1001 rfl rfl rfl rfl) rfl ?_
  refine g_u (s_as_imm rfl rfl) ?_
  refine g_nil ?_
  refine normal_thn ?_
  refine aw_seq ?_
  refine aw_seq ?_
  refine aw_region ?_
  refine g_u (s_load_imm rfl rfl rfl tA57 tS57 rfl rfl) ?_
  refine g_u (s_call1 (thing_l hk (thing_c v ho hw)) rfl rfl) ?_
  refine g_nil ?_
  refine normal_thn ?_
  refine aw_block ?_
  refine aw_seq ?_
  refine aw_region ?_
  refine g_u (s_assert_no rfl rfl nI193 tZ193 (fun z h => by rw [zv193] at h; cases h; rfl) rfl) ?_
  refine g_u (s_extract rfl rfl rfl rfl) ?_
  refine g_u (s_extract rfl rfl rfl rfl) ?_
  refine g_nil ?_
  refine normal_thn ?_
  refine aw_cond_false rfl ?_
  refine aw_seq ?_
  refine aw_region ?_
  refine g_u (s_assert_no rfl rfl nI194 tZ194 (fun z h => by rw [zv194] at h; cases h; rfl) rfl) ?_
  refine g_u (s_extract rfl rfl rfl rfl) ?_
  refine g_u (s_extract rfl rfl rfl rfl) ?_
  refine g_nil ?_
  refine normal_thn ?_
  refine aw_cond_false rfl ?_
  refine aw_skip ?_
  refine normal_blk ?_
  refine normal_thn ?_
  refine aw_seq ?_
  refine aw_region ?_
  refine g_u (s_load_imm rfl rfl rfl tA57 tS57 rfl rfl) ?_
  refine g_u (s_call1 (json_c v ho hw) rfl rfl) ?_
  refine g_u (s_as_imm rfl rfl) ?_
  refine g_nil ?_
  refine normal_thn ?_
  refine aw_ret ?_
  exact ⟨⟨(rfl : toAV (Al.look _ _) = some _).trans (congrArg some (by (rw [text6 (by omega)]))), rfl⟩, trivial⟩

set_option maxHeartbeats 400000 in
theorem text_m (v : GV) (ho : v.ok) (hw : v.wt ≤ 10000000) (hk : v.kind = 7) : PCall Tryd.prog Γ0 105 [v.av] [sv (textM v)] := by
  have lv := len_wtVs v.list
  have la := len_wtAs v.map
  have ek := v.wt_eq
  have ok := v.ok_iff.1 ho
  have sl := simpB_length v
  have jl := json_len v
  refine pcall_of Tryd.func105 rfl Tryd.ntmps105 (by kernel_rfl) rfl fun w0 I0 G0 => ?_
  refine aw_seq ?_
  refine aw_region ?_
  refine g_uG (s_box_imm 1001 rfl rfl rfl rfl) rfl ?_
  refine g_u (s_as_imm rfl rfl) ?_
  refine g_nil ?_
  refine normal_thn ?_
  refine aw_seq ?_
  refine aw_seq ?_
  refine aw_region ?_
  refine g_u (s_load_imm rfl rfl rfl tA57 tS57 rfl rfl) ?_
  refine g_u (s_call1 (thing_m hk (thing_c v ho hw)) rfl rfl) ?_
  refine g_nil ?_
  refine normal_thn ?_
  refine aw_block ?_
  refine aw_seq ?_
  refine aw_region ?_
  refine g_u (s_assert_no rfl rfl nI193 tZ193 (fun z h => by rw [zv193] at h; cases h; rfl) rfl) ?_
  refine g_u (s_extract rfl rfl rfl rfl) ?_
  refine g_u (s_extract rfl rfl rfl rfl) ?_
  refine g_nil ?_
  refine normal_thn ?_
  refine aw_cond_false rfl ?_
  refine aw_seq ?_
  refine aw_region ?_
  refine g_u (s_assert_no rfl rfl nI194 tZ194 (fun z h => by rw [zv194] at h; cases h; rfl) rfl) ?_
  refine g_u (s_extract rfl rfl rfl rfl) ?_
  refine g_u (s_extract rfl rfl rfl rfl) ?_
  refine g_nil ?_
  refine normal_thn ?_
  refine aw_cond_false rfl ?_
  refine aw_skip ?_
  refine normal_blk ?_
  refine normal_thn ?_
  refine aw_seq ?_
  refine aw_region ?_
  refine g_u (s_load_imm rfl rfl rfl tA57 tS57 rfl rfl) ?_
  refine g_u (s_call1 (json_c v ho hw) rfl rfl) ?_
  refine g_u (s_as_imm rfl rfl) ?_
  refine g_nil ?_
  refine normal_thn ?_
  refine aw_ret ?_
  exact ⟨⟨(rfl : toAV (Al.look _ _) = some _).trans (congrArg some (by (rw [text6 (by omega)]))), rfl⟩, trivial⟩

theorem text_c (v : GV) (ho : v.ok) (hw : v.wt ≤ 10000000) : PCall Tryd.prog Γ0 105 [v.av] [sv (textM v)] := by
  by_cases h6 : v.kind = 6
  · exact text_l v ho hw h6
  by_cases h7 : v.kind = 7
  · exact text_m v ho hw h7
  by_cases hq : v.kind = 1 ∨ v.kind = 4 ∨ v.kind = 5
  · exact text_q v ho hw hq
  · exact text_p v ho hw (by omega)

end Go.Proofs
