/- Texts that the proofs of this claim share, part 7: the abstract logic, plain Lean on values and batches, and walks. No condition but those typed in each lemma. -/
import Derived.RangeFuncLeaves
import Derived.RangeFuncRecord
import Derived.RangeFuncSeq
import Derived.Stop.Asserts
import Derived.Laws.Externs
import Derived.Test.YtiolofgnkkhjoaaGreatDoorQ6
set_option linter.unusedSimpArgs false
set_option linter.unusedVariables false
set_option maxHeartbeats 400000
namespace Go.Proofs
open Go Go.Al
set_option maxRecDepth 10000
set_option maxHeartbeats 4000000 in
theorem eqdE_c (a b : List GE) (fn : FuncId) (hl : a.length ≤ 1000000000) (hf : ∀ x ∈ a, ∀ y : GE, zo Tryz.prog Γ0 fn ([] ++ [x.av, y.av] ++ []) [bv (decide (x = y))]) : zo Tryz.prog Γ0 151 [(.sl 3 (a.map GE.av)), (.sl 3 (b.map GE.av)), .fn (.func fn) [] []] [bv (decide (a = b))] := by
  refine z_ Tryz.func151 rfl Tryz.ntmps151 (by kernel_rfl) rfl fun w0 I0 G0 => ?_
  refine zD <| zB <| g_u (zE rfl rfl) <| zI <| zA <| zD <| zD <| zB <| g_u (zC rfl rfl) <| g_u (zw rfl rfl Tryz.underlying58) <| g_u (zC rfl rfl) <| g_u (zw rfl rfl Tryz.underlying58) <| g_u (wM rfl rfl rfl) <| zI <| zA ?_
  refine zW rfl (fun hb1 => ?_) (fun hb1 => ?_)
  · have q : ¬ a.length = b.length := by have e := bne_iff_ne.1 hb1; simp only [List.length_map] at e; omega
    refine zD <| zB <| g_u (zE rfl rfl) <| zI <| zA <| zL <| zM ?_
    exact ⟨⟨(rfl : toAV (Al.look _ _) = some _).trans (congrArg some (by (exact congrArg bv (by first | exact (decide_eq_false (fun e => q (by rw [e]))).symm | exact (decide_eq_true (zv ge0 el (fun j hj => h2 j (by omega)))).symm)))), rfl⟩, trivial⟩
  · have el : a.length = b.length := by have e := qd.1 hb1; simp only [List.length_map] at e; omega
    refine zY <| zA <| zD <| zD <| zB <| g_u (zC rfl rfl) <| g_u (zw rfl rfl Tryz.underlying58) <| g_u (zC rfl rfl) <| zI <| zA <| zU ?_
    refine zp (fun i : Nat => [(1, .imm (.sl 3 (b.map GE.av))), (2, .imm (.fn (.func fn) [] [])), (15, .imm (.sl 3 (a.map GE.av))), (16, .imm (iv (a.length : Int))), (17, .imm (iv (i : Int)))]) (fun i => i ≤ a.length ∧ ∀ j, j < i → nth a j ge0 = nth b j ge0) (fun i => a.length - i) (0) ?_ ⟨rfl, rfl, rfl, zZ rfl (by rw [List.length_map]), rfl, trivial⟩ ?_
    · exact ⟨Nat.zero_le _, fun j h => absurd h (Nat.not_lt_zero _)⟩
    · rintro i ⟨h1, h2⟩; (try dsimp only at h1 h2)
      refine zD <| zB <| g_u (yb rfl rfl rfl) <| zI <| zA <| zD ?_
      refine zW rfl (fun hb2 => ?_) (fun hb2 => ?_)
      · have hi : i < a.length := by have := of_decide_eq_true hb2; (try simp only [List.length_map] at this); omega
        have hib : i < b.length := by omega
        refine zY <| zA <| zD <| zU <| zD <| zB <| g_u (zC rfl rfl) ?_
        refine g_u (zJ rfl rfl rfl Tryz.underlying58 tS92 (by omega) (ixE hi)) ?_
        refine g_u (zT rfl rfl tA92 tS92 rfl rfl) <| g_uG (zl 1008 rfl rfl rfl tZ92) rfl <| g_u (zE rfl rfl) <| g_u (zK rfl rfl rfl tS92 rfl rfl) <| zI <| zA <| zD <| zB <| g_u (zC rfl rfl) <| g_u (zC rfl rfl) ?_
        refine g_u (zJ rfl rfl rfl Tryz.underlying58 tS92 (by omega) (ixE hib)) ?_
        refine g_u (zT rfl rfl tA92 tS92 rfl rfl) <| g_uG (zl 1009 rfl rfl rfl tZ92) rfl <| g_u (zK rfl rfl rfl tS92 rfl rfl) <| zI <| zA <| zD <| zB <| g_u (zC rfl rfl) <| g_u (zk rfl rfl rfl tA92 tS92 rfl rfl) <| g_u (zk rfl rfl rfl tA92 tS92 rfl rfl) <| g_u (xv (hf _ (xm hi) _) rfl rfl rfl) <| g_u (wZ rfl rfl) <| zI <| zA ?_
        refine zW rfl (fun hb3 => ?_) (fun hb3 => ?_)
        · have q : ¬ nthE a i = nthE b i := fun h => by have e := hb3; rw [decide_eq_true h] at e; cases e
          refine zD <| zB <| g_u (zE rfl rfl) <| zI <| zA <| zL <| zq <| zM <| zM <| zq <| zM ?_
          exact ⟨⟨(rfl : toAV (Al.look _ _) = some _).trans (congrArg some (by (exact congrArg bv (by first | exact (decide_eq_false (fun e => q (by rw [e]))).symm | exact (decide_eq_true (zv ge0 el (fun j hj => h2 j (by omega)))).symm)))), rfl⟩, trivial⟩
        · have ev : nthE a i = nthE b i := by have e := hb3; simpa using e
          refine zY <| zX <| zA <| zB <| g_u (yG rfl rfl rfl) <| g_u (zC rfl rfl) <| zI <| zA ?_
          refine ⟨i + 1, ⟨hi, fun j hj => by rcases Nat.lt_or_ge j i with h | h; exact h2 j h; rw [show j = i by omega]; exact ev⟩, ⟨rfl, rfl, rfl, rfl, zZ rfl (by rw [ze (by omega) (by omega)]; rfl), trivial⟩, by (try dsimp only); omega⟩
      · have hin : i = a.length := by have := of_decide_eq_false hb2; (try simp only [List.length_map] at this); omega
        refine zu <| zR <| zR <| zn <| zA <| zD <| zB <| g_u (zE rfl rfl) <| zI <| zA <| zL ?_
        exact ⟨⟨(rfl : toAV (Al.look _ _) = some _).trans (congrArg some (by (exact congrArg bv (by first | exact (decide_eq_false (fun e => q (by rw [e]))).symm | exact (decide_eq_true (zv ge0 el (fun j hj => h2 j (by omega)))).symm)))), rfl⟩, trivial⟩
set_option maxHeartbeats 4000000 in
theorem eqdL_c (a b : List GL) (fn : FuncId) (hl : a.length ≤ 1000000000) (hf : ∀ x ∈ a, ∀ y : GL, zo Tryz.prog Γ0 fn ([] ++ [x.av, y.av] ++ []) [bv (decide (x = y))]) : zo Tryz.prog Γ0 153 [(.sl 26 (a.map GL.av)), (.sl 26 (b.map GL.av)), .fn (.func fn) [] []] [bv (decide (a = b))] := by
  refine z_ Tryz.func153 rfl Tryz.ntmps153 (by kernel_rfl) rfl fun w0 I0 G0 => ?_
  refine zD <| zB <| g_u (zE rfl rfl) <| zI <| zA <| zD <| zD <| zB <| g_u (zC rfl rfl) <| g_u (zw rfl rfl Tryz.underlying59) <| g_u (zC rfl rfl) <| g_u (zw rfl rfl Tryz.underlying59) <| g_u (wM rfl rfl rfl) <| zI <| zA ?_
  refine zW rfl (fun hb1 => ?_) (fun hb1 => ?_)
  · have q : ¬ a.length = b.length := by have e := bne_iff_ne.1 hb1; simp only [List.length_map] at e; omega
    refine zD <| zB <| g_u (zE rfl rfl) <| zI <| zA <| zL <| zM ?_
    exact ⟨⟨(rfl : toAV (Al.look _ _) = some _).trans (congrArg some (by (exact congrArg bv (by first | exact (decide_eq_false (fun e => q (by rw [e]))).symm | exact (decide_eq_true (zv gl0 el (fun j hj => h2 j (by omega)))).symm)))), rfl⟩, trivial⟩
  · have el : a.length = b.length := by have e := qd.1 hb1; simp only [List.length_map] at e; omega
    refine zY <| zA <| zD <| zD <| zB <| g_u (zC rfl rfl) <| g_u (zw rfl rfl Tryz.underlying59) <| g_u (zC rfl rfl) <| zI <| zA <| zU ?_
    refine zp (fun i : Nat => [(1, .imm (.sl 26 (b.map GL.av))), (2, .imm (.fn (.func fn) [] [])), (15, .imm (.sl 26 (a.map GL.av))), (16, .imm (iv (a.length : Int))), (17, .imm (iv (i : Int)))]) (fun i => i ≤ a.length ∧ ∀ j, j < i → nth a j gl0 = nth b j gl0) (fun i => a.length - i) (0) ?_ ⟨rfl, rfl, rfl, zZ rfl (by rw [List.length_map]), rfl, trivial⟩ ?_
    · exact ⟨Nat.zero_le _, fun j h => absurd h (Nat.not_lt_zero _)⟩
    · rintro i ⟨h1, h2⟩; (try dsimp only at h1 h2)
      refine zD <| zB <| g_u (yb rfl rfl rfl) <| zI <| zA <| zD ?_
      refine zW rfl (fun hb2 => ?_) (fun hb2 => ?_)
      · have hi : i < a.length := by have := of_decide_eq_true hb2; (try simp only [List.length_map] at this); omega
        have hib : i < b.length := by omega
        refine zY <| zA <| zD <| zU <| zD <| zB <| g_u (zC rfl rfl) ?_
        refine g_u (zJ rfl rfl rfl Tryz.underlying59 tS94 (by omega) (ixL hi)) ?_
        refine g_u (zT rfl rfl tA94 tS94 rfl (by first | exact xP (GL.width _) rfl | rfl)) ?_
        refine g_uG (zl 1008 rfl rfl rfl tZ94) rfl <| g_u (zE rfl rfl) ?_
        refine g_u (zK rfl rfl rfl tS94 (by first | exact beqW (GL.width _) | rfl) (by first | exact xy (z94_w.trans (GL.width _).symm) rfl | rfl)) ?_
        refine zI <| zA <| zD <| zB <| g_u (zC rfl rfl) <| g_u (zC rfl rfl) ?_
        refine g_u (zJ rfl rfl rfl Tryz.underlying59 tS94 (by omega) (ixL hib)) ?_
        refine g_u (zT rfl rfl tA94 tS94 rfl (by first | exact xP (GL.width _) rfl | rfl)) ?_
        refine g_uG (zl 1009 rfl rfl rfl tZ94) rfl ?_
        refine g_u (zK rfl rfl rfl tS94 (by first | exact beqW (GL.width _) | rfl) (by first | exact xy (z94_w.trans (GL.width _).symm) rfl | rfl)) ?_
        refine zI <| zA <| zD <| zB <| g_u (zC rfl rfl) ?_
        refine g_u (zG rfl rfl rfl tA94 tS94 rfl (by first | exact xP (GL.width _) rfl | rfl)) ?_
        refine g_u (zG rfl rfl rfl tA94 tS94 rfl (by first | exact xP (GL.width _) rfl | rfl)) ?_
        refine g_u (xv (hf _ (nthL_mem hi) _) rfl rfl rfl) <| g_u (wZ rfl rfl) <| zI <| zA ?_
        refine zW rfl (fun hb3 => ?_) (fun hb3 => ?_)
        · have q : ¬ nthL a i = nthL b i := fun h => by have e := hb3; rw [decide_eq_true h] at e; cases e
          refine zD <| zB <| g_u (zE rfl rfl) <| zI <| zA <| zL <| zq <| zM <| zM <| zq <| zM ?_
          exact ⟨⟨(rfl : toAV (Al.look _ _) = some _).trans (congrArg some (by (exact congrArg bv (by first | exact (decide_eq_false (fun e => q (by rw [e]))).symm | exact (decide_eq_true (zv gl0 el (fun j hj => h2 j (by omega)))).symm)))), rfl⟩, trivial⟩
        · have ev : nthL a i = nthL b i := by have e := hb3; simpa using e
          refine zY <| zX <| zA <| zB <| g_u (yG rfl rfl rfl) <| g_u (zC rfl rfl) <| zI <| zA ?_
          refine ⟨i + 1, ⟨hi, fun j hj => by rcases Nat.lt_or_ge j i with h | h; exact h2 j h; rw [show j = i by omega]; exact ev⟩, ⟨rfl, rfl, rfl, rfl, zZ rfl (by rw [ze (by omega) (by omega)]; rfl), trivial⟩, by (try dsimp only); omega⟩
      · have hin : i = a.length := by have := of_decide_eq_false hb2; (try simp only [List.length_map] at this); omega
        refine zu <| zR <| zR <| zn <| zA <| zD <| zB <| g_u (zE rfl rfl) <| zI <| zA <| zL ?_
        exact ⟨⟨(rfl : toAV (Al.look _ _) = some _).trans (congrArg some (by (exact congrArg bv (by first | exact (decide_eq_false (fun e => q (by rw [e]))).symm | exact (decide_eq_true (zv gl0 el (fun j hj => h2 j (by omega)))).symm)))), rfl⟩, trivial⟩
theorem sameE_c (a b : GE) (hw : wtAs a.attrs ≤ 1000000000) : zo Tryz.prog Γ0 152 [a.av, b.av] [bv (decide (a = b))] := by
  refine z_ Tryz.func152 rfl Tryz.ntmps152 (by kernel_rfl) rfl fun w0 I0 G0 => ?_
  refine zD <| zB <| g_uG (zi 1002 rfl rfl rfl rfl) rfl <| g_uG (zi 1003 rfl rfl rfl rfl) rfl <| g_u (zE rfl rfl) <| zI <| zA <| zD <| zB <| g_u (zF rfl rfl fa92_0 rfl) <| g_u (zG rfl rfl rfl tA57 tS57 rfl rfl) <| g_u (zF rfl rfl fa92_0 rfl) <| g_u (zG rfl rfl rfl tA57 tS57 rfl rfl) <| g_u (y6 rfl rfl rfl) <| g_u (zC rfl rfl) <| z0 (t := 10) rfl ?_
  rintro (hb1 | hb1)
  · rw [hb1]
    have f1 : a.time = b.time := beq_iff_eq.1 hb1
    refine zN rfl rfl (zF rfl rfl fa92_1 rfl) <| zN rfl rfl (zG rfl rfl rfl tA9 tS9 rfl rfl) <| zN rfl rfl (zF rfl rfl fa92_1 rfl) <| zN rfl rfl (zG rfl rfl rfl tA9 tS9 rfl rfl) <| zN rfl rfl (s_eqS rfl rfl rfl) <| g_u (zQ rfl rfl rfl) <| g_u (zC rfl rfl) <| z0 (t := 17) rfl ?_
    rintro (hb2 | hb2)
    · rw [hb2]
      have f2 : a.name = b.name := by have e := hb2; rw [yN] at e; simpa using e
      refine zN rfl rfl (zF rfl rfl fa92_2 rfl) <| zN rfl rfl (zG rfl rfl rfl tA44 tS44 rfl rfl) <| zN rfl rfl (zF rfl rfl fa92_2 rfl) <| zN rfl rfl (zG rfl rfl rfl tA44 tS44 rfl rfl) ?_
      refine zN rfl rfl (zP (psameAs_c _ _ (by omega)) rfl rfl) ?_
      refine g_u (zQ rfl rfl rfl) <| g_u (zE rfl rfl) <| zI <| zA <| zL ?_
      exact ⟨⟨(rfl : toAV (Al.look _ _) = some _).trans (congrArg some (by (exact congrArg bv (by first | exact (decide_eq_false (fun e => q (by rw [e]))).symm | (rw [Bool.eq_iff_iff, ya, decide_eq_true_iff]; exact ⟨fun h => GE.ext' f1 f2 h, fun h => by rw [h]⟩))))), rfl⟩, trivial⟩
    · rw [hb2]
      have q : ¬ a.name = b.name := by have e := hb2; rw [yN] at e; simpa using e
      refine zH rfl rfl rfl <| zH rfl rfl rfl <| zH rfl rfl rfl <| zH rfl rfl rfl <| zH rfl rfl rfl <| g_u (zh rfl rfl rfl) <| g_u (zE rfl rfl) <| zI <| zA <| zL ?_
      exact ⟨⟨(rfl : toAV (Al.look _ _) = some _).trans (congrArg some (by (exact congrArg bv (by first | exact (decide_eq_false (fun e => q (by rw [e]))).symm | (rw [Bool.eq_iff_iff, ya, decide_eq_true_iff]; exact ⟨fun h => GE.ext' f1 f2 h, fun h => by rw [h]⟩))))), rfl⟩, trivial⟩
  · rw [hb1]
    have q : ¬ a.time = b.time := qe.1 hb1
    refine zH rfl rfl rfl <| zH rfl rfl rfl <| zH rfl rfl rfl <| zH rfl rfl rfl <| zH rfl rfl rfl <| g_u (zh rfl rfl rfl) <| g_u (zC rfl rfl) <| zH rfl rfl rfl <| zH rfl rfl rfl <| zH rfl rfl rfl <| zH rfl rfl rfl <| zH rfl rfl rfl <| g_u (zh rfl rfl rfl) <| g_u (zE rfl rfl) <| zI <| zA <| zL ?_
    exact ⟨⟨(rfl : toAV (Al.look _ _) = some _).trans (congrArg some (by (exact congrArg bv (by first | exact (decide_eq_false (fun e => q (by rw [e]))).symm | (rw [Bool.eq_iff_iff, ya, decide_eq_true_iff]; exact ⟨fun h => GE.ext' f1 f2 h, fun h => by rw [h]⟩))))), rfl⟩, trivial⟩
set_option maxHeartbeats 1000000 in
theorem sameL_c (a b : GL) (hw : wtAs a.attrs ≤ 1000000000) : zo Tryz.prog Γ0 154 [a.av, b.av] [bv (decide (a = b))] := by
  refine z_ Tryz.func154 rfl Tryz.ntmps154 (by kernel_rfl) rfl fun w0 I0 G0 => ?_
  refine zD <| zB <| g_uG (zi 1002 rfl rfl rfl rfl) rfl <| g_uG (zi 1003 rfl rfl rfl rfl) rfl <| g_u (zE rfl rfl) <| zI <| zA <| zD <| zB <| g_u (zF rfl rfl fa94_0 rfl) <| g_u (zG rfl rfl rfl tA54 tS54 rfl rfl) <| g_u (zF rfl rfl fa94_0 rfl) <| g_u (zG rfl rfl rfl tA54 tS54 rfl rfl) <| g_u (s_eqA rfl rfl rfl eg54 rfl rfl (eq54 _ _)) <| g_u (zC rfl rfl) <| z0 (t := 10) rfl ?_
  rintro (hb1 | hb1)
  · rw [hb1]
    have g1 : a.trace = b.trace := by have e := hb1; simpa using e
    refine zN rfl rfl (zF rfl rfl fa94_1 rfl) <| zN rfl rfl (zG rfl rfl rfl tA56 tS56 rfl rfl) <| zN rfl rfl (zF rfl rfl fa94_1 rfl) <| zN rfl rfl (zG rfl rfl rfl tA56 tS56 rfl rfl) <| zN rfl rfl (s_eqA rfl rfl rfl eg56 rfl rfl (eq56 _ _)) <| g_u (zQ rfl rfl rfl) <| g_u (zC rfl rfl) <| z0 (t := 17) rfl ?_
    rintro (hb2 | hb2)
    · rw [hb2]
      have g2 : a.span = b.span := by have e := hb2; simpa using e
      refine zN rfl rfl (zF rfl rfl fa94_2 rfl) <| zN rfl rfl (zG rfl rfl rfl tA9 tS9 rfl rfl) <| zN rfl rfl (zF rfl rfl fa94_2 rfl) <| zN rfl rfl (zG rfl rfl rfl tA9 tS9 rfl rfl) <| zN rfl rfl (s_eqS rfl rfl rfl) <| g_u (zQ rfl rfl rfl) <| g_u (zC rfl rfl) <| z0 (t := 24) rfl ?_
      rintro (hb3 | hb3)
      · rw [hb3]
        have g3 : a.state = b.state := by have e := hb3; rw [yN] at e; simpa using e
        refine zN rfl rfl (zF rfl rfl fa94_3 rfl) <| zN rfl rfl (zG rfl rfl rfl tA44 tS44 rfl rfl) <| zN rfl rfl (zF rfl rfl fa94_3 rfl) <| zN rfl rfl (zG rfl rfl rfl tA44 tS44 rfl rfl) ?_
        refine zN rfl rfl (zP (psameAs_c _ _ (by omega)) rfl rfl) ?_
        refine g_u (zQ rfl rfl rfl) <| g_u (zE rfl rfl) <| zI <| zA <| zL ?_
        exact ⟨⟨(rfl : toAV (Al.look _ _) = some _).trans (congrArg some (by (exact congrArg bv (by first | exact (decide_eq_false (fun e => q (by rw [e]))).symm | (rw [Bool.eq_iff_iff, ya, decide_eq_true_iff]; exact ⟨fun h => GL.ext' g1 g2 g3 h, fun h => by rw [h]⟩))))), rfl⟩, trivial⟩
      · rw [hb3]
        have q : ¬ a.state = b.state := by have e := hb3; rw [yN] at e; simpa using e
        refine zH rfl rfl rfl <| zH rfl rfl rfl <| zH rfl rfl rfl <| zH rfl rfl rfl <| zH rfl rfl rfl <| g_u (zh rfl rfl rfl) <| g_u (zE rfl rfl) <| zI <| zA <| zL ?_
        exact ⟨⟨(rfl : toAV (Al.look _ _) = some _).trans (congrArg some (by (exact congrArg bv (by first | exact (decide_eq_false (fun e => q (by rw [e]))).symm | (rw [Bool.eq_iff_iff, ya, decide_eq_true_iff]; exact ⟨fun h => GL.ext' g1 g2 g3 h, fun h => by rw [h]⟩))))), rfl⟩, trivial⟩
    · rw [hb2]
      have q : ¬ a.span = b.span := by have e := hb2; simpa using e
      refine zH rfl rfl rfl <| zH rfl rfl rfl <| zH rfl rfl rfl <| zH rfl rfl rfl <| zH rfl rfl rfl <| g_u (zh rfl rfl rfl) <| g_u (zC rfl rfl) <| zH rfl rfl rfl <| zH rfl rfl rfl <| zH rfl rfl rfl <| zH rfl rfl rfl <| zH rfl rfl rfl <| g_u (zh rfl rfl rfl) <| g_u (zE rfl rfl) <| zI <| zA <| zL ?_
      exact ⟨⟨(rfl : toAV (Al.look _ _) = some _).trans (congrArg some (by (exact congrArg bv (by first | exact (decide_eq_false (fun e => q (by rw [e]))).symm | (rw [Bool.eq_iff_iff, ya, decide_eq_true_iff]; exact ⟨fun h => GL.ext' g1 g2 g3 h, fun h => by rw [h]⟩))))), rfl⟩, trivial⟩
  · rw [hb1]
    have q : ¬ a.trace = b.trace := by have e := hb1; simpa using e
    refine zH rfl rfl rfl <| zH rfl rfl rfl <| zH rfl rfl rfl <| zH rfl rfl rfl <| zH rfl rfl rfl <| g_u (zh rfl rfl rfl) <| g_u (zC rfl rfl) <| zH rfl rfl rfl <| zH rfl rfl rfl <| zH rfl rfl rfl <| zH rfl rfl rfl <| zH rfl rfl rfl <| g_u (zh rfl rfl rfl) <| g_u (zC rfl rfl) <| zH rfl rfl rfl <| zH rfl rfl rfl <| zH rfl rfl rfl <| zH rfl rfl rfl <| zH rfl rfl rfl <| g_u (zh rfl rfl rfl) <| g_u (zE rfl rfl) <| zI <| zA <| zL ?_
    exact ⟨⟨(rfl : toAV (Al.look _ _) = some _).trans (congrArg some (by (exact congrArg bv (by first | exact (decide_eq_false (fun e => q (by rw [e]))).symm | (rw [Bool.eq_iff_iff, ya, decide_eq_true_iff]; exact ⟨fun h => GL.ext' g1 g2 g3 h, fun h => by rw [h]⟩))))), rfl⟩, trivial⟩
set_option maxHeartbeats 8000000 in
theorem psameS_c (a b : GSpan) (hw : a.wt ≤ 1000000000) : zo Tryz.prog Γ0 133 [a.av, b.av] [bv (decide (a = b))] := by
  have qw : a.wt = 1 + a.state.size + a.name.size + a.note.size + wtAs a.attrs + z7 GE.wt a.events + z7 GL.wt a.links := rfl
  have ql := yR GE.wt (fun e => by unfold GE.wt; omega) a.events
  have qm := yR GL.wt (fun e => by unfold GL.wt; omega) a.links
  refine z_ Tryz.func133 rfl Tryz.ntmps133 (by kernel_rfl) rfl fun w0 I0 G0 => ?_
  refine zD <| zB <| g_uG (zi 1002 rfl rfl rfl rfl) rfl <| g_uG (zi 1003 rfl rfl rfl rfl) rfl <| g_u (zE rfl rfl) <| zI <| zA <| zD <| zB <| g_u (zF rfl rfl fa63_0 rfl) <| g_u (zG rfl rfl rfl tA54 tS54 rfl rfl) <| g_u (zF rfl rfl fa63_0 rfl) <| g_u (zG rfl rfl rfl tA54 tS54 rfl rfl) <| g_u (s_eqA rfl rfl rfl eg54 rfl rfl (eq54 _ _)) <| g_u (zC rfl rfl) <| z0 (t := 11) rfl ?_
  rintro (hb1 | hb1)
  · rw [hb1]
    have e0 : a.trace = b.trace := by have e := hb1; simpa using e
    refine zN rfl rfl (zF rfl rfl fa63_1 rfl) <| zN rfl rfl (zG rfl rfl rfl tA56 tS56 rfl rfl) <| zN rfl rfl (zF rfl rfl fa63_1 rfl) <| zN rfl rfl (zG rfl rfl rfl tA56 tS56 rfl rfl) <| zN rfl rfl (s_eqA rfl rfl rfl eg56 rfl rfl (eq56 _ _)) <| g_u (zQ rfl rfl rfl) <| g_u (zC rfl rfl) <| z0 (t := 18) rfl ?_
    rintro (hb2 | hb2)
    · rw [hb2]
      have e1 : a.id = b.id := by have e := hb2; simpa using e
      refine zN rfl rfl (zF rfl rfl fa63_2 rfl) <| zN rfl rfl (zG rfl rfl rfl tA56 tS56 rfl rfl) <| zN rfl rfl (zF rfl rfl fa63_2 rfl) <| zN rfl rfl (zG rfl rfl rfl tA56 tS56 rfl rfl) <| zN rfl rfl (s_eqA rfl rfl rfl eg56 rfl rfl (eq56 _ _)) <| g_u (zQ rfl rfl rfl) <| g_u (zC rfl rfl) <| z0 (t := 25) rfl ?_
      rintro (hb3 | hb3)
      · rw [hb3]
        have e2 : a.parent = b.parent := by have e := hb3; simpa using e
        refine zN rfl rfl (zF rfl rfl fa63_3 rfl) <| zN rfl rfl (zG rfl rfl rfl tA9 tS9 rfl rfl) <| zN rfl rfl (zF rfl rfl fa63_3 rfl) <| zN rfl rfl (zG rfl rfl rfl tA9 tS9 rfl rfl) <| zN rfl rfl (s_eqS rfl rfl rfl) <| g_u (zQ rfl rfl rfl) <| g_u (zC rfl rfl) <| z0 (t := 32) rfl ?_
        rintro (hb4 | hb4)
        · rw [hb4]
          have e3 : a.state = b.state := by have e := hb4; rw [yN] at e; simpa using e
          refine zN rfl rfl (zF rfl rfl fa63_4 rfl) <| zN rfl rfl (zG rfl rfl rfl tA9 tS9 rfl rfl) <| zN rfl rfl (zF rfl rfl fa63_4 rfl) <| zN rfl rfl (zG rfl rfl rfl tA9 tS9 rfl rfl) <| zN rfl rfl (s_eqS rfl rfl rfl) <| g_u (zQ rfl rfl rfl) <| g_u (zE rfl rfl) <| zI <| zA <| zD <| zD <| zB <| g_u (zC rfl rfl) <| g_u (wZ rfl rfl) <| g_u (zC rfl rfl) <| z0 (t := 41) rfl ?_
          rintro (hb5 | hb5)
          · rw [hb5]
            have q : ¬ a.name = b.name := by have e := hb5; rw [yN] at e; simpa using e
            refine zH rfl rfl rfl <| zH rfl rfl rfl <| zH rfl rfl rfl <| zH rfl rfl rfl <| zH rfl rfl rfl <| g_u (zQ rfl rfl rfl) <| g_u (zC rfl rfl) <| zH rfl rfl rfl <| zH rfl rfl rfl <| zH rfl rfl rfl <| zH rfl rfl rfl <| zH rfl rfl rfl <| g_u (zQ rfl rfl rfl) <| g_u (zC rfl rfl) <| zH rfl rfl rfl <| zH rfl rfl rfl <| zH rfl rfl rfl <| zH rfl rfl rfl <| zH rfl rfl rfl <| g_u (zQ rfl rfl rfl) <| g_u (zC rfl rfl) <| zH rfl rfl rfl <| zH rfl rfl rfl <| zH rfl rfl rfl <| zH rfl rfl rfl <| zH rfl rfl rfl <| g_u (zQ rfl rfl rfl) <| g_u (zC rfl rfl) <| zH rfl rfl rfl <| zH rfl rfl rfl <| zH rfl rfl rfl <| zH rfl rfl rfl <| zH rfl rfl rfl <| zH rfl rfl rfl <| g_u (zQ rfl rfl rfl) <| zI <| zA <| zg rfl <| zD <| zB <| g_u (zE rfl rfl) <| zI <| zA <| zL <| zM ?_
            exact ⟨⟨(rfl : toAV (Al.look _ _) = some _).trans (congrArg some (by (exact congrArg bv (by first | exact (decide_eq_false (fun e => q ⟨congrArg GSpan.code e, congrArg GSpan.note e⟩)).symm | exact (decide_eq_false (fun e => q (by rw [e]))).symm | (rw [Bool.eq_iff_iff, decide_eq_true_iff, decide_eq_true_iff]; exact ⟨fun h => GSpan.ext' e0 e1 e2 e3 e4 e5 e6 e7 e9 e10 h e8.1 e8.2, fun h => by rw [h]⟩))))), rfl⟩, trivial⟩
          · rw [hb5]
            have e4 : a.name = b.name := by have e := hb5; rw [yN] at e; simpa using e
            refine zN rfl rfl (zF rfl rfl fa63_5 rfl) <| zN rfl rfl (zG rfl rfl rfl tA3 tS3 rfl rfl) <| zN rfl rfl (zF rfl rfl fa63_5 rfl) <| zN rfl rfl (zG rfl rfl rfl tA3 tS3 rfl rfl) <| zN rfl rfl (wM rfl rfl rfl) <| g_u (zh rfl rfl rfl) <| g_u (zC rfl rfl) <| z0 (t := 48) rfl ?_
            rintro (hb6 | hb6)
            · rw [hb6]
              have q : ¬ a.kind = b.kind := bne_iff_ne.1 hb6
              refine zH rfl rfl rfl <| zH rfl rfl rfl <| zH rfl rfl rfl <| zH rfl rfl rfl <| zH rfl rfl rfl <| g_u (zQ rfl rfl rfl) <| g_u (zC rfl rfl) <| zH rfl rfl rfl <| zH rfl rfl rfl <| zH rfl rfl rfl <| zH rfl rfl rfl <| zH rfl rfl rfl <| g_u (zQ rfl rfl rfl) <| g_u (zC rfl rfl) <| zH rfl rfl rfl <| zH rfl rfl rfl <| zH rfl rfl rfl <| zH rfl rfl rfl <| zH rfl rfl rfl <| g_u (zQ rfl rfl rfl) <| g_u (zC rfl rfl) <| zH rfl rfl rfl <| zH rfl rfl rfl <| zH rfl rfl rfl <| zH rfl rfl rfl <| zH rfl rfl rfl <| zH rfl rfl rfl <| g_u (zQ rfl rfl rfl) <| zI <| zA <| zg rfl <| zD <| zB <| g_u (zE rfl rfl) <| zI <| zA <| zL <| zM ?_
              exact ⟨⟨(rfl : toAV (Al.look _ _) = some _).trans (congrArg some (by (exact congrArg bv (by first | exact (decide_eq_false (fun e => q ⟨congrArg GSpan.code e, congrArg GSpan.note e⟩)).symm | exact (decide_eq_false (fun e => q (by rw [e]))).symm | (rw [Bool.eq_iff_iff, decide_eq_true_iff, decide_eq_true_iff]; exact ⟨fun h => GSpan.ext' e0 e1 e2 e3 e4 e5 e6 e7 e9 e10 h e8.1 e8.2, fun h => by rw [h]⟩))))), rfl⟩, trivial⟩
            · rw [hb6]
              have e5 : a.kind = b.kind := qd.1 hb6
              refine zN rfl rfl (zF rfl rfl fa63_6 rfl) <| zN rfl rfl (zG rfl rfl rfl tA57 tS57 rfl rfl) <| zN rfl rfl (zF rfl rfl fa63_6 rfl) <| zN rfl rfl (zG rfl rfl rfl tA57 tS57 rfl rfl) <| zN rfl rfl (wM rfl rfl rfl) <| g_u (zh rfl rfl rfl) <| g_u (zC rfl rfl) <| z0 (t := 55) rfl ?_
              rintro (hb7 | hb7)
              · rw [hb7]
                have q : ¬ a.start = b.start := bne_iff_ne.1 hb7
                refine zH rfl rfl rfl <| zH rfl rfl rfl <| zH rfl rfl rfl <| zH rfl rfl rfl <| zH rfl rfl rfl <| g_u (zQ rfl rfl rfl) <| g_u (zC rfl rfl) <| zH rfl rfl rfl <| zH rfl rfl rfl <| zH rfl rfl rfl <| zH rfl rfl rfl <| zH rfl rfl rfl <| g_u (zQ rfl rfl rfl) <| g_u (zC rfl rfl) <| zH rfl rfl rfl <| zH rfl rfl rfl <| zH rfl rfl rfl <| zH rfl rfl rfl <| zH rfl rfl rfl <| zH rfl rfl rfl <| g_u (zQ rfl rfl rfl) <| zI <| zA <| zg rfl <| zD <| zB <| g_u (zE rfl rfl) <| zI <| zA <| zL <| zM ?_
                exact ⟨⟨(rfl : toAV (Al.look _ _) = some _).trans (congrArg some (by (exact congrArg bv (by first | exact (decide_eq_false (fun e => q ⟨congrArg GSpan.code e, congrArg GSpan.note e⟩)).symm | exact (decide_eq_false (fun e => q (by rw [e]))).symm | (rw [Bool.eq_iff_iff, decide_eq_true_iff, decide_eq_true_iff]; exact ⟨fun h => GSpan.ext' e0 e1 e2 e3 e4 e5 e6 e7 e9 e10 h e8.1 e8.2, fun h => by rw [h]⟩))))), rfl⟩, trivial⟩
              · rw [hb7]
                have e6 : a.start = b.start := qd.1 hb7
                refine zN rfl rfl (zF rfl rfl fa63_7 rfl) <| zN rfl rfl (zG rfl rfl rfl tA57 tS57 rfl rfl) <| zN rfl rfl (zF rfl rfl fa63_7 rfl) <| zN rfl rfl (zG rfl rfl rfl tA57 tS57 rfl rfl) <| zN rfl rfl (wM rfl rfl rfl) <| g_u (zh rfl rfl rfl) <| g_u (zC rfl rfl) <| z0 (t := 62) rfl ?_
                rintro (hb8 | hb8)
                · rw [hb8]
                  have q : ¬ a.fin = b.fin := bne_iff_ne.1 hb8
                  refine zH rfl rfl rfl <| zH rfl rfl rfl <| zH rfl rfl rfl <| zH rfl rfl rfl <| zH rfl rfl rfl <| g_u (zQ rfl rfl rfl) <| g_u (zC rfl rfl) <| zH rfl rfl rfl <| zH rfl rfl rfl <| zH rfl rfl rfl <| zH rfl rfl rfl <| zH rfl rfl rfl <| zH rfl rfl rfl <| g_u (zQ rfl rfl rfl) <| zI <| zA <| zg rfl <| zD <| zB <| g_u (zE rfl rfl) <| zI <| zA <| zL <| zM ?_
                  exact ⟨⟨(rfl : toAV (Al.look _ _) = some _).trans (congrArg some (by (exact congrArg bv (by first | exact (decide_eq_false (fun e => q ⟨congrArg GSpan.code e, congrArg GSpan.note e⟩)).symm | exact (decide_eq_false (fun e => q (by rw [e]))).symm | (rw [Bool.eq_iff_iff, decide_eq_true_iff, decide_eq_true_iff]; exact ⟨fun h => GSpan.ext' e0 e1 e2 e3 e4 e5 e6 e7 e9 e10 h e8.1 e8.2, fun h => by rw [h]⟩))))), rfl⟩, trivial⟩
                · rw [hb8]
                  have e7 : a.fin = b.fin := qd.1 hb8
                  refine zN rfl rfl (zF rfl rfl fa63_11 rfl) <| zN rfl rfl (zG rfl rfl rfl tA61 tS61 rfl rfl) <| zN rfl rfl (zF rfl rfl fa63_11 rfl) <| zN rfl rfl (zG rfl rfl rfl tA61 tS61 rfl rfl) <| zN rfl rfl (s_neA rfl rfl rfl eg61 rfl rfl (eq61 _ _ _ _)) <| g_u (zh rfl rfl rfl) <| g_u (zC rfl rfl) <| z0 (t := 69) rfl ?_
                  rintro (hb9 | hb9)
                  · rw [hb9]
                    have q : ¬ (a.code = b.code ∧ a.note = b.note) := fun h => by have e := hb9; rw [yN, h.1, h.2] at e; simp at e
                    refine zH rfl rfl rfl <| zH rfl rfl rfl <| zH rfl rfl rfl <| zH rfl rfl rfl <| zH rfl rfl rfl <| zH rfl rfl rfl <| g_u (zQ rfl rfl rfl) <| zI <| zA <| zg rfl <| zD <| zB <| g_u (zE rfl rfl) <| zI <| zA <| zL <| zM ?_
                    exact ⟨⟨(rfl : toAV (Al.look _ _) = some _).trans (congrArg some (by (exact congrArg bv (by first | exact (decide_eq_false (fun e => q ⟨congrArg GSpan.code e, congrArg GSpan.note e⟩)).symm | exact (decide_eq_false (fun e => q (by rw [e]))).symm | (rw [Bool.eq_iff_iff, decide_eq_true_iff, decide_eq_true_iff]; exact ⟨fun h => GSpan.ext' e0 e1 e2 e3 e4 e5 e6 e7 e9 e10 h e8.1 e8.2, fun h => by rw [h]⟩))))), rfl⟩, trivial⟩
                  · rw [hb9]
                    have e8 : a.code = b.code ∧ a.note = b.note := by have e := hb9; rw [yN] at e; simpa using e
                    refine zN rfl rfl (zF rfl rfl wy rfl) <| zN rfl rfl (zG rfl rfl rfl tA44 tS44 rfl rfl) <| zN rfl rfl (zF rfl rfl wy rfl) <| zN rfl rfl (zG rfl rfl rfl tA44 tS44 rfl rfl) ?_
                    refine zN rfl rfl (zP (psameAs_c a.attrs b.attrs (by omega)) rfl rfl) ?_
                    refine zN rfl rfl (wZ rfl rfl) <| g_u (zh rfl rfl rfl) <| zI <| zA ?_
                    refine zW rfl (fun hb10 => ?_) (fun hb10 => ?_)
                    · have q : ¬ a.attrs = b.attrs := fun h => by have e := hb10; rw [h, sameAs_refl] at e; cases e
                      refine zD <| zB <| g_u (zE rfl rfl) <| zI <| zA <| zL <| zM ?_
                      exact ⟨⟨(rfl : toAV (Al.look _ _) = some _).trans (congrArg some (by (exact congrArg bv (by first | exact (decide_eq_false (fun e => q ⟨congrArg GSpan.code e, congrArg GSpan.note e⟩)).symm | exact (decide_eq_false (fun e => q (by rw [e]))).symm | (rw [Bool.eq_iff_iff, decide_eq_true_iff, decide_eq_true_iff]; exact ⟨fun h => GSpan.ext' e0 e1 e2 e3 e4 e5 e6 e7 e9 e10 h e8.1 e8.2, fun h => by rw [h]⟩))))), rfl⟩, trivial⟩
                    · have e9 : a.attrs = b.attrs := (ya _ _).1 (by have e := hb10; simpa using e)
                      refine zY <| zA <| zD <| zB <| g_u (zF rfl rfl yw rfl) <| g_u (zG rfl rfl rfl tA58 tS58 rfl rfl) <| g_u (zF rfl rfl yw rfl) <| g_u (zG rfl rfl rfl tA58 tS58 rfl rfl) ?_
                      refine g_u (zP (eqdE_c a.events b.events 152 (by omega) (fun x hx y => sameE_c x y (by have h5 := yD GE.wt hx; have h6 : x.wt = 1 + x.name.size + wtAs x.attrs := rfl; omega))) rfl rfl) ?_
                      refine g_u (zC rfl rfl) <| z0 (t := 82) rfl ?_
                      rintro (hb11 | hb11)
                      · rw [hb11]
                        have e10 : a.events = b.events := of_decide_eq_true hb11
                        refine zN rfl rfl (zF rfl rfl yy rfl) <| zN rfl rfl (zG rfl rfl rfl tA59 tS59 rfl rfl) <| zN rfl rfl (zF rfl rfl yy rfl) <| zN rfl rfl (zG rfl rfl rfl tA59 tS59 rfl rfl) ?_
                        refine zN rfl rfl (zP (eqdL_c a.links b.links 154 (by omega) (fun x hx y => sameL_c x y (by have h5 := yD GL.wt hx; have h6 : x.wt = 1 + x.state.size + wtAs x.attrs := rfl; omega))) rfl rfl) ?_
                        refine g_u (zQ rfl rfl rfl) <| g_u (zE rfl rfl) <| zI <| zA <| zL ?_
                        exact ⟨⟨(rfl : toAV (Al.look _ _) = some _).trans (congrArg some (by (exact congrArg bv (by first | exact (decide_eq_false (fun e => q ⟨congrArg GSpan.code e, congrArg GSpan.note e⟩)).symm | exact (decide_eq_false (fun e => q (by rw [e]))).symm | (rw [Bool.eq_iff_iff, decide_eq_true_iff, decide_eq_true_iff]; exact ⟨fun h => GSpan.ext' e0 e1 e2 e3 e4 e5 e6 e7 e9 e10 h e8.1 e8.2, fun h => by rw [h]⟩))))), rfl⟩, trivial⟩
                      · rw [hb11]
                        have q : ¬ a.events = b.events := of_decide_eq_false hb11
                        refine zH rfl rfl rfl <| zH rfl rfl rfl <| zH rfl rfl rfl <| zH rfl rfl rfl <| zH rfl rfl rfl <| g_u (zh rfl rfl rfl) <| g_u (zE rfl rfl) <| zI <| zA <| zL ?_
                        exact ⟨⟨(rfl : toAV (Al.look _ _) = some _).trans (congrArg some (by (exact congrArg bv (by first | exact (decide_eq_false (fun e => q ⟨congrArg GSpan.code e, congrArg GSpan.note e⟩)).symm | exact (decide_eq_false (fun e => q (by rw [e]))).symm | (rw [Bool.eq_iff_iff, decide_eq_true_iff, decide_eq_true_iff]; exact ⟨fun h => GSpan.ext' e0 e1 e2 e3 e4 e5 e6 e7 e9 e10 h e8.1 e8.2, fun h => by rw [h]⟩))))), rfl⟩, trivial⟩
        · rw [hb4]
          have q : ¬ a.state = b.state := by have e := hb4; rw [yN] at e; simpa using e
          refine zH rfl rfl rfl <| zH rfl rfl rfl <| zH rfl rfl rfl <| zH rfl rfl rfl <| zH rfl rfl rfl <| g_u (zh rfl rfl rfl) <| g_u (zE rfl rfl) <| zI <| zA <| zD <| zD <| zB <| g_u (zC rfl rfl) <| g_u (wZ rfl rfl) <| g_u (zC rfl rfl) <| zH rfl rfl rfl <| zH rfl rfl rfl <| zH rfl rfl rfl <| zH rfl rfl rfl <| zH rfl rfl rfl <| g_u (zQ rfl rfl rfl) <| g_u (zC rfl rfl) <| zH rfl rfl rfl <| zH rfl rfl rfl <| zH rfl rfl rfl <| zH rfl rfl rfl <| zH rfl rfl rfl <| g_u (zQ rfl rfl rfl) <| g_u (zC rfl rfl) <| zH rfl rfl rfl <| zH rfl rfl rfl <| zH rfl rfl rfl <| zH rfl rfl rfl <| zH rfl rfl rfl <| g_u (zQ rfl rfl rfl) <| g_u (zC rfl rfl) <| zH rfl rfl rfl <| zH rfl rfl rfl <| zH rfl rfl rfl <| zH rfl rfl rfl <| zH rfl rfl rfl <| g_u (zQ rfl rfl rfl) <| g_u (zC rfl rfl) <| zH rfl rfl rfl <| zH rfl rfl rfl <| zH rfl rfl rfl <| zH rfl rfl rfl <| zH rfl rfl rfl <| zH rfl rfl rfl <| g_u (zQ rfl rfl rfl) <| zI <| zA <| zg rfl <| zD <| zB <| g_u (zE rfl rfl) <| zI <| zA <| zL <| zM ?_
          exact ⟨⟨(rfl : toAV (Al.look _ _) = some _).trans (congrArg some (by (exact congrArg bv (by first | exact (decide_eq_false (fun e => q ⟨congrArg GSpan.code e, congrArg GSpan.note e⟩)).symm | exact (decide_eq_false (fun e => q (by rw [e]))).symm | (rw [Bool.eq_iff_iff, decide_eq_true_iff, decide_eq_true_iff]; exact ⟨fun h => GSpan.ext' e0 e1 e2 e3 e4 e5 e6 e7 e9 e10 h e8.1 e8.2, fun h => by rw [h]⟩))))), rfl⟩, trivial⟩
      · rw [hb3]
        have q : ¬ a.parent = b.parent := by have e := hb3; simpa using e
        refine zH rfl rfl rfl <| zH rfl rfl rfl <| zH rfl rfl rfl <| zH rfl rfl rfl <| zH rfl rfl rfl <| g_u (zh rfl rfl rfl) <| g_u (zC rfl rfl) <| zH rfl rfl rfl <| zH rfl rfl rfl <| zH rfl rfl rfl <| zH rfl rfl rfl <| zH rfl rfl rfl <| g_u (zh rfl rfl rfl) <| g_u (zE rfl rfl) <| zI <| zA <| zD <| zD <| zB <| g_u (zC rfl rfl) <| g_u (wZ rfl rfl) <| g_u (zC rfl rfl) <| zH rfl rfl rfl <| zH rfl rfl rfl <| zH rfl rfl rfl <| zH rfl rfl rfl <| zH rfl rfl rfl <| g_u (zQ rfl rfl rfl) <| g_u (zC rfl rfl) <| zH rfl rfl rfl <| zH rfl rfl rfl <| zH rfl rfl rfl <| zH rfl rfl rfl <| zH rfl rfl rfl <| g_u (zQ rfl rfl rfl) <| g_u (zC rfl rfl) <| zH rfl rfl rfl <| zH rfl rfl rfl <| zH rfl rfl rfl <| zH rfl rfl rfl <| zH rfl rfl rfl <| g_u (zQ rfl rfl rfl) <| g_u (zC rfl rfl) <| zH rfl rfl rfl <| zH rfl rfl rfl <| zH rfl rfl rfl <| zH rfl rfl rfl <| zH rfl rfl rfl <| g_u (zQ rfl rfl rfl) <| g_u (zC rfl rfl) <| zH rfl rfl rfl <| zH rfl rfl rfl <| zH rfl rfl rfl <| zH rfl rfl rfl <| zH rfl rfl rfl <| zH rfl rfl rfl <| g_u (zQ rfl rfl rfl) <| zI <| zA <| zg rfl <| zD <| zB <| g_u (zE rfl rfl) <| zI <| zA <| zL <| zM ?_
        exact ⟨⟨(rfl : toAV (Al.look _ _) = some _).trans (congrArg some (by (exact congrArg bv (by first | exact (decide_eq_false (fun e => q ⟨congrArg GSpan.code e, congrArg GSpan.note e⟩)).symm | exact (decide_eq_false (fun e => q (by rw [e]))).symm | (rw [Bool.eq_iff_iff, decide_eq_true_iff, decide_eq_true_iff]; exact ⟨fun h => GSpan.ext' e0 e1 e2 e3 e4 e5 e6 e7 e9 e10 h e8.1 e8.2, fun h => by rw [h]⟩))))), rfl⟩, trivial⟩
    · rw [hb2]
      have q : ¬ a.id = b.id := by have e := hb2; simpa using e
      refine zH rfl rfl rfl <| zH rfl rfl rfl <| zH rfl rfl rfl <| zH rfl rfl rfl <| zH rfl rfl rfl <| g_u (zh rfl rfl rfl) <| g_u (zC rfl rfl) <| zH rfl rfl rfl <| zH rfl rfl rfl <| zH rfl rfl rfl <| zH rfl rfl rfl <| zH rfl rfl rfl <| g_u (zh rfl rfl rfl) <| g_u (zC rfl rfl) <| zH rfl rfl rfl <| zH rfl rfl rfl <| zH rfl rfl rfl <| zH rfl rfl rfl <| zH rfl rfl rfl <| g_u (zh rfl rfl rfl) <| g_u (zE rfl rfl) <| zI <| zA <| zD <| zD <| zB <| g_u (zC rfl rfl) <| g_u (wZ rfl rfl) <| g_u (zC rfl rfl) <| zH rfl rfl rfl <| zH rfl rfl rfl <| zH rfl rfl rfl <| zH rfl rfl rfl <| zH rfl rfl rfl <| g_u (zQ rfl rfl rfl) <| g_u (zC rfl rfl) <| zH rfl rfl rfl <| zH rfl rfl rfl <| zH rfl rfl rfl <| zH rfl rfl rfl <| zH rfl rfl rfl <| g_u (zQ rfl rfl rfl) <| g_u (zC rfl rfl) <| zH rfl rfl rfl <| zH rfl rfl rfl <| zH rfl rfl rfl <| zH rfl rfl rfl <| zH rfl rfl rfl <| g_u (zQ rfl rfl rfl) <| g_u (zC rfl rfl) <| zH rfl rfl rfl <| zH rfl rfl rfl <| zH rfl rfl rfl <| zH rfl rfl rfl <| zH rfl rfl rfl <| g_u (zQ rfl rfl rfl) <| g_u (zC rfl rfl) <| zH rfl rfl rfl <| zH rfl rfl rfl <| zH rfl rfl rfl <| zH rfl rfl rfl <| zH rfl rfl rfl <| zH rfl rfl rfl <| g_u (zQ rfl rfl rfl) <| zI <| zA <| zg rfl <| zD <| zB <| g_u (zE rfl rfl) <| zI <| zA <| zL <| zM ?_
      exact ⟨⟨(rfl : toAV (Al.look _ _) = some _).trans (congrArg some (by (exact congrArg bv (by first | exact (decide_eq_false (fun e => q ⟨congrArg GSpan.code e, congrArg GSpan.note e⟩)).symm | exact (decide_eq_false (fun e => q (by rw [e]))).symm | (rw [Bool.eq_iff_iff, decide_eq_true_iff, decide_eq_true_iff]; exact ⟨fun h => GSpan.ext' e0 e1 e2 e3 e4 e5 e6 e7 e9 e10 h e8.1 e8.2, fun h => by rw [h]⟩))))), rfl⟩, trivial⟩
  · rw [hb1]
    have q : ¬ a.trace = b.trace := by have e := hb1; simpa using e
    refine zH rfl rfl rfl <| zH rfl rfl rfl <| zH rfl rfl rfl <| zH rfl rfl rfl <| zH rfl rfl rfl <| g_u (zh rfl rfl rfl) <| g_u (zC rfl rfl) <| zH rfl rfl rfl <| zH rfl rfl rfl <| zH rfl rfl rfl <| zH rfl rfl rfl <| zH rfl rfl rfl <| g_u (zh rfl rfl rfl) <| g_u (zC rfl rfl) <| zH rfl rfl rfl <| zH rfl rfl rfl <| zH rfl rfl rfl <| zH rfl rfl rfl <| zH rfl rfl rfl <| g_u (zh rfl rfl rfl) <| g_u (zC rfl rfl) <| zH rfl rfl rfl <| zH rfl rfl rfl <| zH rfl rfl rfl <| zH rfl rfl rfl <| zH rfl rfl rfl <| g_u (zh rfl rfl rfl) <| g_u (zE rfl rfl) <| zI <| zA <| zD <| zD <| zB <| g_u (zC rfl rfl) <| g_u (wZ rfl rfl) <| g_u (zC rfl rfl) <| zH rfl rfl rfl <| zH rfl rfl rfl <| zH rfl rfl rfl <| zH rfl rfl rfl <| zH rfl rfl rfl <| g_u (zQ rfl rfl rfl) <| g_u (zC rfl rfl) <| zH rfl rfl rfl <| zH rfl rfl rfl <| zH rfl rfl rfl <| zH rfl rfl rfl <| zH rfl rfl rfl <| g_u (zQ rfl rfl rfl) <| g_u (zC rfl rfl) <| zH rfl rfl rfl <| zH rfl rfl rfl <| zH rfl rfl rfl <| zH rfl rfl rfl <| zH rfl rfl rfl <| g_u (zQ rfl rfl rfl) <| g_u (zC rfl rfl) <| zH rfl rfl rfl <| zH rfl rfl rfl <| zH rfl rfl rfl <| zH rfl rfl rfl <| zH rfl rfl rfl <| g_u (zQ rfl rfl rfl) <| g_u (zC rfl rfl) <| zH rfl rfl rfl <| zH rfl rfl rfl <| zH rfl rfl rfl <| zH rfl rfl rfl <| zH rfl rfl rfl <| zH rfl rfl rfl <| g_u (zQ rfl rfl rfl) <| zI <| zA <| zg rfl <| zD <| zB <| g_u (zE rfl rfl) <| zI <| zA <| zL <| zM ?_
    exact ⟨⟨(rfl : toAV (Al.look _ _) = some _).trans (congrArg some (by (exact congrArg bv (by first | exact (decide_eq_false (fun e => q ⟨congrArg GSpan.code e, congrArg GSpan.note e⟩)).symm | exact (decide_eq_false (fun e => q (by rw [e]))).symm | (rw [Bool.eq_iff_iff, decide_eq_true_iff, decide_eq_true_iff]; exact ⟨fun h => GSpan.ext' e0 e1 e2 e3 e4 e5 e6 e7 e9 e10 h e8.1 e8.2, fun h => by rw [h]⟩))))), rfl⟩, trivial⟩
end Go.Proofs
namespace Go.Proofs
open Go Go.Al
set_option maxRecDepth 10000
end Go.Proofs
namespace Go.Proofs
open Go Go.Al
set_option maxRecDepth 10000
end Go.Proofs
namespace Go.Proofs
open Go Go.Al
set_option maxRecDepth 10000
end Go.Proofs
namespace Go.Al
open Go.RowKit
section
variable {C : Cx} {A : Nat → SV} {d : Nat} {ty : TypeId} {pos : String} {af : Array Edge} {gd : Option (Nat × Bool)} {x y : Operand} {T T' : TypeId}
end
end Go.Al
namespace Go.Proofs
open Go Go.Al
end Go.Proofs
namespace Go.Proofs
open Go Go.Al
set_option maxRecDepth 10000
end Go.Proofs
namespace Go.Proofs
open Go Go.Al
set_option maxRecDepth 10000
end Go.Proofs
namespace Go.Proofs
open Go Go.Al
set_option maxRecDepth 10000
end Go.Proofs
namespace Go.Al
open Go.RowKit
def base (P : Program) (Γ : List (Nat × AV)) (N : Nat) (w : World) (G : Gh) : Cx := ⟨P, w, G.I, fun _ => False, N, 100000, G, Γ, [], none⟩
theorem notOwn_res {G : Gh} {k b : Nat} {x : SV} (h : x.res = false) : ¬ zm G k b x := by cases x <;> simp [SV.res, zm] at h ⊢
theorem Holds.mono_slot {w0 w1 : World} {E E' : Nat → Prop} {G G' : Gh} {a : Act} {w w' : World} {k : Nat} {x : SV} (hx : x.res = false) (hle : Le w G.I w' G'.I) (hg : GRel [] G G') (h : Holds w0 E G a w k x) : Holds w1 E' G' a w' k x := by
  cases x <;> simp only [Holds] at h ⊢ <;> first | trivial | exact ⟨h.1, xY.mono hle hg (xT.1 _) h.2⟩ | cases hx
theorem SimG.turned {P : Program} {Γ : List (Nat × AV)} {N : Nat} {A : Nat → SV} {G : Gh} {a : Act} {w w' : World} {I' : Nat → Nat → Prop} (S : SimG (base P Γ N w G) A G a w) (hr : ∀ k, (A k).res = false)
    (hle : Le w G.I w' I') (hv : ValI w' I') : SimG (base P Γ N w' { G with I := I' }) A { G with I := I' } a w' :=
  ⟨rfl, rfl, rfl, Nat.le_refl _, fun _ _ _ => rfl, Le.refl _ _, fun _ _ => ⟨rfl, .inl ⟨rfl, rfl⟩⟩, S.glob.mono hle, fun _ _ h => .inl h, hv, S.nts, S.dfs,
    fun k => (S.holds k).mono_slot (hr k) hle (fun _ _ => ⟨rfl, .inl ⟨rfl, rfl⟩⟩), fun k _ _ _ h _ => notOwn_res (hr k) h⟩
section
variable {ι : Type} {P : Program} {Γ : List (Nat × AV)} {N n : Nat} {J : ι → (Nat → Nat → Prop) → World → Prop}
variable {c x y : Code} {st : St} {j : ι} {K : St → ι → Prop} {Q : Exit → St → ι → Prop}
theorem Go1.mono {C : Cx} {ops : Array Oper} {K K' : St → List Tr → Prop} (hK : ∀ st tr, K st tr → K' st tr) : ∀ {os : List Oper} {st : St} {tr : List Tr}, Go1 C ops os st tr K → Go1 C ops os st tr K'
  | [], _, _, h => hK _ _ h
  | _ :: _, _, _, ⟨t, h1, h2, h3⟩ => ⟨t, h1, h2, Go1.mono hK h3⟩
end
end Go.Al
namespace Go.Al
open Go.RowKit
theorem Holds.kind {w0 : World} {E : Nat → Prop} {G : Gh} {a : Act} {w : World} {k b : Nat} {x : SV} (r : Holds w0 E G a w k x) (h : zm G k b x) {o : Obj} (ho : w.heap[b]? = some o) : isBook o = false := by
  cases x <;> simp only [zm] at h <;> simp only [Holds] at r
  case box T x =>
    obtain ⟨_, ⟨cs, fr, h1, _⟩, _⟩ := r
    rw [h, ho] at h1; cases h1; rfl
  case mpr ks vs =>
    obtain ⟨_, ⟨es, h1, _⟩, _⟩ := r
    rw [h, ho] at h1; cases h1; rfl
  case gen R => exact (R _ _ _).kind _ _ _ _ r.2 h ho
  case row l =>
    obtain ⟨ad, n', c, h1, h2⟩ := h
    rcases r.2 with ⟨e, _⟩ | ⟨b', cap, e, _, _, _, ⟨cs, T, h5, _⟩, _⟩
    · rw [e] at h1; cases h1
    · rw [e] at h1; cases h1; rw [← h2, h5] at ho; cases ho; rfl
  case itr m n s =>
    have h1 := r.2.1
    rw [h, ho] at h1; cases h1; rfl
  case tok n l =>
    obtain ⟨ad, n', c, h1, h2⟩ := h
    rcases r.2 with ⟨e, _⟩ | ⟨b', cap, e, _, _, _, _, ⟨cs, T, fr, h5, _⟩, _⟩
    · rw [e] at h1; cases h1
    · rw [e] at h1; cases h1; rw [← h2, h5] at ho; cases ho; rfl
theorem cell_book {w : World} {d : Nat} {o : Obj} (h : w.heap[d]? = some o) (ho : isBook o = true) (n : Nat) : w.cell? ⟨d, n, none⟩ = none := by
  unfold World.cell?
  cases o <;> simp_all [isBook]
theorem putObj_size (w : World) (d : Nat) (o : Obj) : (w.putObj d o).heap.size = w.heap.size := by simp [World.putObj]
theorem SimG.book {C : Cx} {A : Nat → SV} {G : Gh} {a : Act} {w : World} (S : SimG C A G a w) {d : Nat} {o o' : Obj} (h : w.heap[d]? = some o) (ho : isBook o = true) (ho' : isBook o' = true) (hd : C.w0.heap.size ≤ d ∨ C.E d) :
    SimG C A G a (w.putObj d o') := by
  have hlt : d < w.heap.size := (Array.getElem?_eq_some_iff.1 h).1
  have hsame : (w.putObj d o').heap[d]? = some o' := World.putObj_heap_same hlt
  have hoth : ∀ k, k ≠ d → (w.putObj d o').heap[k]? = w.heap[k]? := fun k hk => World.putObj_heap_other hk
  have hle : Le w G.I (w.putObj d o') G.I := by
    intro b n hi
    refine ⟨hi, ?_⟩
    by_cases e : b = d
    · subst e
      refine ⟨by rw [cell_book hsame ho', cell_book h ho], fun es ck h1 => ?_⟩
      rw [h] at h1; cases h1; cases ho
    · exact yx (hoth b e)
  refine ⟨S.os, S.tape, S.output, by rw [putObj_size]; exact S.size, fun k h1 h2 => ?_, S.sub.trans hle, S.rel, S.glob.mono hle, S.new, fun b o h => by rw [putObj_size]; exact S.val b o h, S.nts, S.dfs, fun k => ?_, S.apart⟩
  · have : k ≠ d := by
      rintro rfl
      rcases hd with hd | hd
      · omega
      · exact h2 hd
    rw [hoth k this]; exact S.block k h1 h2
  · refine (S.holds k).keep (Gs := []) hle (fun _ _ => ⟨rfl, .inl ⟨rfl, rfl⟩⟩) (xT.1 _) (by rw [putObj_size]; exact Nat.le_refl _) (fun h => ⟨h, rfl⟩) (fun _ => ⟨rfl, rfl, rfl⟩) (fun b hbk => ?_)
    have hne : b ≠ d := by
      rintro rfl
      have := (S.holds k).kind hbk h
      rw [ho] at this; cases this
    exact ⟨hoth b hne, fun _ hi => hi⟩
def own (A : Nat → SV) (G : Gh) (b : Nat) : Prop := ∃ k, zm G k b (A k)
theorem SimG.back {C : Cx} {A A' : Nat → SV} {G G' : Gh} {a a' : Act} {w w' : World} (S : SimG C A G a w) {K : Nat} {D : List Deferred} {R : Option Nat} (hK : K ≤ C.K)
    (S' : SimG ⟨C.P, w, G.I, own A G, C.N, K, G, C.Γ, D, R⟩ A' G' a' w') : SimG ⟨C.P, C.w0, C.I0, C.E, C.N, C.K, C.G0, C.Γ, D, R⟩ A' G' a' w' := by
  have hown : ∀ b, own A G b → C.w0.heap.size ≤ b ∨ C.E b := fun b ⟨k, hk⟩ => ((S.holds k).owned hk).1
  have hsz : w.heap.size ≤ w'.heap.size := S'.size
  refine ⟨S'.os.trans S.os, S'.tape.trans S.tape, S'.output.trans S.output, Nat.le_trans S.size hsz, fun k h1 h2 => ?_, S.sub.trans S'.sub, fun g hg => (S.rel g hg).trans (S'.rel g (Nat.le_trans hK hg)), S'.glob, fun b o hi => ?_, S'.val, S'.nts, S'.dfs, fun k => ?_, S'.apart⟩
  · have hno : ¬ own A G k := by
      intro ho
      rcases hown k ho with h | h
      · exact absurd h1 (by show ¬ k < C.w0.heap.size; omega)
      · exact h2 h
    exact (S'.block k (Nat.lt_of_lt_of_le h1 S.size) hno).trans (S.block k h1 h2)
  · rcases S'.new b o hi with h | h | h
    · exact S.new b o h
    · exact .inr (.inl (Nat.le_trans S.size h))
    · exact .inr (hown b h)
  · cases hr : (A' k).res
    · exact (S'.holds k).mono_slot hr (Le.refl _ _) (GRel.refl _)
    · exact (S'.holds k).reown hr (fun b _ _ h => by
        rcases h with h | h
        · exact .inl (Nat.le_trans S.size h)
        · exact hown b h)
structure Sw (C : Cx) (w1 : World) (I1 : Nat → Nat → Prop) (E1 : Nat → Prop) (G1 : Gh) (Ds : List Nat) : Prop where
  os : w1.os = C.w0.os
  tape : w1.tape = C.w0.tape
  output : w1.output = C.w0.output
  size : C.w0.heap.size ≤ w1.heap.size
  block : ∀ k, k < C.w0.heap.size → ¬ C.E k → w1.heap[k]? = C.w0.heap[k]?
  own : ∀ b, (w1.heap.size ≤ b ∨ E1 b) → C.w0.heap.size ≤ b ∨ C.E b
  sub : Le C.w0 C.I0 w1 I1
  rel : ∀ g, C.K ≤ g → Turns C.G0 G1 g
  new : ∀ b o, I1 b o → C.I0 b o ∨ C.w0.heap.size ≤ b ∨ C.E b
  marks : ∀ d ∈ Ds, d < w1.heap.size ∧ ¬ E1 d ∧ C.w0.heap.size ≤ d ∧ w1.heap[d]? = some (.deferred (some []))
  nodup : Ds.Nodup
def upC (C : Cx) (w1 : World) (I1 : Nat → Nat → Prop) (E1 : Nat → Prop) (G1 : Gh) (D1 : List Deferred) : Cx := ⟨C.P, w1, I1, E1, C.N, C.K, G1, C.Γ, D1, C.R⟩
theorem Sw.start (C : Cx) : Sw C C.w0 C.I0 C.E C.G0 [] :=
  ⟨rfl, rfl, rfl, Nat.le_refl _, fun _ _ _ => rfl, fun _ h => h, Le.refl _ _, fun _ _ => ⟨rfl, .inl ⟨rfl, rfl⟩⟩, fun _ _ h => .inl h, fun d h => (by cases h), List.nodup_nil⟩
theorem Sw.back {C : Cx} {w1 : World} {I1 : Nat → Nat → Prop} {E1 : Nat → Prop} {G1 : Gh} {Ds : List Nat} (h : Sw C w1 I1 E1 G1 Ds) {D1 : List Deferred} {A : Nat → SV} {G : Gh} {a : Act} {w : World} (S : SimG (upC C w1 I1 E1 G1 D1) A G a w) :
    SimG ⟨C.P, C.w0, C.I0, C.E, C.N, C.K, C.G0, C.Γ, D1, C.R⟩ A G a w := by
  refine ⟨S.os.trans h.os, S.tape.trans h.tape, S.output.trans h.output, Nat.le_trans h.size S.size, fun k h1 h2 => ?_, h.sub.trans S.sub, fun g hg => (h.rel g hg).trans (S.rel g hg), S.glob, fun b o hi => ?_, S.val, S.nts, S.dfs, fun k => ?_, S.apart⟩
  · have hno : ¬ E1 k := by
      intro ho
      rcases h.own k (.inr ho) with h3 | h3
      · exact absurd h1 (by show ¬ k < C.w0.heap.size; omega)
      · exact h2 h3
    exact (S.block k (Nat.lt_of_lt_of_le h1 h.size) hno).trans (h.block k h1 h2)
  · rcases S.new b o hi with h3 | h3 | h3
    · exact h.new b o h3
    · exact .inr (h.own b (.inl h3))
    · exact .inr (h.own b (.inr h3))
  · cases hr : (A k).res
    · exact (S.holds k).mono_slot hr (Le.refl _ _) (GRel.refl _)
    · exact (S.holds k).reown hr (fun b _ _ h3 => h.own b h3)
end Go.Al
namespace Go.Al
open Go.RowKit
end Go.Al
namespace Go.Proofs
open Go Go.Al
theorem plC_app (i : Nat) : ∀ (k : Nat) (l m : List GScope), plC i k (l ++ m) = plC i k l ++ plC i (k + l.length) m
  | k, [], m => by simp [plC]
  | k, x :: l, m => by
    simp only [List.cons_append, plC, plC_app i (k + 1) l m, List.append_assoc, List.length_cons]
    rw [show k + 1 + l.length = k + (l.length + 1) by omega]
theorem plR_app : ∀ (i : Nat) (l m : List GRes), plR i (l ++ m) = plR i l ++ plR (i + l.length) m
  | i, [], m => by simp [plR]
  | i, x :: l, m => by
    simp only [List.cons_append, plR, plR_app (i + 1) l m, List.append_assoc, List.length_cons]
    rw [show i + 1 + l.length = i + (l.length + 1) by omega]
theorem nthC_at {l : List GScope} {k : Nat} (h : k < l.length) : l = l.take k ++ nthC l k :: l.drop (k + 1) := by
  have : nthC l k = l[k] := by simp [nthC, nth, h]
  rw [this, List.getElem_cons_drop, List.take_append_drop]
theorem nthR_at {l : List GRes} {k : Nat} (h : k < l.length) : l = l.take k ++ nthR l k :: l.drop (k + 1) := by
  have : nthR l k = l[k] := by simp [nthR, nth, h]
  rw [this, List.getElem_cons_drop, List.take_append_drop]
theorem plC_at {i : Nat} {l : List GScope} {k m : Nat} (hk : k < l.length) (hm : m < (nthC l k).spans.length) : (plC i 0 l)[(plC i 0 (l.take k)).length + m]? = some (i, k, m) := by
  conv => lhs; arg 1; rw [nthC_at hk]
  have hlen : (l.take k).length = k := by rw [List.length_take]; omega
  rw [plC_app, List.getElem?_append_right (by omega), Nat.add_sub_cancel_left, Nat.zero_add, hlen, plC, List.getElem?_append_left (by simpa using hm)]
  simp [hm]
theorem pl_at {b : List GRes} {i k m : Nat} (hi : i < b.length) (hk : k < (nthR b i).scopes.length) (hm : m < (nthC (nthR b i).scopes k).spans.length) :
    (plR 0 b)[(plR 0 (b.take i)).length + (plC i 0 ((nthR b i).scopes.take k)).length + m]? = some (i, k, m) := by
  conv => lhs; arg 1; rw [nthR_at hi]
  have hlen : (b.take i).length = i := by rw [List.length_take]; omega
  rw [plR_app, Nat.add_assoc, List.getElem?_append_right (by omega), Nat.add_sub_cancel_left, Nat.zero_add, hlen, plR]
  have h1 := plC_at (i := i) hk hm
  rw [List.getElem?_append_left (List.getElem?_eq_some_iff.1 h1).1]
  exact h1
def spAt (b : List GRes) (p : Nat × Nat × Nat) : GSpan := nthS (nthC (nthR b p.1).scopes p.2.1).spans p.2.2
theorem plR_mem' : ∀ {l m : List GRes} {p : Nat × Nat × Nat}, p ∈ plR m.length l → p.1 < (m ++ l).length ∧ p.2.1 < (nthR (m ++ l) p.1).scopes.length ∧ p.2.2 < (nthC (nthR (m ++ l) p.1).scopes p.2.1).spans.length
  | [], m, p, h => by simp [plR] at h
  | r :: l, m, p, h => by
    rw [plR] at h
    rcases List.mem_append.1 h with h | h
    · have hr : nthR (m ++ r :: l) m.length = r := by simp [nthR, nth]
      have h1 : p.1 = m.length := by
        have : ∀ (k : Nat) (cs : List GScope), p ∈ plC m.length k cs → p.1 = m.length := by
          intro k cs
          induction cs generalizing k with
          | nil => intro h; simp [plC] at h
          | cons c cs ih =>
            intro h
            rw [plC] at h
            rcases List.mem_append.1 h with h | h
            · obtain ⟨j, _, rfl⟩ := List.mem_map.1 h; rfl
            · exact ih _ h
        exact this _ _ h
      have h2 := plC_mem (i := m.length) (l := r.scopes) (m := []) (p := p) h
      rw [h1, hr]
      exact ⟨by simp, h2⟩
    · have := plR_mem' (l := l) (m := m ++ [r]) (p := p) (by simpa using h)
      simpa using this
theorem pl_mem {b : List GRes} {p : Nat × Nat × Nat} (h : p ∈ plR 0 b) : p.1 < b.length ∧ p.2.1 < (nthR b p.1).scopes.length ∧ p.2.2 < (nthC (nthR b p.1).scopes p.2.1).spans.length := plR_mem' (m := []) h
theorem pl_mem_iff {b : List GRes} {p : Nat × Nat × Nat} : p ∈ plR 0 b ↔ p.1 < b.length ∧ p.2.1 < (nthR b p.1).scopes.length ∧ p.2.2 < (nthC (nthR b p.1).scopes p.2.1).spans.length :=
  ⟨pl_mem, fun ⟨h1, h2, h3⟩ => List.mem_of_getElem? (pl_at h1 h2 h3)⟩
def zS : GSpan := ⟨List.replicate 16 0, List.replicate 8 0, List.replicate 8 0, ⟨#[]⟩, ⟨#[]⟩, 0, 0, 0, [], [], [], 0, ⟨#[]⟩⟩
def inB (b : List GRes) (p : Int × Int × Int) : Bool :=
  decide (0 ≤ p.1) && decide (p.1 < b.length) && (decide (0 ≤ p.2.1) && decide (p.2.1 < (nthR b p.1.toNat).scopes.length)) && (decide (0 ≤ p.2.2) && decide (p.2.2 < (nthC (nthR b p.1.toNat).scopes p.2.1.toNat).spans.length))
def natP (p : Int × Int × Int) : Nat × Nat × Nat := (p.1.toNat, p.2.1.toNat, p.2.2.toNat)
def intP (p : Nat × Nat × Nat) : Int × Int × Int := ((p.1 : Int), (p.2.1 : Int), (p.2.2 : Int))
def placeAv (p : Int × Int × Int) : AV := .agg [iv p.1, iv p.2.1, iv p.2.2]
def atS (b : List GRes) (p : Int × Int × Int) : GSpan := if inB b p then spAt b (natP p) else zS
theorem inB_iff {b : List GRes} {p : Int × Int × Int} : inB b p = true ↔ 0 ≤ p.1 ∧ p.1 < b.length ∧ (0 ≤ p.2.1 ∧ p.2.1 < (nthR b p.1.toNat).scopes.length) ∧ 0 ≤ p.2.2 ∧ p.2.2 < (nthC (nthR b p.1.toNat).scopes p.2.1.toNat).spans.length := by
  simp only [inB, Bool.and_eq_true, decide_eq_true_eq, and_assoc]
theorem inB_mem {b : List GRes} {p : Int × Int × Int} : inB b p = true ↔ ∃ q ∈ plR 0 b, intP q = p := by
  rw [inB_iff]
  constructor
  · rintro ⟨h1, h2, ⟨h3, h4⟩, h5, h6⟩
    refine ⟨natP p, pl_mem_iff.2 ⟨by show p.1.toNat < _; omega, by show p.2.1.toNat < (nthR b p.1.toNat).scopes.length; omega, by show p.2.2.toNat < (nthC (nthR b p.1.toNat).scopes p.2.1.toNat).spans.length; omega⟩, ?_⟩
    obtain ⟨x, y, z⟩ := p
    simp only [intP, natP]
    dsimp only at h1 h3 h5
    rw [Int.toNat_of_nonneg h1, Int.toNat_of_nonneg h3, Int.toNat_of_nonneg h5]
  · rintro ⟨q, hq, rfl⟩
    obtain ⟨h1, h2, h3⟩ := pl_mem hq
    simp only [intP, Int.toNat_natCast]
    omega
theorem inB_nat {b : List GRes} {q : Nat × Nat × Nat} (h : q ∈ plR 0 b) : inB b (intP q) = true := inB_mem.2 ⟨q, h, rfl⟩
theorem atS_nat {b : List GRes} {q : Nat × Nat × Nat} (h : q ∈ plR 0 b) : atS b (intP q) = spAt b q := by
  unfold atS; rw [if_pos (inB_nat h)]; rfl
end Go.Proofs
namespace Go.Al
section
variable {C : Cx} {A : Nat → SV} {d : Nat} {ty : TypeId} {pos : String} {af : Array Edge} {gd : Option (Nat × Bool)} {x y : Operand} {T T' : TypeId}
end
end Go.Al
namespace Go.Proofs
open Go Go.Al
set_option maxRecDepth 10000
set_option maxHeartbeats 4000000 in
theorem eqdS_c (a b : List GSpan) (fn : FuncId) (hl : a.length ≤ 1000000000) (hf : ∀ x ∈ a, ∀ y : GSpan, zo Tryz.prog Γ0 fn ([] ++ [x.av, y.av] ++ []) [bv (decide (x = y))]) : zo Tryz.prog Γ0 132 [(.sl 42 (a.map GSpan.av)), (.sl 42 (b.map GSpan.av)), .fn (.func fn) [] []] [bv (decide (a = b))] := by
  refine z_ Tryz.func132 rfl Tryz.ntmps132 (by kernel_rfl) rfl fun w0 I0 G0 => ?_
  refine zD <| zB <| g_u (zE rfl rfl) <| zI <| zA <| zD <| zD <| zB <| g_u (zC rfl rfl) <| g_u (zw rfl rfl Tryz.underlying49) <| g_u (zC rfl rfl) <| g_u (zw rfl rfl Tryz.underlying49) <| g_u (wM rfl rfl rfl) <| zI <| zA ?_
  refine zW rfl (fun hb1 => ?_) (fun hb1 => ?_)
  · have q : ¬ a.length = b.length := by have e := bne_iff_ne.1 hb1; simp only [List.length_map] at e; omega
    refine zD <| zB <| g_u (zE rfl rfl) <| zI <| zA <| zL <| zM ?_
    exact ⟨⟨(rfl : toAV (Al.look _ _) = some _).trans (congrArg some (by (exact congrArg bv (by first | exact (decide_eq_false (fun e => q (by rw [e]))).symm | exact (decide_eq_true (zv gs0 el (fun j hj => h2 j (by omega)))).symm)))), rfl⟩, trivial⟩
  · have el : a.length = b.length := by have e := qd.1 hb1; simp only [List.length_map] at e; omega
    refine zY <| zA <| zD <| zD <| zB <| g_u (zC rfl rfl) <| g_u (zw rfl rfl Tryz.underlying49) <| g_u (zC rfl rfl) <| zI <| zA <| zU ?_
    refine zp (fun i : Nat => [(1, .imm (.sl 42 (b.map GSpan.av))), (2, .imm (.fn (.func fn) [] [])), (15, .imm (.sl 42 (a.map GSpan.av))), (16, .imm (iv (a.length : Int))), (17, .imm (iv (i : Int)))]) (fun i => i ≤ a.length ∧ ∀ j, j < i → nth a j gs0 = nth b j gs0) (fun i => a.length - i) (0) ?_ ⟨rfl, rfl, rfl, zZ rfl (by rw [List.length_map]), rfl, trivial⟩ ?_
    · exact ⟨Nat.zero_le _, fun j h => absurd h (Nat.not_lt_zero _)⟩
    · rintro i ⟨h1, h2⟩; (try dsimp only at h1 h2)
      refine zD <| zB <| g_u (yb rfl rfl rfl) <| zI <| zA <| zD ?_
      refine zW rfl (fun hb2 => ?_) (fun hb2 => ?_)
      · have hi : i < a.length := by have := of_decide_eq_true hb2; (try simp only [List.length_map] at this); omega
        have hib : i < b.length := by omega
        refine zY <| zA <| zD <| zU <| zD <| zB <| g_u (zC rfl rfl) ?_
        refine g_u (zJ rfl rfl rfl Tryz.underlying49 tS63 (by omega) (ixS hi)) ?_
        refine g_u (zT rfl rfl tA63 tS63 rfl (by first | exact xP (GSpan.width _) rfl | rfl)) ?_
        refine g_uG (zl 1008 rfl rfl rfl tZ63) rfl <| g_u (zE rfl rfl) ?_
        refine g_u (zK rfl rfl rfl tS63 (by first | exact beqW (GSpan.width _) | rfl) (by first | exact xy (z63_w.trans (GSpan.width _).symm) rfl | rfl)) ?_
        refine zI <| zA <| zD <| zB <| g_u (zC rfl rfl) <| g_u (zC rfl rfl) ?_
        refine g_u (zJ rfl rfl rfl Tryz.underlying49 tS63 (by omega) (ixS hib)) ?_
        refine g_u (zT rfl rfl tA63 tS63 rfl (by first | exact xP (GSpan.width _) rfl | rfl)) ?_
        refine g_uG (zl 1009 rfl rfl rfl tZ63) rfl ?_
        refine g_u (zK rfl rfl rfl tS63 (by first | exact beqW (GSpan.width _) | rfl) (by first | exact xy (z63_w.trans (GSpan.width _).symm) rfl | rfl)) ?_
        refine zI <| zA <| zD <| zB <| g_u (zC rfl rfl) ?_
        refine g_u (zG rfl rfl rfl tA63 tS63 rfl (by first | exact xP (GSpan.width _) rfl | rfl)) ?_
        refine g_u (zG rfl rfl rfl tA63 tS63 rfl (by first | exact xP (GSpan.width _) rfl | rfl)) ?_
        refine g_u (xv (hf _ (nthS_mem hi) _) rfl rfl rfl) <| g_u (wZ rfl rfl) <| zI <| zA ?_
        refine zW rfl (fun hb3 => ?_) (fun hb3 => ?_)
        · have q : ¬ nthS a i = nthS b i := fun h => by have e := hb3; rw [decide_eq_true h] at e; cases e
          refine zD <| zB <| g_u (zE rfl rfl) <| zI <| zA <| zL <| zq <| zM <| zM <| zq <| zM ?_
          exact ⟨⟨(rfl : toAV (Al.look _ _) = some _).trans (congrArg some (by (exact congrArg bv (by first | exact (decide_eq_false (fun e => q (by rw [e]))).symm | exact (decide_eq_true (zv gs0 el (fun j hj => h2 j (by omega)))).symm)))), rfl⟩, trivial⟩
        · have ev : nthS a i = nthS b i := by have e := hb3; simpa using e
          refine zY <| zX <| zA <| zB <| g_u (yG rfl rfl rfl) <| g_u (zC rfl rfl) <| zI <| zA ?_
          refine ⟨i + 1, ⟨hi, fun j hj => by rcases Nat.lt_or_ge j i with h | h; exact h2 j h; rw [show j = i by omega]; exact ev⟩, ⟨rfl, rfl, rfl, rfl, zZ rfl (by rw [ze (by omega) (by omega)]; rfl), trivial⟩, by (try dsimp only); omega⟩
      · have hin : i = a.length := by have := of_decide_eq_false hb2; (try simp only [List.length_map] at this); omega
        refine zu <| zR <| zR <| zn <| zA <| zD <| zB <| g_u (zE rfl rfl) <| zI <| zA <| zL ?_
        exact ⟨⟨(rfl : toAV (Al.look _ _) = some _).trans (congrArg some (by (exact congrArg bv (by first | exact (decide_eq_false (fun e => q (by rw [e]))).symm | exact (decide_eq_true (zv gs0 el (fun j hj => h2 j (by omega)))).symm)))), rfl⟩, trivial⟩
set_option maxHeartbeats 4000000 in
theorem eqdC_c (a b : List GScope) (fn : FuncId) (hl : a.length ≤ 1000000000) (hf : ∀ x ∈ a, ∀ y : GScope, zo Tryz.prog Γ0 fn ([] ++ [x.av, y.av] ++ []) [bv (decide (x = y))]) : zo Tryz.prog Γ0 101 [(.sl 3 (a.map GScope.av)), (.sl 3 (b.map GScope.av)), .fn (.func fn) [] []] [bv (decide (a = b))] := by
  refine z_ Tryz.func101 rfl Tryz.ntmps101 (by kernel_rfl) rfl fun w0 I0 G0 => ?_
  refine zD <| zB <| g_u (zE rfl rfl) <| zI <| zA <| zD <| zD <| zB <| g_u (zC rfl rfl) <| g_u (zw rfl rfl Tryz.underlying45) <| g_u (zC rfl rfl) <| g_u (zw rfl rfl Tryz.underlying45) <| g_u (wM rfl rfl rfl) <| zI <| zA ?_
  refine zW rfl (fun hb1 => ?_) (fun hb1 => ?_)
  · have q : ¬ a.length = b.length := by have e := bne_iff_ne.1 hb1; simp only [List.length_map] at e; omega
    refine zD <| zB <| g_u (zE rfl rfl) <| zI <| zA <| zL <| zM ?_
    exact ⟨⟨(rfl : toAV (Al.look _ _) = some _).trans (congrArg some (by (exact congrArg bv (by first | exact (decide_eq_false (fun e => q (by rw [e]))).symm | exact (decide_eq_true (zv gc0 el (fun j hj => h2 j (by omega)))).symm)))), rfl⟩, trivial⟩
  · have el : a.length = b.length := by have e := qd.1 hb1; simp only [List.length_map] at e; omega
    refine zY <| zA <| zD <| zD <| zB <| g_u (zC rfl rfl) <| g_u (zw rfl rfl Tryz.underlying45) <| g_u (zC rfl rfl) <| zI <| zA <| zU ?_
    refine zp (fun i : Nat => [(1, .imm (.sl 3 (b.map GScope.av))), (2, .imm (.fn (.func fn) [] [])), (15, .imm (.sl 3 (a.map GScope.av))), (16, .imm (iv (a.length : Int))), (17, .imm (iv (i : Int)))]) (fun i => i ≤ a.length ∧ ∀ j, j < i → nth a j gc0 = nth b j gc0) (fun i => a.length - i) (0) ?_ ⟨rfl, rfl, rfl, zZ rfl (by rw [List.length_map]), rfl, trivial⟩ ?_
    · exact ⟨Nat.zero_le _, fun j h => absurd h (Nat.not_lt_zero _)⟩
    · rintro i ⟨h1, h2⟩; (try dsimp only at h1 h2)
      refine zD <| zB <| g_u (yb rfl rfl rfl) <| zI <| zA <| zD ?_
      refine zW rfl (fun hb2 => ?_) (fun hb2 => ?_)
      · have hi : i < a.length := by have := of_decide_eq_true hb2; (try simp only [List.length_map] at this); omega
        have hib : i < b.length := by omega
        refine zY <| zA <| zD <| zU <| zD <| zB <| g_u (zC rfl rfl) ?_
        refine g_u (zJ rfl rfl rfl Tryz.underlying45 tS51 (by omega) (ixC hi)) ?_
        refine g_u (zT rfl rfl tA51 tS51 rfl rfl) <| g_uG (zl 1008 rfl rfl rfl tZ51) rfl <| g_u (zE rfl rfl) <| g_u (zK rfl rfl rfl tS51 rfl rfl) <| zI <| zA <| zD <| zB <| g_u (zC rfl rfl) <| g_u (zC rfl rfl) ?_
        refine g_u (zJ rfl rfl rfl Tryz.underlying45 tS51 (by omega) (ixC hib)) ?_
        refine g_u (zT rfl rfl tA51 tS51 rfl rfl) <| g_uG (zl 1009 rfl rfl rfl tZ51) rfl <| g_u (zK rfl rfl rfl tS51 rfl rfl) <| zI <| zA <| zD <| zB <| g_u (zC rfl rfl) <| g_u (zk rfl rfl rfl tA51 tS51 rfl rfl) <| g_u (zk rfl rfl rfl tA51 tS51 rfl rfl) <| g_u (xv (hf _ (vC hi) _) rfl rfl rfl) <| g_u (wZ rfl rfl) <| zI <| zA ?_
        refine zW rfl (fun hb3 => ?_) (fun hb3 => ?_)
        · have q : ¬ nthC a i = nthC b i := fun h => by have e := hb3; rw [decide_eq_true h] at e; cases e
          refine zD <| zB <| g_u (zE rfl rfl) <| zI <| zA <| zL <| zq <| zM <| zM <| zq <| zM ?_
          exact ⟨⟨(rfl : toAV (Al.look _ _) = some _).trans (congrArg some (by (exact congrArg bv (by first | exact (decide_eq_false (fun e => q (by rw [e]))).symm | exact (decide_eq_true (zv gc0 el (fun j hj => h2 j (by omega)))).symm)))), rfl⟩, trivial⟩
        · have ev : nthC a i = nthC b i := by have e := hb3; simpa using e
          refine zY <| zX <| zA <| zB <| g_u (yG rfl rfl rfl) <| g_u (zC rfl rfl) <| zI <| zA ?_
          refine ⟨i + 1, ⟨hi, fun j hj => by rcases Nat.lt_or_ge j i with h | h; exact h2 j h; rw [show j = i by omega]; exact ev⟩, ⟨rfl, rfl, rfl, rfl, zZ rfl (by rw [ze (by omega) (by omega)]; rfl), trivial⟩, by (try dsimp only); omega⟩
      · have hin : i = a.length := by have := of_decide_eq_false hb2; (try simp only [List.length_map] at this); omega
        refine zu <| zR <| zR <| zn <| zA <| zD <| zB <| g_u (zE rfl rfl) <| zI <| zA <| zL ?_
        exact ⟨⟨(rfl : toAV (Al.look _ _) = some _).trans (congrArg some (by (exact congrArg bv (by first | exact (decide_eq_false (fun e => q (by rw [e]))).symm | exact (decide_eq_true (zv gc0 el (fun j hj => h2 j (by omega)))).symm)))), rfl⟩, trivial⟩
set_option maxHeartbeats 4000000 in
theorem eqdR_c (a b : List GRes) (fn : FuncId) (hl : a.length ≤ 1000000000) (hf : ∀ x ∈ a, ∀ y : GRes, zo Tryz.prog Γ0 fn ([] ++ [x.av, y.av] ++ []) [bv (decide (x = y))]) : zo Tryz.prog Γ0 71 [(.sl 2 (a.map GRes.av)), (.sl 2 (b.map GRes.av)), .fn (.func fn) [] []] [bv (decide (a = b))] := by
  refine z_ Tryz.func71 rfl Tryz.ntmps71 (by kernel_rfl) rfl fun w0 I0 G0 => ?_
  refine zD <| zB <| g_u (zE rfl rfl) <| zI <| zA <| zD <| zD <| zB <| g_u (zC rfl rfl) <| g_u (zw rfl rfl Tryz.underlying22) <| g_u (zC rfl rfl) <| g_u (zw rfl rfl Tryz.underlying22) <| g_u (wM rfl rfl rfl) <| zI <| zA ?_
  refine zW rfl (fun hb1 => ?_) (fun hb1 => ?_)
  · have q : ¬ a.length = b.length := by have e := bne_iff_ne.1 hb1; simp only [List.length_map] at e; omega
    refine zD <| zB <| g_u (zE rfl rfl) <| zI <| zA <| zL <| zM ?_
    exact ⟨⟨(rfl : toAV (Al.look _ _) = some _).trans (congrArg some (by (exact congrArg bv (by first | exact (decide_eq_false (fun e => q (by rw [e]))).symm | exact (decide_eq_true (zv gr0 el (fun j hj => h2 j (by omega)))).symm)))), rfl⟩, trivial⟩
  · have el : a.length = b.length := by have e := qd.1 hb1; simp only [List.length_map] at e; omega
    refine zY <| zA <| zD <| zD <| zB <| g_u (zC rfl rfl) <| g_u (zw rfl rfl Tryz.underlying22) <| g_u (zC rfl rfl) <| zI <| zA <| zU ?_
    refine zp (fun i : Nat => [(1, .imm (.sl 2 (b.map GRes.av))), (2, .imm (.fn (.func fn) [] [])), (15, .imm (.sl 2 (a.map GRes.av))), (16, .imm (iv (a.length : Int))), (17, .imm (iv (i : Int)))]) (fun i => i ≤ a.length ∧ ∀ j, j < i → nth a j gr0 = nth b j gr0) (fun i => a.length - i) (0) ?_ ⟨rfl, rfl, rfl, zZ rfl (by rw [List.length_map]), rfl, trivial⟩ ?_
    · exact ⟨Nat.zero_le _, fun j h => absurd h (Nat.not_lt_zero _)⟩
    · rintro i ⟨h1, h2⟩; (try dsimp only at h1 h2)
      refine zD <| zB <| g_u (yb rfl rfl rfl) <| zI <| zA <| zD ?_
      refine zW rfl (fun hb2 => ?_) (fun hb2 => ?_)
      · have hi : i < a.length := by have := of_decide_eq_true hb2; (try simp only [List.length_map] at this); omega
        have hib : i < b.length := by omega
        refine zY <| zA <| zD <| zU <| zD <| zB <| g_u (zC rfl rfl) ?_
        refine g_u (zJ rfl rfl rfl Tryz.underlying22 tS47 (by omega) (ixR hi)) ?_
        refine g_u (zT rfl rfl tA47 tS47 rfl rfl) <| g_uG (zl 1008 rfl rfl rfl tZ47) rfl <| g_u (zE rfl rfl) <| g_u (zK rfl rfl rfl tS47 rfl rfl) <| zI <| zA <| zD <| zB <| g_u (zC rfl rfl) <| g_u (zC rfl rfl) ?_
        refine g_u (zJ rfl rfl rfl Tryz.underlying22 tS47 (by omega) (ixR hib)) ?_
        refine g_u (zT rfl rfl tA47 tS47 rfl rfl) <| g_uG (zl 1009 rfl rfl rfl tZ47) rfl <| g_u (zK rfl rfl rfl tS47 rfl rfl) <| zI <| zA <| zD <| zB <| g_u (zC rfl rfl) <| g_u (zk rfl rfl rfl tA47 tS47 rfl rfl) <| g_u (zk rfl rfl rfl tA47 tS47 rfl rfl) <| g_u (xv (hf _ (xZ hi) _) rfl rfl rfl) <| g_u (wZ rfl rfl) <| zI <| zA ?_
        refine zW rfl (fun hb3 => ?_) (fun hb3 => ?_)
        · have q : ¬ nthR a i = nthR b i := fun h => by have e := hb3; rw [decide_eq_true h] at e; cases e
          refine zD <| zB <| g_u (zE rfl rfl) <| zI <| zA <| zL <| zq <| zM <| zM <| zq <| zM ?_
          exact ⟨⟨(rfl : toAV (Al.look _ _) = some _).trans (congrArg some (by (exact congrArg bv (by first | exact (decide_eq_false (fun e => q (by rw [e]))).symm | exact (decide_eq_true (zv gr0 el (fun j hj => h2 j (by omega)))).symm)))), rfl⟩, trivial⟩
        · have ev : nthR a i = nthR b i := by have e := hb3; simpa using e
          refine zY <| zX <| zA <| zB <| g_u (yG rfl rfl rfl) <| g_u (zC rfl rfl) <| zI <| zA ?_
          refine ⟨i + 1, ⟨hi, fun j hj => by rcases Nat.lt_or_ge j i with h | h; exact h2 j h; rw [show j = i by omega]; exact ev⟩, ⟨rfl, rfl, rfl, rfl, zZ rfl (by rw [ze (by omega) (by omega)]; rfl), trivial⟩, by (try dsimp only); omega⟩
      · have hin : i = a.length := by have := of_decide_eq_false hb2; (try simp only [List.length_map] at this); omega
        refine zu <| zR <| zR <| zn <| zA <| zD <| zB <| g_u (zE rfl rfl) <| zI <| zA <| zL ?_
        exact ⟨⟨(rfl : toAV (Al.look _ _) = some _).trans (congrArg some (by (exact congrArg bv (by first | exact (decide_eq_false (fun e => q (by rw [e]))).symm | exact (decide_eq_true (zv gr0 el (fun j hj => h2 j (by omega)))).symm)))), rfl⟩, trivial⟩
set_option maxHeartbeats 4000000 in
theorem psameC_c (a b : GScope) (hw : a.wt ≤ 1000000000) : zo Tryz.prog Γ0 102 [a.av, b.av] [bv (decide (a = b))] := by
  have qw : a.wt = 1 + a.name.size + a.version.size + z7 GSpan.wt a.spans := rfl
  have ql := yR GSpan.wt (fun e => by unfold GSpan.wt; omega) a.spans
  refine z_ Tryz.func102 rfl Tryz.ntmps102 (by kernel_rfl) rfl fun w0 I0 G0 => ?_
  refine zD <| zB <| g_uG (zi 1002 rfl rfl rfl rfl) rfl <| g_uG (zi 1003 rfl rfl rfl rfl) rfl <| g_u (zE rfl rfl) <| zI <| zA <| zD <| zB <| g_u (zF rfl rfl fa51_0 rfl) <| g_u (zG rfl rfl rfl tA9 tS9 rfl rfl) <| g_u (zF rfl rfl fa51_0 rfl) <| g_u (zG rfl rfl rfl tA9 tS9 rfl rfl) <| g_u (s_eqS rfl rfl rfl) <| g_u (zC rfl rfl) <| z0 (t := 10) rfl ?_
  rintro (hb1 | hb1)
  · rw [hb1]
    have f1 : a.name = b.name := by have e := hb1; rw [yN] at e; simpa using e
    refine zN rfl rfl (zF rfl rfl fa51_1 rfl) <| zN rfl rfl (zG rfl rfl rfl tA9 tS9 rfl rfl) <| zN rfl rfl (zF rfl rfl fa51_1 rfl) <| zN rfl rfl (zG rfl rfl rfl tA9 tS9 rfl rfl) <| zN rfl rfl (s_eqS rfl rfl rfl) <| g_u (zQ rfl rfl rfl) <| g_u (zC rfl rfl) <| z0 (t := 17) rfl ?_
    rintro (hb2 | hb2)
    · rw [hb2]
      have f2 : a.version = b.version := by have e := hb2; rw [yN] at e; simpa using e
      refine zN rfl rfl (zF rfl rfl wm rfl) <| zN rfl rfl (zG rfl rfl rfl tA49 tS49 rfl rfl) <| zN rfl rfl (zF rfl rfl wm rfl) <| zN rfl rfl (zG rfl rfl rfl tA49 tS49 rfl rfl) ?_
      refine zN rfl rfl (zP (eqdS_c a.spans b.spans 133 (by omega) (fun x hx y => psameS_c x y (by have h5 := yD GSpan.wt hx; omega))) rfl rfl) ?_
      refine g_u (zQ rfl rfl rfl) <| g_u (zE rfl rfl) <| zI <| zA <| zL ?_
      exact ⟨⟨(rfl : toAV (Al.look _ _) = some _).trans (congrArg some (by (exact congrArg bv (by first | exact (decide_eq_false (fun e => q (by rw [e]))).symm | (rw [Bool.eq_iff_iff, decide_eq_true_iff, decide_eq_true_iff]; exact ⟨fun h => GScope.ext' f1 f2 h, fun h => by rw [h]⟩))))), rfl⟩, trivial⟩
    · rw [hb2]
      have q : ¬ a.version = b.version := by have e := hb2; rw [yN] at e; simpa using e
      refine zH rfl rfl rfl <| zH rfl rfl rfl <| zH rfl rfl rfl <| zH rfl rfl rfl <| zH rfl rfl rfl <| g_u (zh rfl rfl rfl) <| g_u (zE rfl rfl) <| zI <| zA <| zL ?_
      exact ⟨⟨(rfl : toAV (Al.look _ _) = some _).trans (congrArg some (by (exact congrArg bv (by first | exact (decide_eq_false (fun e => q (by rw [e]))).symm | (rw [Bool.eq_iff_iff, decide_eq_true_iff, decide_eq_true_iff]; exact ⟨fun h => GScope.ext' f1 f2 h, fun h => by rw [h]⟩))))), rfl⟩, trivial⟩
  · rw [hb1]
    have q : ¬ a.name = b.name := by have e := hb1; rw [yN] at e; simpa using e
    refine zH rfl rfl rfl <| zH rfl rfl rfl <| zH rfl rfl rfl <| zH rfl rfl rfl <| zH rfl rfl rfl <| g_u (zh rfl rfl rfl) <| g_u (zC rfl rfl) <| zH rfl rfl rfl <| zH rfl rfl rfl <| zH rfl rfl rfl <| zH rfl rfl rfl <| zH rfl rfl rfl <| g_u (zh rfl rfl rfl) <| g_u (zE rfl rfl) <| zI <| zA <| zL ?_
    exact ⟨⟨(rfl : toAV (Al.look _ _) = some _).trans (congrArg some (by (exact congrArg bv (by first | exact (decide_eq_false (fun e => q (by rw [e]))).symm | (rw [Bool.eq_iff_iff, decide_eq_true_iff, decide_eq_true_iff]; exact ⟨fun h => GScope.ext' f1 f2 h, fun h => by rw [h]⟩))))), rfl⟩, trivial⟩
set_option maxHeartbeats 4000000 in
theorem psameR_c (a b : GRes) (hw : a.wt ≤ 1000000000) : zo Tryz.prog Γ0 72 [a.av, b.av] [bv (decide (a = b))] := by
  have qw : a.wt = 1 + wtAs a.attrs + z7 GScope.wt a.scopes := rfl
  have ql := yR GScope.wt (fun e => by unfold GScope.wt; omega) a.scopes
  refine z_ Tryz.func72 rfl Tryz.ntmps72 (by kernel_rfl) rfl fun w0 I0 G0 => ?_
  refine zD <| zB <| g_uG (zi 1002 rfl rfl rfl rfl) rfl <| g_uG (zi 1003 rfl rfl rfl rfl) rfl <| g_u (zE rfl rfl) <| zI <| zA <| zD <| zB <| g_u (zF rfl rfl fa47_0 rfl) <| g_u (zG rfl rfl rfl tA44 tS44 rfl rfl) <| g_u (zF rfl rfl fa47_0 rfl) <| g_u (zG rfl rfl rfl tA44 tS44 rfl rfl) ?_
  refine g_u (zP (psameAs_c a.attrs b.attrs (by omega)) rfl rfl) ?_
  refine g_u (zC rfl rfl) <| z0 (t := 10) rfl ?_
  rintro (hb1 | hb1)
  · rw [hb1]
    have f1 : a.attrs = b.attrs := (ya _ _).1 hb1
    refine zN rfl rfl (zF rfl rfl wR rfl) <| zN rfl rfl (zG rfl rfl rfl tA45 tS45 rfl rfl) <| zN rfl rfl (zF rfl rfl wR rfl) <| zN rfl rfl (zG rfl rfl rfl tA45 tS45 rfl rfl) ?_
    refine zN rfl rfl (zP (eqdC_c a.scopes b.scopes 102 (by omega) (fun x hx y => psameC_c x y (by have h5 := yD GScope.wt hx; omega))) rfl rfl) ?_
    refine g_u (zQ rfl rfl rfl) <| g_u (zE rfl rfl) <| zI <| zA <| zL ?_
    exact ⟨⟨(rfl : toAV (Al.look _ _) = some _).trans (congrArg some (by (exact congrArg bv (by first | exact (decide_eq_false (fun e => q (by rw [e]))).symm | (rw [Bool.eq_iff_iff, decide_eq_true_iff, decide_eq_true_iff]; exact ⟨fun h => GRes.ext' f1 h, fun h => by rw [h]⟩))))), rfl⟩, trivial⟩
  · rw [hb1]
    have q : ¬ a.attrs = b.attrs := fun h => by have e := hb1; rw [h, sameAs_refl] at e; cases e
    refine zH rfl rfl rfl <| zH rfl rfl rfl <| zH rfl rfl rfl <| zH rfl rfl rfl <| zH rfl rfl rfl <| g_u (zh rfl rfl rfl) <| g_u (zE rfl rfl) <| zI <| zA <| zL ?_
    exact ⟨⟨(rfl : toAV (Al.look _ _) = some _).trans (congrArg some (by (exact congrArg bv (by first | exact (decide_eq_false (fun e => q (by rw [e]))).symm | (rw [Bool.eq_iff_iff, decide_eq_true_iff, decide_eq_true_iff]; exact ⟨fun h => GRes.ext' f1 h, fun h => by rw [h]⟩))))), rfl⟩, trivial⟩
theorem psameB_c (a b : List GRes) (hw : wtB a ≤ 1000000000) : zo Tryz.prog Γ0 44 [yK a, yK b] [bv (decide (a = b))] := by
  have ql := yR GRes.wt (fun e => by unfold GRes.wt; omega) a
  have qw : wtB a = z7 GRes.wt a := rfl
  refine z_ Tryz.func44 rfl Tryz.ntmps44 (by kernel_rfl) rfl fun w0 I0 G0 => ?_
  refine zD <| zB <| g_uG (zi 1002 rfl rfl rfl rfl) rfl <| g_uG (zi 1003 rfl rfl rfl rfl) rfl <| g_u (zE rfl rfl) <| zI <| zA <| zD <| zB <| g_u (zF rfl rfl xD rfl) <| g_u (zG rfl rfl rfl tA22 tS22 rfl rfl) <| g_u (zF rfl rfl xD rfl) <| g_u (zG rfl rfl rfl tA22 tS22 rfl rfl) ?_
  refine g_u (zP (eqdR_c a b 72 (by omega) (fun x hx y => psameR_c x y (by have h5 := yD GRes.wt hx; omega))) rfl rfl) ?_
  refine g_u (zE rfl rfl) <| zI <| zA <| zL ?_
  exact ⟨⟨(rfl : toAV (Al.look _ _) = some _).trans (congrArg some (by rfl)), rfl⟩, trivial⟩
end Go.Proofs
namespace Go.Proofs
open Go Go.Al
set_option maxRecDepth 10000
end Go.Proofs
namespace Go.Proofs
open Go Go.Al
set_option maxRecDepth 10000
end Go.Proofs
namespace Go.Proofs
open Go Go.Al
set_option maxRecDepth 10000
set_option maxHeartbeats 4000000 in
theorem rspan28_c (b : List GRes) (p : Int × Int × Int) (h : inB b p = true) : zo Tryz.prog Γ0 59 [yK b, placeAv p] [(atS b p).av] := by
  have h9 := inB_iff.1 h
  have n1 : (p.1.toNat : Int) = p.1 := Int.toNat_of_nonneg (by omega)
  have n2 : (p.2.1.toNat : Int) = p.2.1 := Int.toNat_of_nonneg (by omega)
  have n3 : (p.2.2.toNat : Int) = p.2.2 := Int.toNat_of_nonneg (by omega)
  refine z_ Tryz.func59 rfl Tryz.ntmps59 (by kernel_rfl) rfl fun w0 I0 G0 => ?_
  refine zD <| zB <| g_uG (zi 1002 rfl rfl rfl rfl) rfl <| g_uG (zi 1003 rfl rfl rfl rfl) rfl <| g_uG (zl 1004 rfl rfl rfl tZ63) rfl <| zI <| zA <| zD <| yE yt <| g_u (zF rfl rfl xD rfl) <| g_u (zG rfl rfl rfl tA22 tS22 rfl rfl) <| g_u (zF rfl rfl fa98_0 rfl) <| g_u (zG rfl rfl rfl tA3 tS3 rfl rfl) ?_
  refine g_u (zJ rfl rfl rfl Tryz.underlying22 tS47 (by omega) (vD (d := gr0) (show p.1.toNat < b.length by omega))) ?_
  refine g_u (zV rfl rfl wR rfl rfl) <| g_u (zT rfl rfl tA45 tS45 rfl rfl) <| g_u (zF rfl rfl fa98_1 rfl) <| g_u (zG rfl rfl rfl tA3 tS3 rfl rfl) ?_
  refine g_u (zJ rfl rfl rfl Tryz.underlying45 tS51 (by omega) (vD (d := gc0) (show p.2.1.toNat < (nthR b p.1.toNat).scopes.length by omega))) ?_
  refine g_u (zV rfl rfl wm rfl rfl) <| g_u (zT rfl rfl tA49 tS49 rfl rfl) <| g_u (zF rfl rfl fa98_2 rfl) <| g_u (zG rfl rfl rfl tA3 tS3 rfl rfl) ?_
  refine g_u (zJ rfl rfl rfl Tryz.underlying49 tS63 (by omega) (vD (d := gs0) (show p.2.2.toNat < (nthC (nthR b p.1.toNat).scopes p.2.1.toNat).spans.length by omega))) ?_
  refine g_u (zT rfl rfl tA63 tS63 rfl (by first | exact xP (GSpan.width _) rfl | rfl)) ?_
  refine g_u (zK rfl rfl rfl tS63 (by first | exact beqW (GSpan.width _) | rfl) (by first | exact xy (z63_w.trans (GSpan.width _).symm) rfl | rfl)) ?_
  refine zI ⟨by kernel_rfl, ?_⟩
  refine zA <| zL ?_
  exact ⟨⟨_, _, _, _, _, _, _, rfl, rfl, tA63, tS63, rfl, rfl, (rfl : toAV _ = some _).trans (congrArg some (by (unfold atS; rw [h]; rfl)))⟩, trivial⟩
end Go.Proofs
namespace Go.Proofs
open Go Go.Al
set_option maxRecDepth 10000
end Go.Proofs
namespace Go.Proofs
open Go Go.Al
end Go.Proofs
namespace Go.Proofs
open Go Go.Al
end Go.Proofs
namespace Go.Al
open Go.RowKit
section
variable {P : Program} {w : World} {p : Array (String × TypeId)}
end
section
variable {C : Cx} {A : Nat → SV} {d : Nat} {ty : TypeId} {pos : String} {af : Array Edge} {gd : Option (Nat × Bool)} {x y : Operand} {T T' : TypeId}
theorem SimG.ptr {C : Cx} {A : Nat → SV} {G : Gh} {a : Act} {w : World} (S : SimG C A G a w) {x : Operand} {g off : Nat} (h : Al.opS A x = .ptr g off) : a.eval x = .pointer (some ⟨G.blk g, off, none⟩) := by
  obtain ⟨c, h1, h2⟩ := S.opS h rfl
  simp only [RepS] at h1
  rw [h2, h1]; rfl
theorem SimG.ifp {C : Cx} {A : Nat → SV} {G : Gh} {a : Act} {w : World} (S : SimG C A G a w) {x : Operand} {T g off : Nat} (h : Al.opS A x = .ifp T g off) : a.eval x = .iface T (.pointer (some ⟨G.blk g, off, none⟩)) := by
  obtain ⟨c, h1, h2⟩ := S.opS h rfl
  simp only [RepS] at h1
  rw [h2, h1]; rfl
theorem y3 {g off : Nat} (hN : Nat.blt d C.N = true) (hx : opS A x = .ptr g off) : zr C ⟨some d, .nilCheck x, ty, pos, af, gd⟩ (opR x) [] A [(d, .ptr g off)] := by
  refine zr.value rfl hN fun A' G a w hR S => ?_
  have hev := S.ptr ((ye hR).trans hx)
  refine ⟨a.eval x, by simp only [execOp, hev]; rfl, ?_⟩
  rw [hev]
  exact ⟨[.pointer (some ⟨G.blk g, off, none⟩)], by simp only [RepS], rfl⟩
end
end Go.Al
namespace Go.Al
open Go.RowKit
section
variable {C : Cx} {A : Nat → SV} {d : Nat} {ty : TypeId} {pos : String} {af : Array Edge} {gd : Option (Nat × Bool)} {x y : Operand} {T T' : TypeId} {h fl h2 fl2 : Value}
end
end Go.Al
namespace Go.Al
open Go.RowKit
section
variable {C : Cx} {A : Nat → SV} {ty : TypeId} {pos : String} {af : Array Edge} {gd : Option (Nat × Bool)} {x y : Operand} {T T' : TypeId}
end
end Go.Al
namespace Go.Proofs
open Go Go.Al
theorem ixStr {l : List ByteArray} {i : Nat} (h : i < l.length) : (l.map fun x => sv x)[((i : Nat) : Int).toNat]? = some (sv (nth l i ⟨#[]⟩)) := vD (d := (⟨#[]⟩ : ByteArray)) (f := fun x => sv x) h
end Go.Proofs
namespace Go.Proofs
open Go Go.Al
def allS (b : List GRes) : List GSpan := b.flatMap fun r => zz r.scopes
theorem plR_all : ∀ (i : Nat) (b : List GRes), (plR i b).length = (allS b).length
  | _, [] => rfl
  | i, r :: b => by rw [plR, allS, List.flatMap_cons, List.length_append, List.length_append, plC_len, plR_all (i + 1) b]; rfl
structure GCore where
  trace : Bs
  id : Bs
  parent : Bs
  name : ByteArray
  begun : Int
  lasts : Int
def GCore.av (c : GCore) : AV := .agg [.arr 16 c.trace, .arr 8 c.id, .arr 8 c.parent, sv c.name, iv c.begun, iv c.lasts]
theorem GCore.ext' {a b : GCore} (h1 : a.trace = b.trace) (h2 : a.id = b.id) (h3 : a.parent = b.parent) (h4 : a.name = b.name) (h5 : a.begun = b.begun) (h6 : a.lasts = b.lasts) : a = b := by cases a; cases b; simp_all
instance : DecidableEq GCore := fun a b => decidable_of_iff (a.trace = b.trace ∧ a.id = b.id ∧ a.parent = b.parent ∧ a.name = b.name ∧ a.begun = b.begun ∧ a.lasts = b.lasts) ⟨fun h => GCore.ext' h.1 h.2.1 h.2.2.1 h.2.2.2.1 h.2.2.2.2.1 h.2.2.2.2.2, fun h => by rw [h]; exact ⟨rfl, rfl, rfl, rfl, rfl, rfl⟩⟩
end Go.Proofs
namespace Go.Proofs
open Go Go.Al
def nZ : List Int := [0, 2, 3, 4, 5, 6, 7]
def kZ : List ByteArray := [k_error, k_code]
def keptZ (l : List GA) : List GA := xE kZ (l.map (yl nZ))
def nzE (e : GE) : GE := ⟨wholeN e.time, e.name, []⟩
def nzS (s : GSpan) : GSpan :=
  { s with state := ⟨#[]⟩, kind := if s.kind = 1 then 0 else s.kind, start := (xH ⟨s.start, s.fin⟩).lo, fin := (xH ⟨s.start, s.fin⟩).hi, attrs := keptZ s.attrs, events := s.events.map nzE, links := [], note := if s.code = 2 then s.note else ⟨#[]⟩ }
abbrev Gp := List (ByteArray × List GSpan)
def gput : Gp → ByteArray → GSpan → Gp
  | [], k, s => [(k, [s])]
  | (k', l) :: g, k, s => if k' = k then (k', l ++ [s]) :: g else (k', l) :: gput g k s
def grpF (g : Gp) (l : List (ByteArray × GSpan)) : Gp := l.foldl (fun g x => gput g x.1 x.2) g
def grp (l : List (ByteArray × GSpan)) : Gp := grpF [] l
def resG (x : ByteArray × List GSpan) : GRes := ⟨wP [] x.1, [⟨⟨#[]⟩, ⟨#[]⟩, x.2⟩]⟩
def groupM (l : List (ByteArray × GSpan)) : List GRes := (grp l).map resG
def y9 (b : List GRes) : List (ByteArray × GSpan) := b.flatMap fun r => (zz r.scopes).map fun s => (yg r, nzS s)
def nzB (b : List GRes) : List GRes := groupM (y9 b)
theorem grpF_append (g : Gp) (l m : List (ByteArray × GSpan)) : grpF g (l ++ m) = grpF (grpF g l) m := List.foldl_append ..
theorem grp_snoc (l : List (ByteArray × GSpan)) (k : ByteArray) (s : GSpan) : grp (l ++ [(k, s)]) = gput (grp l) k s := grpF_append _ _ _
instance decMemB (k : ByteArray) (l : List ByteArray) : Decidable (k ∈ l) := decidable_of_iff ((l.any fun x => decide (x = k)) = true) (by
  rw [List.any_eq_true]
  constructor
  · rintro ⟨x, hx, h⟩; exact of_decide_eq_true h ▸ hx
  · exact fun h => ⟨k, h, decide_eq_true rfl⟩)
def ym (g : Gp) : List ByteArray := g.map (·.1)
theorem keys_gput : ∀ (g : Gp) (k : ByteArray) (s : GSpan), ym (gput g k s) = if k ∈ ym g then ym g else ym g ++ [k]
  | [], k, s => by simp [gput, ym]
  | (k', l) :: g, k, s => by
    rw [gput]
    by_cases h : k' = k
    · rw [if_pos h]; simp [ym, h]
    · rw [if_neg h]
      have ih := keys_gput g k s
      unfold ym at ih ⊢
      rw [List.map_cons, List.map_cons, ih]
      have h2 : ¬ k = k' := fun e => h e.symm
      by_cases hk : k ∈ g.map (·.1)
      · rw [if_pos hk, if_pos (List.mem_cons_of_mem _ hk)]
      · rw [if_neg hk, if_neg (by intro hm; rcases List.mem_cons.1 hm with e | e; exact h2 e; exact hk e)]; rfl
theorem keys_nodup_put {g : Gp} (h : (ym g).Nodup) (k : ByteArray) (s : GSpan) : (ym (gput g k s)).Nodup := by
  rw [keys_gput]
  split
  · exact h
  · rename_i hk
    rw [List.nodup_append]
    exact ⟨h, by simp, fun a ha b hb e => by cases List.mem_singleton.1 hb; exact hk (e ▸ ha)⟩
theorem keys_nodupF : ∀ (l : List (ByteArray × GSpan)) {g : Gp}, (ym g).Nodup → (ym (grpF g l)).Nodup
  | [], g, h => h
  | x :: l, g, h => keys_nodupF l (keys_nodup_put h x.1 x.2)
theorem keys_nodup (l : List (ByteArray × GSpan)) : (ym (grp l)).Nodup := keys_nodupF l (by simp [ym])
theorem keys_one {k : ByteArray} : ∀ {l : List (ByteArray × GSpan)} (g : Gp), (∀ x ∈ l, x.1 = k) → ym (grpF g l) = if l = [] ∨ k ∈ ym g then ym g else ym g ++ [k]
  | [], g, _ => by simp [grpF]
  | x :: l, g, h => by
    have hx := h x List.mem_cons_self
    have ih := keys_one (k := k) (l := l) (gput g x.1 x.2) fun y hy => h y (List.mem_cons_of_mem _ hy)
    show ym (grpF (gput g x.1 x.2) l) = _
    rw [ih, keys_gput, hx]
    by_cases hk : k ∈ ym g
    · rw [if_pos hk, if_pos (.inr hk), if_pos (.inr hk)]
    · rw [if_neg hk, if_pos (.inr (by simp)), if_neg (by rintro (e | e); cases e; exact hk e)]
theorem gput_perm : ∀ (g : Gp) (k : ByteArray) (s : GSpan), ((gput g k s).flatMap (·.2)).Perm (g.flatMap (·.2) ++ [s])
  | [], k, s => by simp [gput]
  | (k', l) :: g, k, s => by
    rw [gput]
    split
    · rw [List.flatMap_cons, List.flatMap_cons, List.append_assoc, List.append_assoc]
      exact List.Perm.append_left l List.perm_append_comm
    · rw [List.flatMap_cons, List.flatMap_cons, List.append_assoc]
      exact List.Perm.append_left l (gput_perm g k s)
theorem grpF_perm : ∀ (l : List (ByteArray × GSpan)) (g : Gp), ((grpF g l).flatMap (·.2)).Perm (g.flatMap (·.2) ++ l.map (·.2))
  | [], g => by simp [grpF]
  | x :: l, g => by
    refine (grpF_perm l (gput g x.1 x.2)).trans ?_
    rw [List.map_cons]
    have h := (gput_perm g x.1 x.2).append_right (l.map (·.2))
    rwa [List.append_assoc] at h
theorem grp_perm (l : List (ByteArray × GSpan)) : ((grp l).flatMap (·.2)).Perm (l.map (·.2)) := grpF_perm l []
theorem rowsZ_spans (b : List GRes) : (y9 b).map (·.2) = (allS b).map nzS := by
  unfold y9 allS
  rw [List.map_flatMap, List.map_flatMap]
  refine congrArg (fun f => List.flatMap f b) (funext fun r => ?_)
  rw [List.map_map]; rfl
theorem rows_one (r : GRes) : ∀ x ∈ (zz r.scopes).map (fun s => (yg r, nzS s)), x.1 = yg r := fun x hx => by
  obtain ⟨s, _, rfl⟩ := List.mem_map.1 hx; rfl
theorem keysMem : ∀ (l : List (ByteArray × GSpan)) (g : Gp) (k : ByteArray), k ∈ ym (grpF g l) → k ∈ ym g ∨ ∃ x ∈ l, x.1 = k
  | [], g, k, h => .inl h
  | x :: l, g, k, h => by
    rcases keysMem l _ k h with h | ⟨y, hy, e⟩
    · rw [keys_gput] at h
      split at h
      · exact .inl h
      · rcases List.mem_append.1 h with h | h
        · exact .inl h
        · exact .inr ⟨x, List.mem_cons_self, (List.mem_singleton.1 h).symm⟩
    · exact .inr ⟨y, List.mem_cons_of_mem _ hy, e⟩
theorem rowsZ_mem {b : List GRes} {x : ByteArray × GSpan} (h : x ∈ y9 b) : ∃ r ∈ b, x.1 = yg r ∧ ∃ c ∈ r.scopes, ∃ s ∈ c.spans, x.2 = nzS s := by
  obtain ⟨r, hr, hx⟩ := List.mem_flatMap.1 h
  obtain ⟨s, hs, rfl⟩ := List.mem_map.1 hx
  obtain ⟨c, hc, hs⟩ := spansOf_mem hs
  exact ⟨r, hr, rfl, c, hc, s, hs, rfl⟩
end Go.Proofs
namespace Go.Proofs
open Go Go.Al
def vH (l : List (ByteArray × GSpan)) (k : ByteArray) : List GSpan := (l.filter fun x => decide (x.1 = k)).map (·.2)
theorem ofKey_snoc (l : List (ByteArray × GSpan)) (x : ByteArray × GSpan) (k : ByteArray) : vH (l ++ [x]) k = vH l k ++ (if x.1 = k then [x.2] else []) := by
  unfold vH
  rw [List.filter_append, List.map_append]
  congr 1
  by_cases h : x.1 = k <;> simp [h]
theorem ofKey_none {l : List (ByteArray × GSpan)} {k : ByteArray} (h : ∀ x ∈ l, x.1 ≠ k) : vH l k = [] := by
  unfold vH
  rw [List.filter_eq_nil_iff.2 fun x hx => by simpa using h x hx]; rfl
theorem keys_snoc (l : List (ByteArray × GSpan)) (x : ByteArray × GSpan) : ym (grp (l ++ [x])) = if x.1 ∈ ym (grp l) then ym (grp l) else ym (grp l) ++ [x.1] := by
  rw [show l ++ [x] = l ++ [(x.1, x.2)] from rfl, grp_snoc, keys_gput]
theorem keys_has {l : List (ByteArray × GSpan)} {k : ByteArray} : k ∈ ym (grp l) ↔ ∃ x ∈ l, x.1 = k := by
  constructor
  · intro h
    rcases keysMem l [] k h with h | h
    · cases h
    · exact h
  · have key : ∀ (m l : List (ByteArray × GSpan)), (∀ k, (∃ x ∈ l, x.1 = k) → k ∈ ym (grp l)) → ∀ k, (∃ x ∈ l ++ m, x.1 = k) → k ∈ ym (grp (l ++ m)) := by
      intro m
      induction m with
      | nil => intro l h k; rw [List.append_nil]; exact h k
      | cons x m ih =>
        intro l h k
        have e : l ++ x :: m = (l ++ [x]) ++ m := by simp
        rw [e]
        refine ih (l ++ [x]) (fun k hk => ?_) k
        rw [keys_snoc]
        obtain ⟨y, hy, e⟩ := hk
        rcases List.mem_append.1 hy with hy | hy
        · have := h k ⟨y, hy, e⟩
          split
          · exact this
          · exact List.mem_append_left _ this
        · cases List.mem_singleton.1 hy
          subst e
          split
          · assumption
          · simp
    intro h
    exact key l [] (fun k ⟨x, hx, _⟩ => by cases hx) k (by simpa using h)
theorem gput_map {l : List (ByteArray × GSpan)} {k : ByteArray} {s : GSpan} : ∀ {ks : List ByteArray}, ks.Nodup → (k ∉ ks → ∀ x ∈ l, x.1 ≠ k) →
    gput (ks.map fun k => (k, vH l k)) k s = (if k ∈ ks then ks else ks ++ [k]).map fun k' => (k', vH (l ++ [(k, s)]) k')
  | [], _, h => by
    rw [List.map_nil, gput, if_neg (by simp)]
    simp only [List.nil_append, List.map_cons, List.map_nil]
    rw [ofKey_snoc, ofKey_none (h (by simp)), if_pos rfl]; rfl
  | k' :: ks, hn, h => by
    obtain ⟨h1, h2⟩ := List.nodup_cons.1 hn
    rw [List.map_cons, gput]
    by_cases he : k' = k
    · rw [if_pos he, if_pos (by rw [he]; exact List.mem_cons_self), List.map_cons, ofKey_snoc, if_pos he.symm]
      congr 1
      refine List.map_congr_left fun y hy => ?_
      have : ¬ k = y := fun e => h1 (by rw [he, e]; exact hy)
      rw [ofKey_snoc, if_neg this, List.append_nil]
    · have ih := gput_map (l := l) (k := k) (s := s) h2 (fun hk => h (by intro hm; rcases List.mem_cons.1 hm with e | e; exact he e.symm; exact hk e))
      have e1 : vH (l ++ [(k, s)]) k' = vH l k' := by rw [ofKey_snoc, if_neg (fun e => he e.symm), List.append_nil]
      rw [if_neg he, ih]
      by_cases hk : k ∈ ks
      · rw [if_pos hk, if_pos (List.mem_cons_of_mem _ hk), List.map_cons, e1]
      · rw [if_neg hk, if_neg (by intro hm; rcases List.mem_cons.1 hm with e | e; exact he e.symm; exact hk e), List.cons_append, List.map_cons, e1]
theorem grp_eq (l : List (ByteArray × GSpan)) : grp l = (ym (grp l)).map fun k => (k, vH l k) := by
  have key : ∀ (m l : List (ByteArray × GSpan)), grp l = (ym (grp l)).map (fun k => (k, vH l k)) → grp (l ++ m) = (ym (grp (l ++ m))).map fun k => (k, vH (l ++ m) k) := by
    intro m
    induction m with
    | nil => intro l h; rw [List.append_nil]; exact h
    | cons x m ih =>
      intro l h
      have e : l ++ x :: m = (l ++ [x]) ++ m := by simp
      rw [e]
      refine ih (l ++ [x]) ?_
      rw [keys_snoc, show l ++ [x] = l ++ [(x.1, x.2)] from rfl, grp_snoc]
      conv => lhs; rw [h]
      exact gput_map (keys_nodup l) fun hk y hy e => hk (keys_has.2 ⟨y, hy, e⟩)
  exact key l [] rfl
theorem groupM_eq (l : List (ByteArray × GSpan)) : groupM l = (ym (grp l)).map fun k => resG (k, vH l k) := by
  unfold groupM
  conv => lhs; rw [grp_eq l]
  rw [List.map_map]; rfl
def rq0 : ByteArray × GSpan := (⟨#[]⟩, gs0)
def nthQ (l : List (ByteArray × GSpan)) (i : Nat) : ByteArray × GSpan := nth l i rq0
theorem keys_take {l : List (ByteArray × GSpan)} {i : Nat} (h : i < l.length) : ym (grp (l.take (i + 1))) = if (nthQ l i).1 ∈ ym (grp (l.take i)) then ym (grp (l.take i)) else ym (grp (l.take i)) ++ [(nthQ l i).1] := by
  rw [zx (yZ (d := rq0) h), keys_snoc]; rfl
theorem ofKey_take {l : List (ByteArray × GSpan)} {i : Nat} (h : i < l.length) (k : ByteArray) : vH (l.take (i + 1)) k = vH (l.take i) k ++ (if (nthQ l i).1 = k then [(nthQ l i).2] else []) := by
  rw [zx (yZ (d := rq0) h), ofKey_snoc]; rfl
end Go.Proofs
namespace Go.Proofs
open Go Go.Al
section
variable {s : GScope} {ab : List ByteArray} {i : Nat}
end
section
variable {r : GRes} {a : ByteArray} {i : Nat}
end
section
variable {b : List GRes} {i : Nat}
end
end Go.Proofs
namespace Go.Proofs
open Go Go.Al
set_option maxRecDepth 10000
end Go.Proofs
namespace Go.Proofs
open Go Go.Al
set_option maxRecDepth 10000
end Go.Proofs
namespace Go.Proofs
open Go Go.Al
set_option maxRecDepth 10000
theorem zst_c (c : Int) (n : ByteArray) : zo Tryz.prog Γ0 29 [.agg [iv c, sv n]] [.agg [iv c, sv (if c = 2 then n else ⟨#[]⟩)]] := by
  refine z_ Tryz.func29 rfl Tryz.ntmps29 (by kernel_rfl) rfl fun w0 I0 G0 => ?_
  refine zD <| zB <| g_uG (zi 1001 rfl rfl rfl rfl) rfl <| g_uG (zl 1002 rfl rfl rfl tZ61) rfl <| zI <| zA <| zD <| zD <| zB <| g_u (zF rfl rfl fa61_0 rfl) <| g_u (zG rfl rfl rfl tA3 tS3 rfl rfl) <| g_u (wM rfl rfl rfl) <| zI <| zA ?_
  refine zW rfl (fun hb1 => ?_) (fun hb1 => ?_)
  · have q : ¬ c = 2 := bne_iff_ne.1 hb1
    refine zB <| g_u (zF rfl rfl fa61_1 rfl) <| g_u (zK rfl rfl rfl tS9 rfl rfl) <| zI <| zA <| zD <| zB <| g_u (zk rfl rfl rfl tA61 tS61 rfl rfl) <| g_u (zK rfl rfl rfl tS61 rfl rfl) <| zI <| zA <| zL ?_
    exact ⟨⟨_, _, _, _, _, _, _, rfl, rfl, tA61, tS61, rfl, rfl, (rfl : toAV _ = some _).trans (congrArg some (by (first | (rw [if_neg q]; done) | (rw [if_neg q]; rfl))))⟩, trivial⟩
  · have q : c = 2 := qd.1 hb1
    refine zY <| zA <| zD <| zB <| g_u (zG rfl rfl rfl tA61 tS61 rfl rfl) <| g_u (zK rfl rfl rfl tS61 rfl rfl) <| zI <| zA <| zL ?_
    exact ⟨⟨_, _, _, _, _, _, _, rfl, rfl, tA61, tS61, rfl, rfl, (rfl : toAV _ = some _).trans (congrArg some (by (rw [if_pos q])))⟩, trivial⟩
theorem rzst_c (c : Int) (n : ByteArray) : zo Tryz.prog Γ0 97 [.agg [iv c, sv n]] [.agg [iv c, sv (if c = 2 then n else ⟨#[]⟩)]] := by
  refine z_ Tryz.func97 rfl Tryz.ntmps97 (by kernel_rfl) rfl fun w0 I0 G0 => ?_
  refine zD <| zB <| g_uG (zi 1001 rfl rfl rfl rfl) rfl <| g_uG (zl 1002 rfl rfl rfl tZ61) rfl <| zI <| zA <| zD <| zD <| zB <| g_u (zF rfl rfl fa61_0 rfl) <| g_u (zG rfl rfl rfl tA3 tS3 rfl rfl) <| g_u (y6 rfl rfl rfl) <| zI <| zA ?_
  refine zW rfl (fun hb1 => ?_) (fun hb1 => ?_)
  · have q : c = 2 := beq_iff_eq.1 hb1
    refine zD <| zB <| g_u (zG rfl rfl rfl tA61 tS61 rfl rfl) <| g_u (zK rfl rfl rfl tS61 rfl rfl) <| zI <| zA <| zL <| zM ?_
    exact ⟨⟨_, _, _, _, _, _, _, rfl, rfl, tA61, tS61, rfl, rfl, (rfl : toAV _ = some _).trans (congrArg some (by (rw [if_pos q])))⟩, trivial⟩
  · have q : ¬ c = 2 := qe.1 hb1
    refine zY <| zA <| zD <| zB <| g_u (zF rfl rfl fa61_0 rfl) <| g_u (zG rfl rfl rfl tA3 tS3 rfl rfl) <| g_u (y_ rfl tU61 us61 pl61 rfl rfl rfl rfl) <| g_u (zK rfl rfl rfl tS61 rfl rfl) <| zI <| zA <| zL ?_
    exact ⟨⟨_, _, _, _, _, _, _, rfl, rfl, tA61, tS61, rfl, rfl, (rfl : toAV _ = some _).trans (congrArg some (by (first | (rw [if_neg q]; done) | (rw [if_neg q]; rfl))))⟩, trivial⟩
theorem wholeZ_c (n : Int) : zo Tryz.prog Γ0 53 [uv n] [uv (wholeN n)] := by
  refine z_ Tryz.func53 rfl Tryz.ntmps53 (by kernel_rfl) rfl fun w0 I0 G0 => ?_
  refine zD <| zB <| g_u (zE rfl rfl) <| zI <| zA <| zD <| zB <| g_u (zC rfl rfl) <| g_u (zP (micro_c _) rfl rfl) <| g_u (xu (nano_c _) rfl rfl) <| g_u (y8 rfl rfl) <| g_u (zj rfl rfl rfl rfl) <| g_u (zj rfl rfl rfl rfl) <| g_u (zE rfl rfl) <| g_u (zE rfl rfl) <| zI <| zA <| zD <| zB <| g_u (zC rfl rfl) <| g_u (zE rfl rfl) <| zI <| zA <| zL ?_
  exact ⟨⟨(rfl : toAV (Al.look _ _) = some _).trans (congrArg some (by rfl)), rfl⟩, trivial⟩
set_option maxHeartbeats 8000000 in
theorem nzS_c (s : GSpan) (ho : s.ok) (hw : s.wt ≤ 9000000) : zo Tryz.prog Γ0 28 [s.av] [(nzS s).av] := by
  have qw : s.wt = 1 + s.state.size + s.name.size + s.note.size + wtAs s.attrs + z7 GE.wt s.events + z7 GL.wt s.links := rfl
  have ql := yR GE.wt (fun e => by unfold GE.wt; omega) s.events
  have hl := yi s.attrs
  have hd : ∀ a ∈ xE kZ s.attrs, a.ok := fun a h => ho.2.2.2.1 a (wU h).1
  have hwd := dropA_wt kZ s.attrs
  refine z_ Tryz.func28 rfl Tryz.ntmps28 (by kernel_rfl) rfl fun w0 I0 G0 => ?_
  refine zD <| zB <| g_uG (zi 1001 rfl rfl rfl rfl) rfl <| g_uG (zl 1002 rfl rfl rfl tZ63) rfl <| zI <| zA <| zD <| zB <| g_u (zF rfl rfl fa63_6 rfl) <| g_u (zG rfl rfl rfl tA57 tS57 rfl rfl) <| g_u (zF rfl rfl fa63_7 rfl) <| g_u (zG rfl rfl rfl tA57 tS57 rfl rfl) <| g_u (y_ rfl tU105 us105 pl105 rfl rfl rfl rfl) <| g_u (zP (whole_c ⟨_, _⟩) rfl rfl) <| g_uG (zl 1003 rfl rfl rfl tZ105) rfl <| g_u (zK rfl rfl rfl tS105 rfl rfl) <| zI <| zA <| zD <| yE yt <| g_u (zF rfl rfl fa63_0 rfl) <| g_u (zG rfl rfl rfl tA54 tS54 rfl rfl) <| g_u (zF rfl rfl fa63_1 rfl) <| g_u (zG rfl rfl rfl tA56 tS56 rfl rfl) <| g_u (zF rfl rfl fa63_2 rfl) <| g_u (zG rfl rfl rfl tA56 tS56 rfl rfl) <| g_u (zF rfl rfl fa63_4 rfl) <| g_u (zG rfl rfl rfl tA9 tS9 rfl rfl) <| g_u (zF rfl rfl fa63_5 rfl) <| g_u (zG rfl rfl rfl tA3 tS3 rfl rfl) <| g_u (zF rfl rfl fa105_0 rfl) <| g_u (zG rfl rfl rfl tA57 tS57 rfl rfl) <| g_u (zF rfl rfl fa105_1 rfl) <| g_u (zG rfl rfl rfl tA57 tS57 rfl rfl) <| g_u (zF rfl rfl fa63_11 rfl) <| g_u (zG rfl rfl rfl tA61 tS61 rfl rfl) <| g_u (zP (zst_c _ _) rfl rfl) <| g_u (y_ rfl tZ63 us63 pl63 rfl rfl rfl rfl) <| g_uG (zl 1004 rfl rfl rfl tZ63) rfl ?_
  refine g_u (zK rfl rfl rfl tS63 (by first | exact beqW (GSpan.width _) | rfl) (by first | exact xy (z63_w.trans (GSpan.width _).symm) rfl | rfl)) ?_
  refine zI ⟨by kernel_rfl, ?_⟩
  refine zA <| zD <| zD <| zB <| g_u (zF rfl rfl fa63_5 rfl) <| g_u (zG rfl rfl rfl tA3 tS3 rfl rfl) <| g_u (y6 rfl rfl rfl) <| zI <| zA ?_
  refine zW rfl (fun hb1 => ?_) (fun hb1 => ?_)
  · have hk : (if s.kind = 1 then 0 else s.kind) = 0 := if_pos (beq_iff_eq.1 hb1)
    refine zB <| g_u (zF rfl rfl fa63_5 rfl) <| g_u (zK rfl rfl rfl tS3 rfl rfl) <| zI <| zA <| zD <| zB <| g_u (zF rfl rfl wy rfl) <| g_u (zG rfl rfl rfl tA44 tS44 rfl rfl) <| g_u (za (X0 := z5) rfl Tryz.underlying42 tS5 tZ5 rfl rfl rfl rfl rfl rfl rfl rfl) ?_
    refine g_u (zP (plainAs_c s.attrs nZ ho.2.2.2.1 (by omega) (by decide)) rfl rfl) ?_
    refine g_u (zE rfl rfl) <| zI <| zA <| zD <| zB <| g_u (zC rfl rfl) <| g_u (za (X0 := z9) rfl Tryz.underlying27 tS9 tZ9 rfl rfl rfl rfl rfl rfl rfl rfl) ?_
    refine g_u (zP (drop_c (s.attrs.map (yl nZ)) kZ (by rw [List.length_map]; omega) (by decide)) rfl rfl) ?_
    refine g_u (zF rfl rfl wy rfl) <| g_u (zK rfl rfl rfl tS44 rfl rfl) <| zI <| zA <| zD <| zD <| yn 3009 1004 3 38 rfl rfl rfl rfl rfl rfl rfl <| yn 3010 1004 26 39 rfl rfl rfl rfl rfl rfl rfl <| zB <| g_u (zF rfl rfl yw rfl) <| g_u (zG rfl rfl rfl tA58 tS58 rfl rfl) <| g_u (zw rfl rfl Tryz.underlying58) <| g_u (zC rfl rfl) <| zI <| zA <| zU ?_
    refine zp (fun i : Nat => [(1, .ptr 1001 0), (1001, .box 63 (.imm s.av)), (2, .ptr 1002 0), (1002, .box 63 (.imm z63)), (4, .ptr 1004 0), (1004, .box 63 (.agg [.imm (.arr 16 s.trace), .imm (.arr 8 s.id), .imm (.arr 8 s.parent), .imm (sv ⟨#[]⟩), .imm (sv s.name), .imm (iv (if s.kind = 1 then 0 else s.kind)), .imm (uv (xH ⟨s.start, s.fin⟩).lo), .imm (uv (xH ⟨s.start, s.fin⟩).hi), .imm (.sl 7 ((keptZ s.attrs).map avA)), .slg 3009 3 ((s.events.take i).map fun e => (nzE e).av), .slg 3010 26 [], .imm (.agg [iv s.code, sv (if s.code = 2 then s.note else ⟨#[]⟩)])])), (3009, .tok 3 ((s.events.take i).map fun e => (nzE e).av)), (3010, .tok 26 []), (45, .imm (.sl 3 (s.events.map GE.av))), (46, .imm (iv (s.events.length : Int))), (47, .imm (iv (i : Int)))]) (fun i => i ≤ s.events.length) (fun i => s.events.length - i) (0) ?_ ⟨rfl, rfl, rfl, rfl, rfl, (by rw [hk]; first | rfl | (unfold keptZ; rw [drop_plain]; rfl)), rfl, rfl, rfl, zZ rfl (by rw [List.length_map]), rfl, trivial⟩ ?_
    · exact Nat.zero_le _
    · rintro i h1; have h1 : i ≤ s.events.length := h1
      refine zD <| zB <| g_u (yb rfl rfl rfl) <| zI <| zA <| zD ?_
      refine zW rfl (fun hb2 => ?_) (fun hb2 => ?_)
      · have hi : i < s.events.length := by have := of_decide_eq_true hb2; (try simp only [List.length_map] at this); omega
        have hex := yD GE.wt (xm hi)
        have heq : (nthE s.events i).wt = 1 + (nthE s.events i).name.size + wtAs (nthE s.events i).attrs := rfl
        have heo := ho.2.2.2.2.1 _ (xm hi)
        refine zY <| zA <| zD <| zU <| zD <| zB ?_
        refine g_u (zJ rfl rfl rfl Tryz.underlying58 tS92 (by omega) (ixE hi)) ?_
        refine g_u (zT rfl rfl tA92 tS92 rfl rfl) <| g_uG (zl 1007 rfl rfl rfl tZ92) rfl <| g_u (zK rfl rfl rfl tS92 rfl rfl) <| zI <| zA <| yE yt <| g_u (zF rfl rfl yw rfl) <| g_u (yj rfl rfl rfl tA58 tS58 rfl rfl) <| g_u (zF rfl rfl fa92_0 rfl) <| g_u (zG rfl rfl rfl tA57 tS57 rfl rfl) <| g_u (zP (wholeZ_c _) rfl rfl) <| g_u (zF rfl rfl fa92_1 rfl) <| g_u (zG rfl rfl rfl tA9 tS9 rfl rfl) <| g_u (y_ rfl tU92 us92 pl92 rfl rfl rfl rfl) <| g_u (za (X0 := z92) rfl Tryz.underlying58 tS92 tZ92 rfl rfl rfl rfl rfl rfl rfl rfl) ?_
        refine g_u (yA rfl rfl rfl rfl rfl Tryz.underlying58 Tryz.underlying58 tS92 zv92 rfl (by decide) by92 (by (try dsimp only); simp only [List.length_append, List.length_cons, List.length_nil, List.length_map, List.length_take, List.length_drop]; omega) (by (try dsimp only); simp only [List.length_append, List.length_cons, List.length_nil, List.length_map, List.length_take, List.length_drop]; omega)) ?_
        refine g_u (zF rfl rfl yw rfl) <| g_u (xO rfl rfl rfl rfl tS58 rfl rfl) ?_
        refine zI ⟨by kernel_rfl, ?_⟩
        refine zX <| zA <| zB <| g_u (yG rfl rfl rfl) <| g_u (zC rfl rfl) <| zI <| zA ?_
        have et : ((s.events.take (i + 1)).map fun e => (nzE e).av) = ((s.events.take i).map fun e => (nzE e).av) ++ [(nzE (nthE s.events i)).av] := by rw [zx (yZ (d := ge0) hi), List.map_append]; rfl
        refine ⟨i + 1, hi, ⟨rfl, rfl, rfl, rfl, rfl, (by rw [et]; rfl), z8 rfl et.symm, rfl, rfl, rfl, zZ rfl (by rw [ze (by omega) (by omega)]; rfl), trivial⟩, by (try dsimp only); omega⟩
      · have hin : i = s.events.length := by have := of_decide_eq_false hb2; (try simp only [List.length_map] at this); omega
        refine zu <| zR <| zR <| zn <| zA <| zD <| zB <| g_u (zk rfl rfl rfl tA63 tS63 rfl rfl) ?_
        refine g_u (zK rfl rfl rfl tS63 (by first | exact beqW (GSpan.width _) | rfl) (by first | exact xy (z63_w.trans (GSpan.width _).symm) rfl | rfl)) ?_
        refine zI <| zA <| zL ?_
        exact ⟨⟨_, _, _, _, _, _, _, rfl, rfl, tA63, tS63, rfl, rfl, (rfl : toAV _ = some _).trans (congrArg some (by (rw [hin, List.take_length]; show _ = GSpan.av (nzS s); simp only [GSpan.av, nzS, List.map_map]; rfl)))⟩, trivial⟩
  · have hk : (if s.kind = 1 then 0 else s.kind) = s.kind := if_neg (qe.1 hb1)
    refine zY <| zA <| zD <| zB <| g_u (zF rfl rfl wy rfl) <| g_u (zG rfl rfl rfl tA44 tS44 rfl rfl) <| g_u (za (X0 := z5) rfl Tryz.underlying42 tS5 tZ5 rfl rfl rfl rfl rfl rfl rfl rfl) ?_
    refine g_u (zP (plainAs_c s.attrs nZ ho.2.2.2.1 (by omega) (by decide)) rfl rfl) ?_
    refine g_u (zE rfl rfl) <| zI <| zA <| zD <| zB <| g_u (zC rfl rfl) <| g_u (za (X0 := z9) rfl Tryz.underlying27 tS9 tZ9 rfl rfl rfl rfl rfl rfl rfl rfl) ?_
    refine g_u (zP (drop_c (s.attrs.map (yl nZ)) kZ (by rw [List.length_map]; omega) (by decide)) rfl rfl) ?_
    refine g_u (zF rfl rfl wy rfl) <| g_u (zK rfl rfl rfl tS44 rfl rfl) <| zI <| zA <| zD <| zD <| yn 3009 1004 3 38 rfl rfl rfl rfl rfl rfl rfl <| yn 3010 1004 26 39 rfl rfl rfl rfl rfl rfl rfl <| zB <| g_u (zF rfl rfl yw rfl) <| g_u (zG rfl rfl rfl tA58 tS58 rfl rfl) <| g_u (zw rfl rfl Tryz.underlying58) <| g_u (zC rfl rfl) <| zI <| zA <| zU ?_
    refine zp (fun i : Nat => [(1, .ptr 1001 0), (1001, .box 63 (.imm s.av)), (2, .ptr 1002 0), (1002, .box 63 (.imm z63)), (4, .ptr 1004 0), (1004, .box 63 (.agg [.imm (.arr 16 s.trace), .imm (.arr 8 s.id), .imm (.arr 8 s.parent), .imm (sv ⟨#[]⟩), .imm (sv s.name), .imm (iv (if s.kind = 1 then 0 else s.kind)), .imm (uv (xH ⟨s.start, s.fin⟩).lo), .imm (uv (xH ⟨s.start, s.fin⟩).hi), .imm (.sl 7 ((keptZ s.attrs).map avA)), .slg 3009 3 ((s.events.take i).map fun e => (nzE e).av), .slg 3010 26 [], .imm (.agg [iv s.code, sv (if s.code = 2 then s.note else ⟨#[]⟩)])])), (3009, .tok 3 ((s.events.take i).map fun e => (nzE e).av)), (3010, .tok 26 []), (45, .imm (.sl 3 (s.events.map GE.av))), (46, .imm (iv (s.events.length : Int))), (47, .imm (iv (i : Int)))]) (fun i => i ≤ s.events.length) (fun i => s.events.length - i) (0) ?_ ⟨rfl, rfl, rfl, rfl, rfl, (by rw [hk]; first | rfl | (unfold keptZ; rw [drop_plain]; rfl)), rfl, rfl, rfl, zZ rfl (by rw [List.length_map]), rfl, trivial⟩ ?_
    · exact Nat.zero_le _
    · rintro i h1; have h1 : i ≤ s.events.length := h1
      refine zD <| zB <| g_u (yb rfl rfl rfl) <| zI <| zA <| zD ?_
      refine zW rfl (fun hb3 => ?_) (fun hb3 => ?_)
      · have hi : i < s.events.length := by have := of_decide_eq_true hb3; (try simp only [List.length_map] at this); omega
        have hex := yD GE.wt (xm hi)
        have heq : (nthE s.events i).wt = 1 + (nthE s.events i).name.size + wtAs (nthE s.events i).attrs := rfl
        have heo := ho.2.2.2.2.1 _ (xm hi)
        refine zY <| zA <| zD <| zU <| zD <| zB ?_
        refine g_u (zJ rfl rfl rfl Tryz.underlying58 tS92 (by omega) (ixE hi)) ?_
        refine g_u (zT rfl rfl tA92 tS92 rfl rfl) <| g_uG (zl 1007 rfl rfl rfl tZ92) rfl <| g_u (zK rfl rfl rfl tS92 rfl rfl) <| zI <| zA <| yE yt <| g_u (zF rfl rfl yw rfl) <| g_u (yj rfl rfl rfl tA58 tS58 rfl rfl) <| g_u (zF rfl rfl fa92_0 rfl) <| g_u (zG rfl rfl rfl tA57 tS57 rfl rfl) <| g_u (zP (wholeZ_c _) rfl rfl) <| g_u (zF rfl rfl fa92_1 rfl) <| g_u (zG rfl rfl rfl tA9 tS9 rfl rfl) <| g_u (y_ rfl tU92 us92 pl92 rfl rfl rfl rfl) <| g_u (za (X0 := z92) rfl Tryz.underlying58 tS92 tZ92 rfl rfl rfl rfl rfl rfl rfl rfl) ?_
        refine g_u (yA rfl rfl rfl rfl rfl Tryz.underlying58 Tryz.underlying58 tS92 zv92 rfl (by decide) by92 (by (try dsimp only); simp only [List.length_append, List.length_cons, List.length_nil, List.length_map, List.length_take, List.length_drop]; omega) (by (try dsimp only); simp only [List.length_append, List.length_cons, List.length_nil, List.length_map, List.length_take, List.length_drop]; omega)) ?_
        refine g_u (zF rfl rfl yw rfl) <| g_u (xO rfl rfl rfl rfl tS58 rfl rfl) ?_
        refine zI ⟨by kernel_rfl, ?_⟩
        refine zX <| zA <| zB <| g_u (yG rfl rfl rfl) <| g_u (zC rfl rfl) <| zI <| zA ?_
        have et : ((s.events.take (i + 1)).map fun e => (nzE e).av) = ((s.events.take i).map fun e => (nzE e).av) ++ [(nzE (nthE s.events i)).av] := by rw [zx (yZ (d := ge0) hi), List.map_append]; rfl
        refine ⟨i + 1, hi, ⟨rfl, rfl, rfl, rfl, rfl, (by rw [et]; rfl), z8 rfl et.symm, rfl, rfl, rfl, zZ rfl (by rw [ze (by omega) (by omega)]; rfl), trivial⟩, by (try dsimp only); omega⟩
      · have hin : i = s.events.length := by have := of_decide_eq_false hb3; (try simp only [List.length_map] at this); omega
        refine zu <| zR <| zR <| zn <| zA <| zD <| zB <| g_u (zk rfl rfl rfl tA63 tS63 rfl rfl) ?_
        refine g_u (zK rfl rfl rfl tS63 (by first | exact beqW (GSpan.width _) | rfl) (by first | exact xy (z63_w.trans (GSpan.width _).symm) rfl | rfl)) ?_
        refine zI <| zA <| zL ?_
        exact ⟨⟨_, _, _, _, _, _, _, rfl, rfl, tA63, tS63, rfl, rfl, (rfl : toAV _ = some _).trans (congrArg some (by (rw [hin, List.take_length]; show _ = GSpan.av (nzS s); simp only [GSpan.av, nzS, List.map_map]; rfl)))⟩, trivial⟩
set_option maxHeartbeats 8000000 in
theorem rnzS_c (s : GSpan) (ho : s.ok) (hw : s.wt ≤ 9000000) : zo Tryz.prog Γ0 66 [s.av] [(nzS s).av] := by
  have qw : s.wt = 1 + s.state.size + s.name.size + s.note.size + wtAs s.attrs + z7 GE.wt s.events + z7 GL.wt s.links := rfl
  have ql := yR GE.wt (fun e => by unfold GE.wt; omega) s.events
  have hl := yi s.attrs
  have hd : ∀ a ∈ xE kZ s.attrs, a.ok := fun a h => ho.2.2.2.1 a (wU h).1
  have hwd := dropA_wt kZ s.attrs
  refine z_ Tryz.func66 rfl Tryz.ntmps66 (by kernel_rfl) rfl fun w0 I0 G0 => ?_
  refine zD <| zB <| g_uG (zi 1001 rfl rfl rfl rfl) rfl <| g_uG (zl 1002 rfl rfl rfl tZ63) rfl <| zI <| zA <| zD <| yE yt <| g_u (zF rfl rfl fa63_0 rfl) <| g_u (zG rfl rfl rfl tA54 tS54 rfl rfl) <| g_u (zF rfl rfl fa63_1 rfl) <| g_u (zG rfl rfl rfl tA56 tS56 rfl rfl) <| g_u (zF rfl rfl fa63_2 rfl) <| g_u (zG rfl rfl rfl tA56 tS56 rfl rfl) <| g_u (zF rfl rfl fa63_4 rfl) <| g_u (zG rfl rfl rfl tA9 tS9 rfl rfl) <| g_u (zF rfl rfl fa63_5 rfl) <| g_u (zG rfl rfl rfl tA3 tS3 rfl rfl) <| g_u (zF rfl rfl fa63_11 rfl) <| g_u (zG rfl rfl rfl tA61 tS61 rfl rfl) <| g_u (zP (rzst_c _ _) rfl rfl) <| g_u (y_ rfl tZ63 us63 pl63 rfl rfl rfl rfl) <| g_uG (zl 1003 rfl rfl rfl tZ63) rfl ?_
  refine g_u (zK rfl rfl rfl tS63 (by first | exact beqW (GSpan.width _) | rfl) (by first | exact xy (z63_w.trans (GSpan.width _).symm) rfl | rfl)) ?_
  refine zI ⟨by kernel_rfl, ?_⟩
  refine zA <| zD <| zD <| zB <| g_u (zF rfl rfl fa63_5 rfl) <| g_u (zG rfl rfl rfl tA3 tS3 rfl rfl) <| g_u (y6 rfl rfl rfl) <| zI <| zA ?_
  refine zW rfl (fun hb1 => ?_) (fun hb1 => ?_)
  · have hk : (if s.kind = 1 then 0 else s.kind) = 0 := if_pos (beq_iff_eq.1 hb1)
    refine zB <| g_u (zF rfl rfl fa63_5 rfl) <| g_u (zK rfl rfl rfl tS3 rfl rfl) <| zI <| zA <| zD <| zB <| g_u (zF rfl rfl fa63_6 rfl) <| g_u (zG rfl rfl rfl tA57 tS57 rfl rfl) <| g_u (zF rfl rfl fa63_7 rfl) <| g_u (zG rfl rfl rfl tA57 tS57 rfl rfl) ?_
    refine g_u (xu ((show zo Tryz.prog Γ0 95 [uv s.start, uv s.fin] [uv (xH ⟨s.start, s.fin⟩).lo, uv (xH ⟨s.start, s.fin⟩).hi] from by rw [(tells5 _ _).1, (tells5 _ _).2]; exact rwhole_c _ _)) rfl rfl) ?_
    refine g_u (y8 rfl rfl) <| g_u (zj rfl rfl rfl rfl) <| g_u (zj rfl rfl rfl rfl) <| g_u (zF rfl rfl fa63_6 rfl) <| g_u (zK rfl rfl rfl tS57 rfl rfl) <| g_u (zF rfl rfl fa63_7 rfl) <| g_u (zK rfl rfl rfl tS57 rfl rfl) <| zI <| zA <| zD <| zB <| g_u (zF rfl rfl wy rfl) <| g_u (zG rfl rfl rfl tA44 tS44 rfl rfl) <| g_u (za (X0 := z9) rfl Tryz.underlying27 tS9 tZ9 rfl rfl rfl rfl rfl rfl rfl rfl) ?_
    refine g_u (zP (rdrop_c s.attrs kZ (by omega) (by decide)) rfl rfl) ?_
    refine g_u (za (X0 := z5) rfl Tryz.underlying42 tS5 tZ5 rfl rfl rfl rfl rfl rfl rfl rfl) ?_
    refine g_u (zP (rplainAs_c (xE kZ s.attrs) nZ hd (by omega) (by decide)) rfl rfl) ?_
    refine g_u (zF rfl rfl wy rfl) <| g_u (zK rfl rfl rfl tS44 rfl rfl) <| zI <| zA <| zD <| zD <| yn 3009 1003 3 38 rfl rfl rfl rfl rfl rfl rfl <| yn 3010 1003 26 39 rfl rfl rfl rfl rfl rfl rfl <| zB <| g_u (zE rfl rfl) <| zI <| zA <| zU ?_
    refine zp (fun i : Nat => [(1, .ptr 1001 0), (1001, .box 63 (.imm s.av)), (2, .ptr 1002 0), (1002, .box 63 (.imm z63)), (3, .ptr 1003 0), (1003, .box 63 (.agg [.imm (.arr 16 s.trace), .imm (.arr 8 s.id), .imm (.arr 8 s.parent), .imm (sv ⟨#[]⟩), .imm (sv s.name), .imm (iv (if s.kind = 1 then 0 else s.kind)), .imm (uv (xH ⟨s.start, s.fin⟩).lo), .imm (uv (xH ⟨s.start, s.fin⟩).hi), .imm (.sl 7 ((keptZ s.attrs).map avA)), .slg 3009 3 ((s.events.take i).map fun e => (nzE e).av), .slg 3010 26 [], .imm (.agg [iv s.code, sv (if s.code = 2 then s.note else ⟨#[]⟩)])])), (3009, .tok 3 ((s.events.take i).map fun e => (nzE e).av)), (3010, .tok 26 []), (4, .imm (iv (i : Int)))]) (fun i => i ≤ s.events.length) (fun i => s.events.length - i) (0) ?_ ⟨rfl, rfl, rfl, rfl, rfl, (by rw [hk]; first | rfl | (unfold keptZ; rw [drop_plain]; rfl)), rfl, rfl, rfl, trivial⟩ ?_
    · exact Nat.zero_le _
    · rintro i h1; have h1 : i ≤ s.events.length := h1
      refine zD <| zD <| zB <| g_u (zC rfl rfl) <| g_u (zF rfl rfl yw rfl) <| g_u (zG rfl rfl rfl tA58 tS58 rfl rfl) <| g_u (zw rfl rfl Tryz.underlying58) <| g_u (yb rfl rfl rfl) <| zI <| zA ?_
      refine zW rfl (fun hb2 => ?_) (fun hb2 => ?_)
      · have hi : i < s.events.length := by have := of_decide_eq_true hb2; (try simp only [List.length_map] at this); omega
        have hex := yD GE.wt (xm hi)
        have heq : (nthE s.events i).wt = 1 + (nthE s.events i).name.size + wtAs (nthE s.events i).attrs := rfl
        have heo := ho.2.2.2.2.1 _ (xm hi)
        refine zY <| zA <| zD <| zU <| yE yt <| g_u (zF rfl rfl yw rfl) <| g_u (yj rfl rfl rfl tA58 tS58 rfl rfl) <| g_u (zF rfl rfl yw rfl) <| g_u (zG rfl rfl rfl tA58 tS58 rfl rfl) <| g_u (zC rfl rfl) ?_
        refine g_u (zJ rfl rfl rfl Tryz.underlying58 tS92 (by omega) (ixE hi)) ?_
        refine g_u (zV rfl rfl fa92_0 rfl rfl) <| g_u (zT rfl rfl tA57 tS57 rfl rfl) <| g_u (zP (rwholeN_c _) rfl rfl) <| g_u (zF rfl rfl yw rfl) <| g_u (zG rfl rfl rfl tA58 tS58 rfl rfl) <| g_u (zC rfl rfl) ?_
        refine g_u (zJ rfl rfl rfl Tryz.underlying58 tS92 (by omega) (ixE hi)) ?_
        refine g_u (zV rfl rfl fa92_1 rfl rfl) <| g_u (zT rfl rfl tA9 tS9 rfl rfl) <| g_u (y_ rfl tU92 us92 pl92 rfl rfl rfl rfl) <| g_u (za (X0 := z92) rfl Tryz.underlying58 tS92 tZ92 rfl rfl rfl rfl rfl rfl rfl rfl) ?_
        refine g_u (yA rfl rfl rfl rfl rfl Tryz.underlying58 Tryz.underlying58 tS92 zv92 rfl (by decide) by92 (by (try dsimp only); simp only [List.length_append, List.length_cons, List.length_nil, List.length_map, List.length_take, List.length_drop]; omega) (by (try dsimp only); simp only [List.length_append, List.length_cons, List.length_nil, List.length_map, List.length_take, List.length_drop]; omega)) ?_
        refine g_u (zF rfl rfl yw rfl) <| g_u (xO rfl rfl rfl rfl tS58 rfl rfl) ?_
        refine zI ⟨by kernel_rfl, ?_⟩
        refine zX <| zA <| zB <| g_u (zC rfl rfl) <| g_u (yG rfl rfl rfl) <| g_u (zE rfl rfl) <| zI <| zA ?_
        have et : ((s.events.take (i + 1)).map fun e => (nzE e).av) = ((s.events.take i).map fun e => (nzE e).av) ++ [(nzE (nthE s.events i)).av] := by rw [zx (yZ (d := ge0) hi), List.map_append]; rfl
        refine ⟨i + 1, hi, ⟨rfl, rfl, rfl, rfl, rfl, (by rw [et]; rfl), z8 rfl et.symm, rfl, zZ rfl (by rw [ze (by omega) (by omega)]; rfl), trivial⟩, by (try dsimp only); omega⟩
      · have hin : i = s.events.length := by have := of_decide_eq_false hb2; (try simp only [List.length_map] at this); omega
        refine zu <| zR <| zR <| zn <| zA <| zD <| zB <| g_u (zk rfl rfl rfl tA63 tS63 rfl rfl) ?_
        refine g_u (zK rfl rfl rfl tS63 (by first | exact beqW (GSpan.width _) | rfl) (by first | exact xy (z63_w.trans (GSpan.width _).symm) rfl | rfl)) ?_
        refine zI <| zA <| zL ?_
        exact ⟨⟨_, _, _, _, _, _, _, rfl, rfl, tA63, tS63, rfl, rfl, (rfl : toAV _ = some _).trans (congrArg some (by (rw [hin, List.take_length]; show _ = GSpan.av (nzS s); simp only [GSpan.av, nzS, List.map_map]; rfl)))⟩, trivial⟩
  · have hk : (if s.kind = 1 then 0 else s.kind) = s.kind := if_neg (qe.1 hb1)
    refine zY <| zA <| zD <| zB <| g_u (zF rfl rfl fa63_6 rfl) <| g_u (zG rfl rfl rfl tA57 tS57 rfl rfl) <| g_u (zF rfl rfl fa63_7 rfl) <| g_u (zG rfl rfl rfl tA57 tS57 rfl rfl) ?_
    refine g_u (xu ((show zo Tryz.prog Γ0 95 [uv s.start, uv s.fin] [uv (xH ⟨s.start, s.fin⟩).lo, uv (xH ⟨s.start, s.fin⟩).hi] from by rw [(tells5 _ _).1, (tells5 _ _).2]; exact rwhole_c _ _)) rfl rfl) ?_
    refine g_u (y8 rfl rfl) <| g_u (zj rfl rfl rfl rfl) <| g_u (zj rfl rfl rfl rfl) <| g_u (zF rfl rfl fa63_6 rfl) <| g_u (zK rfl rfl rfl tS57 rfl rfl) <| g_u (zF rfl rfl fa63_7 rfl) <| g_u (zK rfl rfl rfl tS57 rfl rfl) <| zI <| zA <| zD <| zB <| g_u (zF rfl rfl wy rfl) <| g_u (zG rfl rfl rfl tA44 tS44 rfl rfl) <| g_u (za (X0 := z9) rfl Tryz.underlying27 tS9 tZ9 rfl rfl rfl rfl rfl rfl rfl rfl) ?_
    refine g_u (zP (rdrop_c s.attrs kZ (by omega) (by decide)) rfl rfl) ?_
    refine g_u (za (X0 := z5) rfl Tryz.underlying42 tS5 tZ5 rfl rfl rfl rfl rfl rfl rfl rfl) ?_
    refine g_u (zP (rplainAs_c (xE kZ s.attrs) nZ hd (by omega) (by decide)) rfl rfl) ?_
    refine g_u (zF rfl rfl wy rfl) <| g_u (zK rfl rfl rfl tS44 rfl rfl) <| zI <| zA <| zD <| zD <| yn 3009 1003 3 38 rfl rfl rfl rfl rfl rfl rfl <| yn 3010 1003 26 39 rfl rfl rfl rfl rfl rfl rfl <| zB <| g_u (zE rfl rfl) <| zI <| zA <| zU ?_
    refine zp (fun i : Nat => [(1, .ptr 1001 0), (1001, .box 63 (.imm s.av)), (2, .ptr 1002 0), (1002, .box 63 (.imm z63)), (3, .ptr 1003 0), (1003, .box 63 (.agg [.imm (.arr 16 s.trace), .imm (.arr 8 s.id), .imm (.arr 8 s.parent), .imm (sv ⟨#[]⟩), .imm (sv s.name), .imm (iv (if s.kind = 1 then 0 else s.kind)), .imm (uv (xH ⟨s.start, s.fin⟩).lo), .imm (uv (xH ⟨s.start, s.fin⟩).hi), .imm (.sl 7 ((keptZ s.attrs).map avA)), .slg 3009 3 ((s.events.take i).map fun e => (nzE e).av), .slg 3010 26 [], .imm (.agg [iv s.code, sv (if s.code = 2 then s.note else ⟨#[]⟩)])])), (3009, .tok 3 ((s.events.take i).map fun e => (nzE e).av)), (3010, .tok 26 []), (4, .imm (iv (i : Int)))]) (fun i => i ≤ s.events.length) (fun i => s.events.length - i) (0) ?_ ⟨rfl, rfl, rfl, rfl, rfl, (by rw [hk]; first | rfl | (unfold keptZ; rw [drop_plain]; rfl)), rfl, rfl, rfl, trivial⟩ ?_
    · exact Nat.zero_le _
    · rintro i h1; have h1 : i ≤ s.events.length := h1
      refine zD <| zD <| zB <| g_u (zC rfl rfl) <| g_u (zF rfl rfl yw rfl) <| g_u (zG rfl rfl rfl tA58 tS58 rfl rfl) <| g_u (zw rfl rfl Tryz.underlying58) <| g_u (yb rfl rfl rfl) <| zI <| zA ?_
      refine zW rfl (fun hb3 => ?_) (fun hb3 => ?_)
      · have hi : i < s.events.length := by have := of_decide_eq_true hb3; (try simp only [List.length_map] at this); omega
        have hex := yD GE.wt (xm hi)
        have heq : (nthE s.events i).wt = 1 + (nthE s.events i).name.size + wtAs (nthE s.events i).attrs := rfl
        have heo := ho.2.2.2.2.1 _ (xm hi)
        refine zY <| zA <| zD <| zU <| yE yt <| g_u (zF rfl rfl yw rfl) <| g_u (yj rfl rfl rfl tA58 tS58 rfl rfl) <| g_u (zF rfl rfl yw rfl) <| g_u (zG rfl rfl rfl tA58 tS58 rfl rfl) <| g_u (zC rfl rfl) ?_
        refine g_u (zJ rfl rfl rfl Tryz.underlying58 tS92 (by omega) (ixE hi)) ?_
        refine g_u (zV rfl rfl fa92_0 rfl rfl) <| g_u (zT rfl rfl tA57 tS57 rfl rfl) <| g_u (zP (rwholeN_c _) rfl rfl) <| g_u (zF rfl rfl yw rfl) <| g_u (zG rfl rfl rfl tA58 tS58 rfl rfl) <| g_u (zC rfl rfl) ?_
        refine g_u (zJ rfl rfl rfl Tryz.underlying58 tS92 (by omega) (ixE hi)) ?_
        refine g_u (zV rfl rfl fa92_1 rfl rfl) <| g_u (zT rfl rfl tA9 tS9 rfl rfl) <| g_u (y_ rfl tU92 us92 pl92 rfl rfl rfl rfl) <| g_u (za (X0 := z92) rfl Tryz.underlying58 tS92 tZ92 rfl rfl rfl rfl rfl rfl rfl rfl) ?_
        refine g_u (yA rfl rfl rfl rfl rfl Tryz.underlying58 Tryz.underlying58 tS92 zv92 rfl (by decide) by92 (by (try dsimp only); simp only [List.length_append, List.length_cons, List.length_nil, List.length_map, List.length_take, List.length_drop]; omega) (by (try dsimp only); simp only [List.length_append, List.length_cons, List.length_nil, List.length_map, List.length_take, List.length_drop]; omega)) ?_
        refine g_u (zF rfl rfl yw rfl) <| g_u (xO rfl rfl rfl rfl tS58 rfl rfl) ?_
        refine zI ⟨by kernel_rfl, ?_⟩
        refine zX <| zA <| zB <| g_u (zC rfl rfl) <| g_u (yG rfl rfl rfl) <| g_u (zE rfl rfl) <| zI <| zA ?_
        have et : ((s.events.take (i + 1)).map fun e => (nzE e).av) = ((s.events.take i).map fun e => (nzE e).av) ++ [(nzE (nthE s.events i)).av] := by rw [zx (yZ (d := ge0) hi), List.map_append]; rfl
        refine ⟨i + 1, hi, ⟨rfl, rfl, rfl, rfl, rfl, (by rw [et]; rfl), z8 rfl et.symm, rfl, zZ rfl (by rw [ze (by omega) (by omega)]; rfl), trivial⟩, by (try dsimp only); omega⟩
      · have hin : i = s.events.length := by have := of_decide_eq_false hb3; (try simp only [List.length_map] at this); omega
        refine zu <| zR <| zR <| zn <| zA <| zD <| zB <| g_u (zk rfl rfl rfl tA63 tS63 rfl rfl) ?_
        refine g_u (zK rfl rfl rfl tS63 (by first | exact beqW (GSpan.width _) | rfl) (by first | exact xy (z63_w.trans (GSpan.width _).symm) rfl | rfl)) ?_
        refine zI <| zA <| zL ?_
        exact ⟨⟨_, _, _, _, _, _, _, rfl, rfl, tA63, tS63, rfl, rfl, (rfl : toAV _ = some _).trans (congrArg some (by (rw [hin, List.take_length]; show _ = GSpan.av (nzS s); simp only [GSpan.av, nzS, List.map_map]; rfl)))⟩, trivial⟩
end Go.Proofs
namespace Go.Proofs
open Go Go.Al
def newK (l : List (ByteArray × GSpan)) (k : ByteArray) (j : Nat) : Bool := !((l.take j).any fun x => decide (x.1 = k))
theorem newK_step {l : List (ByteArray × GSpan)} {k : ByteArray} {j : Nat} (h : j < l.length) : newK l k (j + 1) = (newK l k j && !((nthQ l j).1.toList == k.toList)) := by
  unfold newK
  rw [zx (yZ (d := rq0) h), List.any_append, yN, Bool.not_or]
  congr 1
  simp [nthQ]
  exact decide_eq_decide.2 Iff.rfl
theorem newK_keys {l : List (ByteArray × GSpan)} {k : ByteArray} {j : Nat} : newK l k j = true ↔ ¬ k ∈ ym (grp (l.take j)) := by
  unfold newK
  rw [keys_has]
  simp
  exact ⟨fun h x hx => h k x hx rfl, fun h a b hab e => h b (e ▸ hab)⟩
theorem newK_of {l : List (ByteArray × GSpan)} {k : ByteArray} {j : Nat} (h : newK l k j = true) : vH (l.take j) k = [] := ofKey_none fun x hx e => by
  unfold newK at h
  have h2 : ((l.take j).any fun x => decide (x.1 = k)) = true := List.any_eq_true.2 ⟨x, hx, by simpa using e⟩
  rw [h2] at h; cases h
theorem zip_len (ks : List ByteArray) (ss : List GSpan) : (ks.zip ss).length = min ks.length ss.length := List.length_zip
theorem zip_nth {ks : List ByteArray} {ss : List GSpan} {i : Nat} (h : i < (ks.zip ss).length) : nthQ (ks.zip ss) i = (nth ks i ⟨#[]⟩, nth ss i gs0) := by
  have h1 := yZ (d := rq0) h
  have hl := zip_len ks ss
  have h2 := yZ (d := (⟨#[]⟩ : ByteArray)) (show i < ks.length by omega)
  have h3 := yZ (d := gs0) (show i < ss.length by omega)
  rw [List.getElem?_zip_eq_some] at h1
  rw [h2, h3] at h1
  exact Prod.ext (Option.some.inj h1.1).symm (Option.some.inj h1.2).symm
def rowG (l : List (ByteArray × GSpan)) (i : Nat) : List AV := (ym (grp (l.take i))).map fun k => (resG (k, vH l k)).av
theorem rowG_new {l : List (ByteArray × GSpan)} {i : Nat} (h : i < l.length) (hn : newK l (nthQ l i).1 i = true) : rowG l (i + 1) = rowG l i ++ [(resG ((nthQ l i).1, vH l (nthQ l i).1)).av] := by
  unfold rowG
  rw [keys_take h, if_neg (newK_keys.1 hn), List.map_append]; rfl
theorem rowG_old {l : List (ByteArray × GSpan)} {i : Nat} (h : i < l.length) (hn : newK l (nthQ l i).1 i = false) : rowG l (i + 1) = rowG l i := by
  unfold rowG
  have : (nthQ l i).1 ∈ ym (grp (l.take i)) := Decidable.byContradiction fun hc => by
    have := newK_keys.2 hc; rw [hn] at this; cases this
  rw [keys_take h, if_pos this]
theorem rowG_len (l : List (ByteArray × GSpan)) (i : Nat) : (rowG l i).length ≤ l.length := by
  have h1 : ∀ m : List (ByteArray × GSpan), (ym (grp m)).length ≤ m.length := by
    intro m
    have : ∀ n, n ≤ m.length → (ym (grp (m.take n))).length ≤ n := by
      intro n
      induction n with
      | zero => intro _; exact Nat.le_refl _
      | succ n ih =>
        intro hn
        have h := ih (by omega)
        rw [keys_take (by omega)]
        split
        · omega
        · rw [List.length_append]; simp; omega
    have := this m.length (Nat.le_refl _)
    rwa [List.take_length] at this
  have h2 := h1 (l.take i)
  rw [List.length_take] at h2
  unfold rowG; rw [List.length_map]; omega
theorem rowG_all (l : List (ByteArray × GSpan)) : AV.agg [.sl 2 (rowG l l.length)] = yK (groupM l) := by
  unfold rowG yK
  rw [List.take_length, groupM_eq, List.map_map]; rfl
theorem ofKey_len (l : List (ByteArray × GSpan)) (k : ByteArray) : (vH l k).length ≤ l.length := by
  unfold vH; rw [List.length_map]; exact List.length_filter_le _ _
theorem ofKey_all {l : List (ByteArray × GSpan)} (k : ByteArray) : vH (l.take l.length) k = vH l k := by rw [List.take_length]
end Go.Proofs
namespace Go.Proofs
open Go Go.Al
set_option maxRecDepth 10000
set_option maxHeartbeats 8000000 in
theorem rgroup_c (ks : List ByteArray) (ss : List GSpan) (hk : ks.length ≤ 9000000) (hs : ss.length ≤ 9000000) : zo Tryz.prog Γ0 67 [.sl 1 (ks.map fun x => sv x), .sl 42 (ss.map GSpan.av)] [yK (groupM (ks.zip ss))] := by
  have qz := zip_len ks ss
  have q0 := rowG_len (ks.zip ss)
  refine z_ Tryz.func67 rfl Tryz.ntmps67 (by kernel_rfl) rfl fun w0 I0 G0 => ?_
  refine zD <| zB <| g_uG (zl 1004 rfl rfl rfl tZ24) rfl <| zI <| zA <| zD <| zB <| g_uG (zl 1005 rfl rfl rfl tZ24) rfl <| zI <| zA <| zD <| yn 3005 1005 2 0 rfl rfl rfl rfl rfl rfl rfl <| zB <| g_u (zC rfl rfl) <| g_u (zw rfl rfl Tryz.underlying27) <| g_u (zC rfl rfl) <| g_u (zw rfl rfl Tryz.underlying49) <| g_u (s_min rfl rfl rfl) <| g_u (zE rfl rfl) <| zI <| zA <| zD <| zD <| zB <| g_u (zE rfl rfl) <| zI <| zA <| zU ?_
  refine zp (fun i : Nat => [(0, .imm (.sl 1 (ks.map fun x => sv x))), (1, .imm (.sl 42 (ss.map GSpan.av))), (4, .ptr 1004 0), (1004, .box 24 (.imm z24)), (5, .ptr 1005 0), (6, .imm (iv ((ks.zip ss).length : Int))), (1005, .box 24 (.agg [.slg 3005 2 (rowG (ks.zip ss) i)])), (3005, .tok 2 (rowG (ks.zip ss) i)), (7, .imm (iv (i : Int)))]) (fun i => i ≤ (ks.zip ss).length) (fun i => (ks.zip ss).length - i) (0) ?_ ⟨rfl, rfl, rfl, rfl, rfl, zZ rfl (by simp only [List.length_map]; omega), rfl, rfl, rfl, trivial⟩ ?_
  · exact Nat.zero_le _
  · rintro i h1; have h1 : i ≤ (ks.zip ss).length := h1
    refine zD <| zD <| zB <| g_u (zC rfl rfl) <| g_u (zC rfl rfl) <| g_u (yb rfl rfl rfl) <| zI <| zA ?_
    refine zW rfl (fun hb1 => ?_) (fun hb1 => ?_)
    · have hi : i < (ks.zip ss).length := by have := of_decide_eq_true hb1; (try simp only [List.length_map] at this); omega
      have hik : i < ks.length := by omega
      have his : i < ss.length := by omega
      have ezi := zip_nth (ks := ks) (ss := ss) hi
      refine zY <| zA <| zD <| zU <| zD <| zB <| g_u (zE rfl rfl) <| zI <| zA <| zD <| zD <| zB <| g_u (zE rfl rfl) <| zI <| zA <| zU ?_
      refine zp (fun j : Nat => [(0, .imm (.sl 1 (ks.map fun x => sv x))), (1, .imm (.sl 42 (ss.map GSpan.av))), (4, .ptr 1004 0), (1004, .box 24 (.imm z24)), (5, .ptr 1005 0), (6, .imm (iv ((ks.zip ss).length : Int))), (1005, .box 24 (.agg [.slg 3005 2 (rowG (ks.zip ss) i)])), (3005, .tok 2 (rowG (ks.zip ss) i)), (7, .imm (iv (i : Int))), (8, .imm (bv (newK (ks.zip ss) (nth ks i ⟨#[]⟩) j))), (9, .imm (iv (j : Int)))]) (fun j => j ≤ i) (fun j => i - j) (0) ?_ ⟨rfl, rfl, rfl, rfl, rfl, rfl, rfl, rfl, rfl, rfl, rfl, trivial⟩ ?_
      · exact Nat.zero_le _
      · rintro j h2; have h2 : j ≤ i := h2
        refine zD <| zD <| zB <| g_u (zC rfl rfl) <| g_u (zC rfl rfl) <| g_u (yb rfl rfl rfl) <| zI <| zA ?_
        refine zW rfl (fun hb2 => ?_) (fun hb2 => ?_)
        · have hj : j < i := by have := of_decide_eq_true hb2; omega
          refine zY <| zA <| zD <| zU <| yE yt <| g_u (zC rfl rfl) <| g_u (zC rfl rfl) <| z0 (t := 28) rfl ?_
          rintro (hb3 | hb3)
          · rw [hb3]
            have hb8_ := hb3
            refine zN rfl rfl (zC rfl rfl) <| zN rfl rfl (zC rfl rfl) ?_
            refine zN rfl rfl (zJ rfl rfl rfl Tryz.underlying27 tS9 (by omega) (ixStr (by omega))) ?_
            refine zN rfl rfl (zT rfl rfl tA9 tS9 rfl rfl) <| zN rfl rfl (zC rfl rfl) <| zN rfl rfl (zC rfl rfl) ?_
            refine zN rfl rfl (zJ rfl rfl rfl Tryz.underlying27 tS9 (by omega) (ixStr (by omega))) ?_
            refine zN rfl rfl (zT rfl rfl tA9 tS9 rfl rfl) <| zN rfl rfl (s_neS rfl rfl rfl) <| g_u (zQ rfl rfl rfl) <| g_u (zE rfl rfl) ?_
            refine zI ⟨by kernel_rfl, ?_⟩
            refine zX <| zA <| zB <| g_u (zC rfl rfl) <| g_u (yG rfl rfl rfl) <| g_u (zE rfl rfl) <| zI <| zA ?_
            refine ⟨j + 1, hj, ⟨rfl, rfl, rfl, rfl, rfl, rfl, rfl, rfl, rfl, look_bool rfl (by rw [newK_step (by omega), hb8_]; first | rfl | (rw [zip_nth (i := j) (by omega)]; rfl)), zZ rfl (by rw [ze (by omega) (by omega)]; rfl), trivial⟩, by (try dsimp only); omega⟩
          · rw [hb3]
            have hb8_ := hb3
            refine zH rfl rfl rfl <| zH rfl rfl rfl <| zH rfl rfl rfl <| zH rfl rfl rfl <| zH rfl rfl rfl <| zH rfl rfl rfl <| zH rfl rfl rfl <| zH rfl rfl rfl <| zH rfl rfl rfl <| g_u (zh rfl rfl rfl) <| g_u (zE rfl rfl) ?_
            refine zI ⟨by kernel_rfl, ?_⟩
            refine zX <| zA <| zB <| g_u (zC rfl rfl) <| g_u (yG rfl rfl rfl) <| g_u (zE rfl rfl) <| zI <| zA ?_
            refine ⟨j + 1, hj, ⟨rfl, rfl, rfl, rfl, rfl, rfl, rfl, rfl, rfl, look_bool rfl (by rw [newK_step (by omega), hb8_]; first | rfl | (rw [zip_nth (i := j) (by omega)]; rfl)), zZ rfl (by rw [ze (by omega) (by omega)]; rfl), trivial⟩, by (try dsimp only); omega⟩
        · have hjn : i = j := by have := of_decide_eq_false hb2; omega
          subst hjn
          refine zu <| zR <| zR <| zn <| zA <| zD <| zB <| g_u (zC rfl rfl) <| zI <| zA ?_
          refine zW rfl (fun hb4 => ?_) (fun hb4 => ?_)
          · have hnew := hb4
            have er := rowG_new hi (by rw [ezi]; exact hnew)
            rw [ezi] at er
            refine zD <| zB <| g_u (zE rfl rfl) <| zI <| zA <| zD <| zD <| xJ 3010 10 42 rfl rfl rfl rfl <| zB <| g_u (zC rfl rfl) <| g_u (zE rfl rfl) <| zI <| zA <| zU ?_
            refine zp (fun t : Nat => [(0, .imm (.sl 1 (ks.map fun x => sv x))), (1, .imm (.sl 42 (ss.map GSpan.av))), (4, .ptr 1004 0), (1004, .box 24 (.imm z24)), (5, .ptr 1005 0), (6, .imm (iv ((ks.zip ss).length : Int))), (1005, .box 24 (.agg [.slg 3005 2 (rowG (ks.zip ss) i)])), (3005, .tok 2 (rowG (ks.zip ss) i)), (7, .imm (iv (i : Int))), (10, .slg 3010 42 ((vH ((ks.zip ss).take t) (nth ks i ⟨#[]⟩)).map GSpan.av)), (3010, .tok 42 ((vH ((ks.zip ss).take t) (nth ks i ⟨#[]⟩)).map GSpan.av)), (11, .imm (iv (t : Int)))]) (fun t => i ≤ t ∧ t ≤ (ks.zip ss).length) (fun t => (ks.zip ss).length - t) (i) ?_ ⟨rfl, rfl, rfl, rfl, rfl, rfl, rfl, rfl, rfl, yV rfl (by rw [newK_of hnew]; rfl), z8 rfl (by rw [newK_of hnew]; rfl), rfl, trivial⟩ ?_
            · exact ⟨Nat.le_refl _, by omega⟩
            · rintro t ⟨h3, h4⟩; (try dsimp only at h3 h4)
              refine zD <| zD <| zB <| g_u (zC rfl rfl) <| g_u (zC rfl rfl) <| g_u (yb rfl rfl rfl) <| zI <| zA ?_
              refine zW rfl (fun hb5 => ?_) (fun hb5 => ?_)
              · have ht : t < (ks.zip ss).length := by have := of_decide_eq_true hb5; omega
                have ezt := zip_nth (ks := ks) (ss := ss) ht
                have eo1 := ofKey_take ht (nth ks i ⟨#[]⟩)
                rw [ezt] at eo1
                have q3 := ofKey_len ((ks.zip ss).take t) (nth ks i ⟨#[]⟩)
                have q4 : ((ks.zip ss).take t).length ≤ (ks.zip ss).length := by rw [List.length_take]; omega
                refine zY <| zA <| zD <| zU <| zD <| yE yt <| g_u (zC rfl rfl) <| g_u (zC rfl rfl) ?_
                refine g_u (zJ rfl rfl rfl Tryz.underlying27 tS9 (by omega) (ixStr (by omega))) ?_
                refine g_u (zT rfl rfl tA9 tS9 rfl rfl) <| g_u (zC rfl rfl) <| g_u (zC rfl rfl) ?_
                refine g_u (zJ rfl rfl rfl Tryz.underlying27 tS9 (by omega) (ixStr (by omega))) ?_
                refine g_u (zT rfl rfl tA9 tS9 rfl rfl) <| g_u (s_eqS rfl rfl rfl) ?_
                refine zI ⟨by kernel_rfl, ?_⟩
                refine zA ?_
                refine zW rfl (fun hb6 => ?_) (fun hb6 => ?_)
                · have eo : ((vH ((ks.zip ss).take (t + 1)) (nth ks i ⟨#[]⟩)).map GSpan.av) = ((vH ((ks.zip ss).take t) (nth ks i ⟨#[]⟩)).map GSpan.av) ++ [(nth ss t gs0).av] := by rw [eo1, if_pos (by have e := hb6; rw [yN] at e; exact of_decide_eq_true e), List.map_append]; rfl
                  refine zB <| g_u (zy rfl rfl) <| g_u (zC rfl rfl) <| g_u (zC rfl rfl) ?_
                  refine g_u (zJ rfl rfl rfl Tryz.underlying49 tS63 (by omega) (ixS (by omega))) ?_
                  refine g_u (zT rfl rfl tA63 tS63 rfl (by first | exact xP (GSpan.width _) rfl | rfl)) ?_
                  refine g_u (za (X0 := z63) rfl Tryz.underlying49 tS63 tZ63 rfl rfl rfl rfl rfl rfl rfl rfl) ?_
                  refine g_u (yA rfl rfl rfl rfl rfl Tryz.underlying49 Tryz.underlying49 tS63 zv63 rfl (by decide) by63 (by (try dsimp only); simp only [List.length_append, List.length_cons, List.length_nil, List.length_map, List.length_take, List.length_drop]; omega) (by (try dsimp only); simp only [List.length_append, List.length_cons, List.length_nil, List.length_map, List.length_take, List.length_drop]; omega)) ?_
                  refine g_u (yB rfl rfl) <| zI <| zX <| zA <| zB <| g_u (zC rfl rfl) <| g_u (yG rfl rfl rfl) <| g_u (zE rfl rfl) <| zI <| zA ?_
                  refine ⟨t + 1, ⟨by (try dsimp only); omega, ht⟩, ⟨rfl, rfl, rfl, rfl, rfl, rfl, rfl, rfl, rfl, yV rfl eo.symm, z8 rfl eo.symm, zZ rfl (by rw [ze (by omega) (by omega)]; rfl), trivial⟩, by (try dsimp only); omega⟩
                · have eo : ((vH ((ks.zip ss).take (t + 1)) (nth ks i ⟨#[]⟩)).map GSpan.av) = ((vH ((ks.zip ss).take t) (nth ks i ⟨#[]⟩)).map GSpan.av) := by rw [eo1, if_neg (by have e := hb6; rw [yN] at e; exact of_decide_eq_false e), List.append_nil]
                  refine zY <| zX <| zA <| zB <| g_u (zC rfl rfl) <| g_u (yG rfl rfl rfl) <| g_u (zE rfl rfl) <| zI <| zA ?_
                  refine ⟨t + 1, ⟨by (try dsimp only); omega, ht⟩, ⟨rfl, rfl, rfl, rfl, rfl, rfl, rfl, rfl, rfl, yV rfl eo.symm, z8 rfl eo.symm, zZ rfl (by rw [ze (by omega) (by omega)]; rfl), trivial⟩, by (try dsimp only); omega⟩
              · have htn : t = (ks.zip ss).length := by have := of_decide_eq_false hb5; omega
                subst htn
                have q5 := q0 i
                rw [ofKey_all]
                refine zu <| zR <| zR <| zn <| zA <| yE yt <| g_u (zF rfl rfl xD rfl) <| g_u (yj rfl rfl rfl tA22 tS22 rfl rfl) <| g_u (zC rfl rfl) <| g_u (zC rfl rfl) ?_
                refine g_u (zJ rfl rfl rfl Tryz.underlying27 tS9 (by omega) (ixStr (by omega))) ?_
                refine g_u (zT rfl rfl tA9 tS9 rfl rfl) ?_
                refine g_u (zP (nil1 (n := 7) (rnamed_c [] (nth ks i ⟨#[]⟩) trivial (by decide))) rfl rfl) ?_
                refine g_u (zy rfl rfl) <| g_u (y_ rfl tU51 us51 pl51 rfl rfl rfl rfl) <| g_u (za (X0 := z51) rfl Tryz.underlying45 tS51 tZ51 rfl rfl rfl rfl rfl rfl rfl rfl) <| g_u (y_ rfl tU47 us47 pl47 rfl rfl rfl rfl) <| g_u (za (X0 := z47) rfl Tryz.underlying22 tS47 tZ47 rfl rfl rfl rfl rfl rfl rfl rfl) ?_
                refine g_u (yA rfl rfl rfl rfl rfl Tryz.underlying22 Tryz.underlying22 tS47 zv47 rfl (by decide) by47 (by (try dsimp only); simp only [List.length_append, List.length_cons, List.length_nil, List.length_map, List.length_take, List.length_drop]; omega) (by (try dsimp only); simp only [List.length_append, List.length_cons, List.length_nil, List.length_map, List.length_take, List.length_drop]; omega)) ?_
                refine g_u (zF rfl rfl xD rfl) <| g_u (xO rfl rfl rfl rfl tS22 rfl rfl) ?_
                refine zI ⟨by kernel_rfl, ?_⟩
                refine zX <| zA <| zB <| g_u (zC rfl rfl) <| g_u (yG rfl rfl rfl) <| g_u (zE rfl rfl) <| zI <| zA ?_
                refine ⟨i + 1, hi, ⟨rfl, rfl, rfl, rfl, rfl, rfl, (by rw [er]; rfl), z8 rfl er.symm, zZ rfl (by rw [ze (by omega) (by omega)]; rfl), trivial⟩, by (try dsimp only); omega⟩
          · have er := rowG_old hi (by rw [ezi]; exact hb4)
            refine zY <| zX <| zA <| zB <| g_u (zC rfl rfl) <| g_u (yG rfl rfl rfl) <| g_u (zE rfl rfl) <| zI <| zA ?_
            refine ⟨i + 1, hi, ⟨rfl, rfl, rfl, rfl, rfl, rfl, (by rw [er]; rfl), z8 rfl er.symm, zZ rfl (by rw [ze (by omega) (by omega)]; rfl), trivial⟩, by (try dsimp only); omega⟩
    · have hin : i = (ks.zip ss).length := by have := of_decide_eq_false hb1; omega
      refine zu <| zR <| zR <| zn <| zA <| zD <| zB <| g_u (zk rfl rfl rfl tA24 tS24 rfl rfl) <| g_u (zK rfl rfl rfl tS24 rfl rfl) <| zI <| zA <| zL ?_
      exact ⟨⟨_, _, _, _, _, _, _, rfl, rfl, tA24, tS24, rfl, rfl, (rfl : toAV _ = some _).trans (congrArg some (by (rw [hin]; exact rowG_all _)))⟩, trivial⟩
end Go.Proofs
namespace Go.Proofs
open Go Go.Al
def rowP (b : List GRes) (p : Nat × Nat × Nat) : ByteArray × GSpan := (yg (nthR b p.1), nzS (spAt b p))
theorem plC_i (i k : Nat) (l : List GScope) : ∀ p ∈ plC i k l, p.1 = i := by
  induction l generalizing k with
  | nil => intro p h; simp [plC] at h
  | cons c l ih =>
    intro p h
    rw [plC] at h
    rcases List.mem_append.1 h with h | h
    · obtain ⟨m, _, rfl⟩ := List.mem_map.1 h; rfl
    · exact ih (k + 1) p h
theorem rows_pl : ∀ (l m : List GRes), (plR m.length l).map (rowP (m ++ l)) = y9 l
  | [], m => rfl
  | r :: l, m => by
    have e : y9 (r :: l) = (zz r.scopes).map (fun s => (yg r, nzS s)) ++ y9 l := List.flatMap_cons
    rw [plR, List.map_append, e]
    congr 1
    · have hr : nthR (m ++ r :: l) m.length = r := by simp [nthR, nth]
      have h := plC_spans m.length r.scopes []
      rw [← h, List.map_map]
      refine List.map_congr_left fun p hp => ?_
      have h1 : p.1 = m.length := plC_i _ _ _ p hp
      unfold rowP spAt
      rw [h1, hr]; rfl
    · have := rows_pl l (m ++ [r])
      simp only [List.length_append, List.length_cons, List.length_nil, List.append_assoc, List.cons_append, List.nil_append] at this
      exact this
theorem rows_pl0 (b : List GRes) : (plR 0 b).map (rowP b) = y9 b := rows_pl b []
theorem zip_fs {α β : Type} : ∀ l : List (α × β), (l.map (·.1)).zip (l.map (·.2)) = l
  | [] => rfl
  | x :: l => by rw [List.map_cons, List.map_cons, List.zip_cons_cons, zip_fs l]
def xU (r : GRes) (l : List GSpan) : List (ByteArray × GSpan) := l.map fun s => (yg r, nzS s)
theorem rowsZ_take {b : List GRes} {i : Nat} (h : i < b.length) : y9 (b.take (i + 1)) = y9 (b.take i) ++ xU (nthR b i) (zz (nthR b i).scopes) := by
  rw [zx (yZ (d := gr0) h)]
  unfold y9
  rw [List.flatMap_append]
  congr 1
  show [nthR b i].flatMap _ = _
  rw [List.flatMap_cons]; simp [xU]
theorem rowsF_app (r : GRes) (a b : List GSpan) : xU r (a ++ b) = xU r a ++ xU r b := List.map_append ..
theorem rowsZ_len (b : List GRes) : (y9 b).length = (allS b).length := by
  have := congrArg List.length (rowsZ_spans b)
  rwa [List.length_map, List.length_map] at this
theorem plQ_in {b : List GRes} {p : Nat × Nat × Nat} (h : p ∈ plR 0 b) : p.1 < b.length := (plR_mem' (m := []) h).1
theorem spQ_mem {b : List GRes} {p : Nat × Nat × Nat} (h : p ∈ plR 0 b) : spAt b p ∈ (nthC (nthR b p.1).scopes p.2.1).spans ∧ nthC (nthR b p.1).scopes p.2.1 ∈ (nthR b p.1).scopes ∧ nthR b p.1 ∈ b := by
  obtain ⟨h1, h2, h3⟩ := plR_mem' (m := []) h
  exact ⟨nthS_mem h3, vC h2, xZ h1⟩
theorem spQ_ok {b : List GRes} (ho : okB b) {p : Nat × Nat × Nat} (h : p ∈ plR 0 b) : (spAt b p).ok := by
  obtain ⟨h1, h2, h3⟩ := spQ_mem h
  exact ((ho _ h3).2 _ h2).2.2 _ h1
theorem spQ_wt {b : List GRes} {p : Nat × Nat × Nat} (h : p ∈ plR 0 b) : (spAt b p).wt ≤ wtB b := by
  obtain ⟨h1, h2, h3⟩ := spQ_mem h
  have a1 := yD GSpan.wt h1
  have a2 := yD GScope.wt h2
  have a3 := yD GRes.wt h3
  have e1 : (nthC (nthR b p.1).scopes p.2.1).wt = 1 + (nthC (nthR b p.1).scopes p.2.1).name.size + (nthC (nthR b p.1).scopes p.2.1).version.size + z7 GSpan.wt (nthC (nthR b p.1).scopes p.2.1).spans := rfl
  have e2 : (nthR b p.1).wt = 1 + wtAs (nthR b p.1).attrs + z7 GScope.wt (nthR b p.1).scopes := rfl
  have e3 : wtB b = z7 GRes.wt b := rfl
  omega
theorem rowsZ_part {b : List GRes} {i k m : Nat} (hi : i < b.length) (hk : k < (nthR b i).scopes.length) (hm : m < (nthC (nthR b i).scopes k).spans.length) : (y9 (b.take i) ++ xU (nthR b i) (zz ((nthR b i).scopes.take k)) ++ xU (nthR b i) ((nthC (nthR b i).scopes k).spans.take m)).length + 1 ≤ (y9 b).length := by
  have e0 : y9 b = y9 (b.take (i + 1)) ++ y9 (b.drop (i + 1)) := by
    conv => lhs; rw [← List.take_append_drop (i + 1) b]
    unfold y9; rw [List.flatMap_append]
  have e1 : zz (nthR b i).scopes = zz ((nthR b i).scopes.take (k + 1)) ++ zz ((nthR b i).scopes.drop (k + 1)) := by
    conv => lhs; rw [← List.take_append_drop (k + 1) (nthR b i).scopes]
    rw [spansOf_append]
  rw [e0, rowsZ_take hi, e1, spansOf_take hk]
  simp only [List.length_append, xU, List.length_map, List.length_take]
  omega
end Go.Proofs
namespace Go.Proofs
open Go Go.Al
set_option maxRecDepth 10000
theorem rspanP_c (b : List GRes) (p : Nat × Nat × Nat) (hp : p ∈ plR 0 b) : zo Tryz.prog Γ0 59 [yK b, plav p] [(spAt b p).av] := by
  have h := rspan28_c b (intP p) (inB_nat hp)
  rw [atS_nat hp] at h; exact h
theorem rowsZ_plR (b : List GRes) : (y9 b).length ≤ z7 GRes.wt b := by
  rw [rowsZ_len, ← plR_all 0 b]; exact plR_len 0 b
set_option maxHeartbeats 8000000 in
theorem rnzB_c (b : List GRes) (ho : okB b) (hw : wtB b ≤ 9000000) : zo Tryz.prog Γ0 38 [yK b] [yK (nzB b)] := by
  have qz := rowsZ_plR b
  have hpl := plR_len 0 b
  have qw : wtB b = z7 GRes.wt b := rfl
  refine z_ Tryz.func38 rfl Tryz.ntmps38 (by kernel_rfl) rfl fun w0 I0 G0 => ?_
  refine zD <| zB <| g_uG (zi 1001 rfl rfl rfl rfl) rfl <| g_uG (zl 1002 rfl rfl rfl tZ24) rfl <| zI <| zA <| zD <| zB <| g_u (zG rfl rfl rfl tA24 tS24 rfl rfl) ?_
  refine g_u (zP (places_c b (by omega)) rfl rfl) ?_
  refine g_u (zE rfl rfl) <| zI <| zA <| zD <| zB <| g_u (zE rfl rfl) <| zI <| zA <| zD <| zB <| g_u (zE rfl rfl) <| zI <| zA <| zD <| zD <| xJ 3004 4 1 rfl rfl rfl rfl <| xJ 3005 5 42 rfl rfl rfl rfl <| zB <| g_u (zE rfl rfl) <| zI <| zA <| zU ?_
  refine zp (fun i : Nat => [(1, .ptr 1001 0), (1001, .box 24 (.imm (yK b))), (2, .ptr 1002 0), (1002, .box 24 (.imm z24)), (3, .imm (.sl 3 ((plR 0 b).map plav))), (4, .slg 3004 1 ((((plR 0 b).take i).map (rowP b)).map fun x => sv x.1)), (3004, .tok 1 ((((plR 0 b).take i).map (rowP b)).map fun x => sv x.1)), (5, .slg 3005 42 ((((plR 0 b).take i).map (rowP b)).map fun x => x.2.av)), (3005, .tok 42 ((((plR 0 b).take i).map (rowP b)).map fun x => x.2.av)), (6, .imm (iv (i : Int)))]) (fun i => i ≤ (plR 0 b).length) (fun i => (plR 0 b).length - i) (0) ?_ ⟨rfl, rfl, rfl, rfl, rfl, rfl, rfl, rfl, rfl, rfl, trivial⟩ ?_
  · exact Nat.zero_le _
  · rintro i h1; have h1 : i ≤ (plR 0 b).length := h1
    refine zD <| zD <| zB <| g_u (zC rfl rfl) <| g_u (zC rfl rfl) <| g_u (zw rfl rfl Tryz.underlying66) <| g_u (yb rfl rfl rfl) <| zI <| zA ?_
    refine zW rfl (fun hb1 => ?_) (fun hb1 => ?_)
    · have hi : i < (plR 0 b).length := by have := of_decide_eq_true hb1; (try simp only [List.length_map] at this); omega
      have hp := nthP_mem hi
      have hx1 := plQ_in hp
      have hro := ho _ (xZ hx1)
      have hrx := yD GRes.wt (xZ hx1)
      have hrq : (nthR b (nthP (plR 0 b) i).1).wt = 1 + wtAs (nthR b (nthP (plR 0 b) i).1).attrs + z7 GScope.wt (nthR b (nthP (plR 0 b) i).1).scopes := rfl
      have hso := spQ_ok ho hp
      have hsw := spQ_wt hp
      refine zY <| zA <| zD <| zU <| zD <| yE yt <| g_u (zy rfl rfl) <| g_u (zF rfl rfl xD rfl) <| g_u (zG rfl rfl rfl tA22 tS22 rfl rfl) <| g_u (zC rfl rfl) <| g_u (zC rfl rfl) ?_
      refine g_u (zJ rfl rfl rfl Tryz.underlying66 tS98 (by omega) (ixP hi)) ?_
      refine g_u (zV rfl rfl fa98_0 rfl rfl) <| g_u (zT rfl rfl tA3 tS3 rfl rfl) ?_
      refine g_u (zJ rfl rfl rfl Tryz.underlying22 tS47 (by omega) (ixR hx1)) ?_
      refine g_u (zT rfl rfl tA47 tS47 rfl rfl) ?_
      refine g_u (zP (rservice_c (nthR b (nthP (plR 0 b) i).1) hro.1 (by omega)) rfl rfl) ?_
      refine g_u (za (X0 := z9) rfl Tryz.underlying27 tS9 tZ9 rfl rfl rfl rfl rfl rfl rfl rfl) ?_
      refine g_u (yA rfl rfl rfl rfl rfl Tryz.underlying27 Tryz.underlying27 tS9 zv9 rfl (by decide) by9 (by (try dsimp only); simp only [List.length_append, List.length_cons, List.length_nil, List.length_map, List.length_take, List.length_drop]; omega) (by (try dsimp only); simp only [List.length_append, List.length_cons, List.length_nil, List.length_map, List.length_take, List.length_drop]; omega)) ?_
      refine g_u (yB rfl rfl) ?_
      refine zI ⟨by kernel_rfl, ?_⟩
      refine zA <| yE yt <| g_u (zy rfl rfl) <| g_u (zG rfl rfl rfl tA24 tS24 rfl rfl) <| g_u (zC rfl rfl) <| g_u (zC rfl rfl) ?_
      refine g_u (zJ rfl rfl rfl Tryz.underlying66 tS98 (by omega) (ixP hi)) ?_
      refine g_u (zT rfl rfl tA98 tS98 rfl rfl) <| g_u (zP (rspanP_c b (nthP (plR 0 b) i) hp) rfl rfl) ?_
      refine g_u (zP (rnzS_c _ hso (by omega)) rfl rfl) ?_
      refine g_u (za (X0 := z63) rfl Tryz.underlying49 tS63 tZ63 rfl rfl rfl rfl rfl rfl rfl rfl) ?_
      refine g_u (yA rfl rfl rfl rfl rfl Tryz.underlying49 Tryz.underlying49 tS63 zv63 rfl (by decide) by63 (by (try dsimp only); simp only [List.length_append, List.length_cons, List.length_nil, List.length_map, List.length_take, List.length_drop]; omega) (by (try dsimp only); simp only [List.length_append, List.length_cons, List.length_nil, List.length_map, List.length_take, List.length_drop]; omega)) ?_
      refine g_u (yB rfl rfl) ?_
      refine zI ⟨by kernel_rfl, ?_⟩
      refine zX <| zA <| zB <| g_u (zC rfl rfl) <| g_u (yG rfl rfl rfl) <| g_u (zE rfl rfl) <| zI <| zA ?_
      have e1 : ((((plR 0 b).take (i + 1)).map (rowP b)).map fun x => sv x.1) = ((((plR 0 b).take i).map (rowP b)).map fun x => sv x.1) ++ [sv (yg (nthR b (nthP (plR 0 b) i).1))] := by rw [zx (yZ (d := p00) hi), List.map_append, List.map_append]; rfl
      have e2 : ((((plR 0 b).take (i + 1)).map (rowP b)).map fun x => x.2.av) = ((((plR 0 b).take i).map (rowP b)).map fun x => x.2.av) ++ [(nzS (spAt b (nthP (plR 0 b) i))).av] := by rw [zx (yZ (d := p00) hi), List.map_append, List.map_append]; rfl
      refine ⟨i + 1, hi, ⟨rfl, rfl, rfl, rfl, rfl, yV rfl e1.symm, z8 rfl e1.symm, yV rfl e2.symm, z8 rfl e2.symm, zZ rfl (by rw [ze (by omega) (by omega)]; rfl), trivial⟩, by (try dsimp only); omega⟩
    · have hin : i = (plR 0 b).length := by have := of_decide_eq_false hb1; (try simp only [List.length_map] at this); omega
      rw [hin, List.take_length]
      refine zu <| zR <| zR <| zn <| zA <| zD <| zB <| g_u (zy rfl rfl) <| g_u (zy rfl rfl) ?_
      refine g_u (zP ((show zo Tryz.prog Γ0 67 [.sl 1 (((plR 0 b).map (rowP b)).map fun x => sv x.1), .sl 42 (((plR 0 b).map (rowP b)).map fun x => x.2.av)] [yK (nzB b)] from by rw [rows_pl0]; have h := rgroup_c ((y9 b).map (·.1)) ((y9 b).map (·.2)) (by rw [List.length_map]; omega) (by rw [List.length_map]; omega); rw [zip_fs, List.map_map, List.map_map] at h; exact h)) rfl rfl) ?_
      refine g_u (zK rfl rfl rfl tS24 rfl rfl) <| zI <| zA <| zL ?_
      exact ⟨⟨_, _, _, _, _, _, _, rfl, rfl, tA24, tS24, rfl, rfl, (rfl : toAV _ = some _).trans (congrArg some (by rfl))⟩, trivial⟩
end Go.Proofs
namespace Go.Proofs
open Go Go.Al
set_option maxRecDepth 10000
set_option maxHeartbeats 8000000 in
theorem nzB0_c (hG : ∀ (ks : List ByteArray) (ss : List GSpan), ks.length ≤ 9000000 → ss.length ≤ 9000000 → zo Tryz.prog Γ0 27 [.sl 1 (ks.map fun x => sv x), .sl 42 (ss.map GSpan.av)] [yK (groupM (ks.zip ss))]) (b : List GRes) (ho : okB b) (hw : wtB b ≤ 9000000) (hr : ∀ r ∈ b, risA none r.attrs) : zo Tryz.prog Γ0 9 [yK b] [yK (nzB b)] := by
  have qz := rowsZ_plR b
  have qw : wtB b = z7 GRes.wt b := rfl
  have ql := yR GRes.wt (fun e => by unfold GRes.wt; omega) b
  refine z_ Tryz.func9 rfl Tryz.ntmps9 (by kernel_rfl) rfl fun w0 I0 G0 => ?_
  refine zD <| zB <| g_uG (zi 1001 rfl rfl rfl rfl) rfl <| g_uG (zl 1002 rfl rfl rfl tZ24) rfl <| zI <| zA <| zD <| zB <| g_u (zE rfl rfl) <| zI <| zA <| zD <| zB <| g_u (zE rfl rfl) <| zI <| zA <| zD <| zD <| xJ 3003 3 1 rfl rfl rfl rfl <| xJ 3004 4 42 rfl rfl rfl rfl <| zB <| g_u (zF rfl rfl xD rfl) <| g_u (zG rfl rfl rfl tA22 tS22 rfl rfl) <| g_u (zw rfl rfl Tryz.underlying22) <| g_u (zC rfl rfl) <| zI <| zA <| zU ?_
  refine zp (fun i : Nat => [(1, .ptr 1001 0), (1001, .box 24 (.imm (yK b))), (2, .ptr 1002 0), (1002, .box 24 (.imm z24)), (3, .slg 3003 1 (((y9 (b.take i))).map fun x => sv x.1)), (3003, .tok 1 (((y9 (b.take i))).map fun x => sv x.1)), (4, .slg 3004 42 (((y9 (b.take i))).map fun x => x.2.av)), (3004, .tok 42 (((y9 (b.take i))).map fun x => x.2.av)), (13, .imm (.sl 2 (b.map GRes.av))), (14, .imm (iv (b.length : Int))), (15, .imm (iv (i : Int)))]) (fun i => i ≤ b.length) (fun i => b.length - i) (0) ?_ ⟨rfl, rfl, rfl, rfl, rfl, rfl, rfl, rfl, rfl, zZ rfl (by rw [List.length_map]), rfl, trivial⟩ ?_
  · exact Nat.zero_le _
  · rintro i h1; have h1 : i ≤ b.length := h1
    refine zD <| zB <| g_u (yb rfl rfl rfl) <| zI <| zA <| zD ?_
    refine zW rfl (fun hb1 => ?_) (fun hb1 => ?_)
    · have hi : i < b.length := by have := of_decide_eq_true hb1; (try simp only [List.length_map] at this); omega
      have hro := ho _ (xZ hi)
      have hrr := hr _ (xZ hi)
      have hrx := yD GRes.wt (xZ hi)
      have hrq : (nthR b i).wt = 1 + wtAs (nthR b i).attrs + z7 GScope.wt (nthR b i).scopes := rfl
      have hcl := yR GScope.wt (fun e => by unfold GScope.wt; omega) (nthR b i).scopes
      refine zY <| zA <| zD <| zU <| zD <| zB ?_
      refine g_u (zJ rfl rfl rfl Tryz.underlying22 tS47 (by omega) (ixR hi)) ?_
      refine g_u (zT rfl rfl tA47 tS47 rfl rfl) <| g_uG (zl 1006 rfl rfl rfl tZ47) rfl <| g_u (zK rfl rfl rfl tS47 rfl rfl) <| zI <| zA <| zD <| zB <| g_u (zk rfl rfl rfl tA47 tS47 rfl rfl) ?_
      refine g_u (zP (service_c (nthR b i) hro.1 (by omega) hrr) rfl rfl) ?_
      refine g_u (zE rfl rfl) <| zI <| zA <| zD <| zB <| g_u (zF rfl rfl wR rfl) <| g_u (zG rfl rfl rfl tA45 tS45 rfl rfl) <| g_u (zw rfl rfl Tryz.underlying45) <| g_u (zC rfl rfl) <| zI <| zA <| zU ?_
      refine zp (fun k : Nat => [(1, .ptr 1001 0), (1001, .box 24 (.imm (yK b))), (2, .ptr 1002 0), (1002, .box 24 (.imm z24)), (3, .slg 3003 1 (((y9 (b.take i)) ++ (xU (nthR b i) (zz ((nthR b i).scopes.take k)))).map fun x => sv x.1)), (3003, .tok 1 (((y9 (b.take i)) ++ (xU (nthR b i) (zz ((nthR b i).scopes.take k)))).map fun x => sv x.1)), (4, .slg 3004 42 (((y9 (b.take i)) ++ (xU (nthR b i) (zz ((nthR b i).scopes.take k)))).map fun x => x.2.av)), (3004, .tok 42 (((y9 (b.take i)) ++ (xU (nthR b i) (zz ((nthR b i).scopes.take k)))).map fun x => x.2.av)), (13, .imm (.sl 2 (b.map GRes.av))), (14, .imm (iv (b.length : Int))), (15, .imm (iv (i : Int))), (7, .imm (sv (yg (nthR b i)))), (22, .imm (.sl 3 ((nthR b i).scopes.map GScope.av))), (23, .imm (iv ((nthR b i).scopes.length : Int))), (24, .imm (iv (k : Int)))]) (fun k => k ≤ (nthR b i).scopes.length) (fun k => (nthR b i).scopes.length - k) (0) ?_ ⟨rfl, rfl, rfl, rfl, yV rfl (by simp [xU, zz]), z8 rfl (by simp [xU, zz]), yV rfl (by simp [xU, zz]), z8 rfl (by simp [xU, zz]), rfl, rfl, rfl, rfl, rfl, zZ rfl (by rw [List.length_map]), rfl, trivial⟩ ?_
      · exact Nat.zero_le _
      · rintro k h2; have h2 : k ≤ (nthR b i).scopes.length := h2
        refine zD <| zB <| g_u (yb rfl rfl rfl) <| zI <| zA <| zD ?_
        refine zW rfl (fun hb2 => ?_) (fun hb2 => ?_)
        · have hk : k < (nthR b i).scopes.length := by have := of_decide_eq_true hb2; (try simp only [List.length_map] at this); omega
          have hcx := yD GScope.wt (vC hk)
          have hco := hro.2 _ (vC hk)
          have hcq : (nthC (nthR b i).scopes k).wt = 1 + (nthC (nthR b i).scopes k).name.size + (nthC (nthR b i).scopes k).version.size + z7 GSpan.wt (nthC (nthR b i).scopes k).spans := rfl
          have hsl := yR GSpan.wt (fun e => by unfold GSpan.wt; omega) (nthC (nthR b i).scopes k).spans
          refine zY <| zA <| zD <| zU <| zD <| zB ?_
          refine g_u (zJ rfl rfl rfl Tryz.underlying45 tS51 (by omega) (ixC hk)) ?_
          refine g_u (zT rfl rfl tA51 tS51 rfl rfl) <| g_uG (zl 1009 rfl rfl rfl tZ51) rfl <| g_u (zK rfl rfl rfl tS51 rfl rfl) <| zI <| zA <| zD <| zB <| g_u (zF rfl rfl wm rfl) <| g_u (zG rfl rfl rfl tA49 tS49 rfl rfl) <| g_u (zw rfl rfl Tryz.underlying49) <| g_u (zC rfl rfl) <| zI <| zA <| zU ?_
          refine zp (fun m : Nat => [(1, .ptr 1001 0), (1001, .box 24 (.imm (yK b))), (2, .ptr 1002 0), (1002, .box 24 (.imm z24)), (3, .slg 3003 1 (((y9 (b.take i)) ++ (xU (nthR b i) (zz ((nthR b i).scopes.take k))) ++ (xU (nthR b i) ((nthC (nthR b i).scopes k).spans.take m))).map fun x => sv x.1)), (3003, .tok 1 (((y9 (b.take i)) ++ (xU (nthR b i) (zz ((nthR b i).scopes.take k))) ++ (xU (nthR b i) ((nthC (nthR b i).scopes k).spans.take m))).map fun x => sv x.1)), (4, .slg 3004 42 (((y9 (b.take i)) ++ (xU (nthR b i) (zz ((nthR b i).scopes.take k))) ++ (xU (nthR b i) ((nthC (nthR b i).scopes k).spans.take m))).map fun x => x.2.av)), (3004, .tok 42 (((y9 (b.take i)) ++ (xU (nthR b i) (zz ((nthR b i).scopes.take k))) ++ (xU (nthR b i) ((nthC (nthR b i).scopes k).spans.take m))).map fun x => x.2.av)), (13, .imm (.sl 2 (b.map GRes.av))), (14, .imm (iv (b.length : Int))), (15, .imm (iv (i : Int))), (7, .imm (sv (yg (nthR b i)))), (22, .imm (.sl 3 ((nthR b i).scopes.map GScope.av))), (23, .imm (iv ((nthR b i).scopes.length : Int))), (24, .imm (iv (k : Int))), (29, .imm (.sl 42 ((nthC (nthR b i).scopes k).spans.map GSpan.av))), (30, .imm (iv ((nthC (nthR b i).scopes k).spans.length : Int))), (31, .imm (iv (m : Int)))]) (fun m => m ≤ (nthC (nthR b i).scopes k).spans.length) (fun m => (nthC (nthR b i).scopes k).spans.length - m) (0) ?_ ⟨rfl, rfl, rfl, rfl, yV rfl (by simp [xU]), z8 rfl (by simp [xU]), yV rfl (by simp [xU]), z8 rfl (by simp [xU]), rfl, rfl, rfl, rfl, rfl, rfl, rfl, rfl, zZ rfl (by rw [List.length_map]), rfl, trivial⟩ ?_
          · exact Nat.zero_le _
          · rintro m h3; have h3 : m ≤ (nthC (nthR b i).scopes k).spans.length := h3
            refine zD <| zB <| g_u (yb rfl rfl rfl) <| zI <| zA <| zD ?_
            refine zW rfl (fun hb3 => ?_) (fun hb3 => ?_)
            · have hm : m < (nthC (nthR b i).scopes k).spans.length := by have := of_decide_eq_true hb3; (try simp only [List.length_map] at this); omega
              have hsx := yD GSpan.wt (nthS_mem hm)
              have hso := hco.2.2 _ (nthS_mem hm)
              have q1 := rowsZ_part hi hk hm
              refine zY <| zA <| zD <| zU <| zD <| zB ?_
              refine g_u (zJ rfl rfl rfl Tryz.underlying49 tS63 (by omega) (ixS hm)) ?_
              refine g_u (zT rfl rfl tA63 tS63 rfl (by first | exact xP (GSpan.width _) rfl | rfl)) ?_
              refine g_uG (zl 1011 rfl rfl rfl tZ63) rfl ?_
              refine g_u (zK rfl rfl rfl tS63 (by first | exact beqW (GSpan.width _) | rfl) (by first | exact xy (z63_w.trans (GSpan.width _).symm) rfl | rfl)) ?_
              refine zI <| zA <| yE yt <| g_u (zy rfl rfl) <| g_u (zC rfl rfl) <| g_u (za (X0 := z9) rfl Tryz.underlying27 tS9 tZ9 rfl rfl rfl rfl rfl rfl rfl rfl) ?_
              refine g_u (yA rfl rfl rfl rfl rfl Tryz.underlying27 Tryz.underlying27 tS9 zv9 rfl (by decide) by9 (by (try dsimp only); simp only [List.length_append, List.length_cons, List.length_nil, List.length_map] at q1 ⊢; omega) (by (try dsimp only); simp only [List.length_append, List.length_cons, List.length_nil, List.length_map] at q1 ⊢; omega)) ?_
              refine g_u (zy rfl rfl) ?_
              refine g_u (zG rfl rfl rfl tA63 tS63 rfl (by first | exact xP (GSpan.width _) rfl | rfl)) ?_
              refine g_u (zP (nzS_c _ hso (by omega)) rfl rfl) ?_
              refine g_u (za (X0 := z63) rfl Tryz.underlying49 tS63 tZ63 rfl rfl rfl rfl rfl rfl rfl rfl) ?_
              refine g_u (yA rfl rfl rfl rfl rfl Tryz.underlying49 Tryz.underlying49 tS63 zv63 rfl (by decide) by63 (by (try dsimp only); simp only [List.length_append, List.length_cons, List.length_nil, List.length_map] at q1 ⊢; omega) (by (try dsimp only); simp only [List.length_append, List.length_cons, List.length_nil, List.length_map] at q1 ⊢; omega)) ?_
              refine g_u (yB rfl rfl) <| g_u (yB rfl rfl) ?_
              refine zI ⟨by kernel_rfl, ?_⟩
              refine zX <| zA <| zB <| g_u (yG rfl rfl rfl) <| g_u (zC rfl rfl) <| zI <| zA ?_
              have et : (xU (nthR b i) ((nthC (nthR b i).scopes k).spans.take (m + 1))) = (xU (nthR b i) ((nthC (nthR b i).scopes k).spans.take m)) ++ [(yg (nthR b i), nzS (nthS (nthC (nthR b i).scopes k).spans m))] := by unfold xU; rw [zx (yZ (d := gs0) hm), List.map_append]; rfl
              have ek : (((y9 (b.take i)) ++ (xU (nthR b i) (zz ((nthR b i).scopes.take k))) ++ (xU (nthR b i) ((nthC (nthR b i).scopes k).spans.take (m + 1)))).map fun x => sv x.1) = (((y9 (b.take i)) ++ (xU (nthR b i) (zz ((nthR b i).scopes.take k))) ++ (xU (nthR b i) ((nthC (nthR b i).scopes k).spans.take m))).map fun x => sv x.1) ++ [sv (yg (nthR b i))] := by rw [et, ← List.append_assoc, List.map_append]; rfl
              have es : (((y9 (b.take i)) ++ (xU (nthR b i) (zz ((nthR b i).scopes.take k))) ++ (xU (nthR b i) ((nthC (nthR b i).scopes k).spans.take (m + 1)))).map fun x => x.2.av) = (((y9 (b.take i)) ++ (xU (nthR b i) (zz ((nthR b i).scopes.take k))) ++ (xU (nthR b i) ((nthC (nthR b i).scopes k).spans.take m))).map fun x => x.2.av) ++ [(nzS (nthS (nthC (nthR b i).scopes k).spans m)).av] := by rw [et, ← List.append_assoc, List.map_append]; rfl
              refine ⟨m + 1, hm, ⟨rfl, rfl, rfl, rfl, yV rfl ek.symm, z8 rfl ek.symm, yV rfl es.symm, z8 rfl es.symm, rfl, rfl, rfl, rfl, rfl, rfl, rfl, rfl, rfl, zZ rfl (by rw [ze (by omega) (by omega)]; rfl), trivial⟩, by (try dsimp only); omega⟩
            · have hmn : m = (nthC (nthR b i).scopes k).spans.length := by have := of_decide_eq_false hb3; (try simp only [List.length_map] at this); omega
              refine zu <| zR <| zR <| zn <| zX <| zA <| zB <| g_u (yG rfl rfl rfl) <| g_u (zC rfl rfl) <| zI <| zA ?_
              have et : (y9 (b.take i)) ++ (xU (nthR b i) (zz ((nthR b i).scopes.take (k + 1)))) = (y9 (b.take i)) ++ (xU (nthR b i) (zz ((nthR b i).scopes.take k))) ++ (xU (nthR b i) ((nthC (nthR b i).scopes k).spans.take m)) := by rw [spansOf_take hk, rowsF_app, hmn, List.take_length, List.append_assoc]
              refine ⟨k + 1, hk, ⟨rfl, rfl, rfl, rfl, yV rfl (by rw [et]), z8 rfl (by rw [et]), yV rfl (by rw [et]), z8 rfl (by rw [et]), rfl, rfl, rfl, rfl, rfl, rfl, zZ rfl (by rw [ze (by omega) (by omega)]; rfl), trivial⟩, by (try dsimp only); omega⟩
        · have hkn : k = (nthR b i).scopes.length := by have := of_decide_eq_false hb2; (try simp only [List.length_map] at this); omega
          refine zu <| zR <| zR <| zn <| zX <| zA <| zB <| g_u (yG rfl rfl rfl) <| g_u (zC rfl rfl) <| zI <| zA ?_
          have et : (y9 (b.take (i + 1))) = (y9 (b.take i)) ++ (xU (nthR b i) (zz ((nthR b i).scopes.take k))) := by rw [rowsZ_take hi, hkn, List.take_length]
          refine ⟨i + 1, hi, ⟨rfl, rfl, rfl, rfl, yV rfl (by rw [et]), z8 rfl (by rw [et]), yV rfl (by rw [et]), z8 rfl (by rw [et]), rfl, rfl, zZ rfl (by rw [ze (by omega) (by omega)]; rfl), trivial⟩, by (try dsimp only); omega⟩
    · have hin : i = b.length := by have := of_decide_eq_false hb1; (try simp only [List.length_map] at this); omega
      rw [hin, List.take_length]
      refine zu <| zR <| zR <| zn <| zA <| zD <| zB <| g_u (zy rfl rfl) <| g_u (zy rfl rfl) ?_
      refine g_u (zP ((show zo Tryz.prog Γ0 27 [.sl 1 ((y9 b).map fun x => sv x.1), .sl 42 ((y9 b).map fun x => x.2.av)] [yK (nzB b)] from by have h := hG ((y9 b).map (·.1)) ((y9 b).map (·.2)) (by rw [List.length_map]; omega) (by rw [List.length_map]; omega); rw [zip_fs, List.map_map, List.map_map] at h; exact h)) rfl rfl) ?_
      refine g_u (zK rfl rfl rfl tS24 rfl rfl) <| zI <| zA <| zL ?_
      exact ⟨⟨_, _, _, _, _, _, _, rfl, rfl, tA24, tS24, rfl, rfl, (rfl : toAV _ = some _).trans (congrArg some (by rfl))⟩, trivial⟩
end Go.Proofs
namespace Go.Al
open Go.RowKit
section
variable {C : Cx} {A : Nat → SV} {d : Nat} {ty : TypeId} {pos : String} {af : Array Edge} {gd : Option (Nat × Bool)} {x y : Operand} {T T' : TypeId}
end
end Go.Al
namespace Go.Al
open Go.RowKit
section
variable {C : Cx} {A : Nat → SV} {d : Nat} {ty : TypeId} {pos : String} {af : Array Edge} {gd : Option (Nat × Bool)} {x y : Operand} {T T' : TypeId}
theorem s_lookupYes {g : Nat} {kt vt : TypeId} {l : List ByteArray} {vs : List AV} {s : ByteArray} {v : AV} {i : Nat} (hN : Nat.blt d C.N = true) (hx : opS A x = .mref g) (hg : A g = .mpr (strs l) vs) (hy : opV A y = some (.v (.string s)))
    (hT : C.P.underlying T = some (.map kt vt)) (hk : C.P.underlying kt = some .string) (hm : mfind l s 0 = some i) (hv : vs[i]? = some v) :
    zr C ⟨some d, .lookup T x y true, ty, pos, af, gd⟩ (g :: (opR x ++ opR y)) [] A [(d, .tup [.imm v, .imm (.v (.bool true))])] := by
  refine zr.value rfl hN fun A' G a w hR S => ?_
  have hgA : A' g = .mpr (strs l) vs := (hR g List.mem_cons_self).trans hg
  obtain ⟨c, hc1, hc2⟩ := S.opS ((ye (fun k hk => hR k (List.mem_cons_of_mem _ (List.mem_append_left _ hk)))).trans hx) rfl
  simp only [RepS] at hc1
  have hev : a.eval x = .map (some (G.blk g)) := by rw [hc2, hc1]; rfl
  rw [← yX (fun k hk => hR k (List.mem_cons_of_mem _ (List.mem_append_right _ hk)))] at hy
  have hys := xl (S.opV hy)
  have hb := S.holds g
  rw [hgA] at hb
  simp only [Holds] at hb
  obtain ⟨how, ⟨es, h1, h2, h3, h4⟩, hni⟩ := hb
  have hkeys : es.toList.map (·.key) = l.map Value.string := repVs_strs h3
  have hlen : es.size = l.length := by have := congrArg List.length hkeys; simpa using this
  have hi := mfind_lt hm
  have hie : i < es.size := by omega
  have hfind := run_findKey (P := C.P) (s := s) hk hkeys w
  have hobj := run_getMap (P := C.P) h1
  have e2 : (es.toList[i]?).map (fun e => (i, e.val)) = some (i, es[i].val) := by rw [Array.getElem?_toList, Array.getElem?_eq_getElem hie]; rfl
  obtain ⟨u, hu1, hu2⟩ := repVs_get h4 hv
  simp only [List.getElem?_map, Array.getElem?_toList, Array.getElem?_eq_getElem hie, Option.map_some, Option.some.injEq] at hu1
  refine ⟨.tuple #[u, .bool true], ?_, ⟨[u, .bool true], rfl, _, _, rfl, yh.2 hu2, _, _, rfl, yh.2 (xd _ _ rfl), rfl⟩⟩
  simp only [execOp, Instr.lookup, Sem.run_bind, zd hT, Result.andThen_ok, hev, hobj, hys, Sem.run_pure, run_checkKey hk, hfind, hm, Option.bind_some, e2, if_true, hu1]
theorem s_lookupNo {g : Nat} {kt vt : TypeId} {l : List ByteArray} {vs : List AV} {s : ByteArray} {z : Value} (hN : Nat.blt d C.N = true) (hx : opS A x = .mref g) (hg : A g = .mpr (strs l) vs) (hy : opV A y = some (.v (.string s)))
    (hT : C.P.underlying T = some (.map kt vt)) (hk : C.P.underlying kt = some .string) (hm : mfind l s 0 = none) (hz : xz C.P vt = some z) (hzp : plain z = true) :
    zr C ⟨some d, .lookup T x y true, ty, pos, af, gd⟩ (g :: (opR x ++ opR y)) [] A [(d, .tup [.imm (.v z), .imm (.v (.bool false))])] := by
  refine zr.value rfl hN fun A' G a w hR S => ?_
  have hgA : A' g = .mpr (strs l) vs := (hR g List.mem_cons_self).trans hg
  obtain ⟨c, hc1, hc2⟩ := S.opS ((ye (fun k hk => hR k (List.mem_cons_of_mem _ (List.mem_append_left _ hk)))).trans hx) rfl
  simp only [RepS] at hc1
  have hev : a.eval x = .map (some (G.blk g)) := by rw [hc2, hc1]; rfl
  rw [← yX (fun k hk => hR k (List.mem_cons_of_mem _ (List.mem_append_right _ hk)))] at hy
  have hys := xl (S.opV hy)
  have hb := S.holds g
  rw [hgA] at hb
  simp only [Holds] at hb
  obtain ⟨how, ⟨es, h1, h2, h3, h4⟩, hni⟩ := hb
  have hkeys : es.toList.map (·.key) = l.map Value.string := repVs_strs h3
  have hfind := run_findKey (P := C.P) (s := s) hk hkeys w
  have hobj := run_getMap (P := C.P) h1
  refine ⟨.tuple #[z, .bool false], ?_, ⟨[z, .bool false], rfl, _, _, rfl, yh.2 (xd _ _ hzp), _, _, rfl, yh.2 (xd _ _ rfl), rfl⟩⟩
  simp only [execOp, Instr.lookup, Sem.run_bind, zd hT, Result.andThen_ok, hev, hobj, hys, Sem.run_pure, run_checkKey hk, hfind, hm, Option.bind_none, yz hz, if_true]
theorem s_ixRaw {el : TypeId} {b o n cap len : Nat} {i : Int} {k : IntKind} (hN : Nat.blt d C.N = true) (hx : opV A x = some (.v (.slice (some ⟨b, o, none⟩) len cap))) (hy : opV A y = some (.v (.int k i))) (hT : C.P.underlying T = some (.slice el)) (hn : yP C.P el = some n)
    (h : 0 ≤ i ∧ i < len) : zr C ⟨some d, .indexAddr T x y, ty, pos, af, gd⟩ (opR x ++ opR y) [] A [(d, .imm (.v (.pointer (some ⟨b, o + i.toNat * n, none⟩))))] := by
  refine zr.op2 rfl hN hx hy fun w I ρ h1 h2 => ?_
  have hi := yY h2
  have hv := rep_val h1 rfl
  refine ⟨_, ?_, xd w I rfl⟩
  simp only [execOp, Instr.indexAt, hi, hv, asIntOf, Sem.run_bind, Sem.run_pure, Result.andThen_ok, zd hT, h, and_self, if_true, yJ hn, xS]
end
end Go.Al
namespace Go.Al
open Go.RowKit
theorem SimG.anew {C : Cx} {A A' : Nat → SV} {G G' : Gh} {a : Act} {w : World} (S : SimG C A G a w) (hI : G'.I = G.I) (hrel : ∀ g, C.K ≤ g → G'.blk g = G.blk g ∧ G'.cur g = G.cur g ∧ G'.len g = G.len g)
    (hh : ∀ k, Holds C.w0 C.E G' a w k (A' k)) (hap : ∀ k j b, k ≠ j → zm G' k b (A' k) → zm G' j b (A' j) → False) : SimG C A' G' a w :=
  ⟨S.os, S.tape, S.output, S.size, S.block, by rw [hI]; exact S.sub, fun g hg => (S.rel g hg).trans ⟨(hrel g hg).1, .inl (hrel g hg).2⟩, by rw [hI]; exact S.glob, by rw [hI]; exact S.new, by rw [hI]; exact S.val, S.nts, S.dfs, hh, hap⟩
def hdrB : Value → List Nat
  | .slice (some a) _ _ => [a.block]
  | _ => []
def ScOk (T : TypeId) (n : Nat) (w : World) (I : Nat → Nat → Prop) (b : Nat) (v : Value) (l : List AV) : Prop :=
  b < w.heap.size ∧ (∃ fr, w.heap[b]? = some (.cells #[.string .empty, .string .empty, v] T fr) ∧ unfrozen fr 3) ∧ (∀ o, ¬ I b o) ∧ TokS w (fun _ => True) I w v n l
theorem TokS.keep {w w' : World} {I I' : Nat → Nat → Prop} {v : Value} {n : Nat} {l : List AV} (h : TokS w (fun _ => True) I w v n l) (hle : Le w I w' I') (ho : ∀ b, b ∈ hdrB v → w'.heap[b]? = w.heap[b]? ∧ ∀ o, I' b o → I b o) : TokS w' (fun _ => True) I' w' v n l := by
  rcases h with h | ⟨b, cap, h1, h2, h3, h4, h5, ⟨cs, T, fr, h6, h7, h8⟩, h9⟩
  · exact .inl h
  · obtain ⟨e4, e5⟩ := ho b (by rw [h1]; exact List.mem_singleton.2 rfl)
    have hb : b < w'.heap.size := by
      have := e4.trans h6
      exact (Array.getElem?_eq_some_iff.1 this).1
    exact .inr ⟨b, cap, h1, h2, h3, RepM.mono hle n l b 0 h4, ⟨.inr trivial, hb⟩, ⟨cs, T, fr, by rw [e4]; exact h6, h7, h8⟩, fun o ho' hi => h9 o ho' (e5 o hi)⟩
theorem ScOk.keep {T : TypeId} {n : Nat} {w w' : World} {I I' : Nat → Nat → Prop} {b : Nat} {v : Value} {l : List AV} (h : ScOk T n w I b v l) (hle : Le w I w' I') (ho : ∀ c, c = b ∨ c ∈ hdrB v → w'.heap[c]? = w.heap[c]? ∧ ∀ o, I' c o → I c o) : ScOk T n w' I' b v l := by
  obtain ⟨h1, ⟨fr, h2, h3⟩, h4, h5⟩ := h
  obtain ⟨e1, e2⟩ := ho b (.inl rfl)
  have h2' := e1.trans h2
  exact ⟨(Array.getElem?_eq_some_iff.1 h2').1, ⟨fr, h2', h3⟩, fun o hi => h4 o (e2 o hi), h5.keep hle fun c hc => ho c (.inr hc)⟩
theorem TokS.kind {w : World} {I : Nat → Nat → Prop} {v : Value} {n : Nat} {l : List AV} (h : TokS w (fun _ => True) I w v n l) {b : Nat} (hb : b ∈ hdrB v) {o : Obj} (ho : w.heap[b]? = some o) : isBook o = false := by
  rcases h with ⟨rfl, _⟩ | ⟨b', cap, h1, _, _, _, _, ⟨cs, T, fr, h6, _⟩, _⟩
  · cases hb
  · rw [h1] at hb
    cases List.mem_singleton.1 hb
    rw [h6] at ho; cases ho; rfl
def tupV : Value → List Value
  | .tuple vs => vs.toList
  | _ => []
def HoleOk (T : TypeId) (w : World) (I : Nat → Nat → Prop) (b : Nat) : Prop := b < w.heap.size ∧ (∃ fr v, w.heap[b]? = some (.cells #[.string .empty, .string .empty, v] T fr) ∧ unfrozen fr 3) ∧ ∀ o, ¬ I b o
theorem HoleOk.keep {T : TypeId} {w w' : World} {I I' : Nat → Nat → Prop} {b : Nat} (h : HoleOk T w I b) (ho : w'.heap[b]? = w.heap[b]? ∧ ∀ o, I' b o → I b o) : HoleOk T w' I' b := by
  obtain ⟨h1, ⟨fr, v, h2, h3⟩, h4⟩ := h
  have h2' := ho.1.trans h2
  exact ⟨(Array.getElem?_eq_some_iff.1 h2').1, ⟨fr, v, h2', h3⟩, fun o hi => h4 o (ho.2 o hi)⟩
def ScF (T : TypeId) (n : Nat) (bs : List Nat) (ls : List (List AV)) (ex : Nat) : Nat → Value → Nat → HRes := fun _ cur _ =>
  { own := fun b => ∃ j c v, bs[j]? = some c ∧ (tupV cur)[j]? = some v ∧ (b = c ∨ (j ≠ ex ∧ b ∈ hdrB v))
    ok := fun w I => (tupV cur).length = bs.length ∧ ls.length = bs.length ∧ (∀ j c v l, j ≠ ex → bs[j]? = some c → (tupV cur)[j]? = some v → ls[j]? = some l → ScOk T n w I c v l) ∧
      (∀ c, bs[ex]? = some c → HoleOk T w I c) ∧
      (∀ j k c c' v v' b, j ≠ k → bs[j]? = some c → bs[k]? = some c' → (tupV cur)[j]? = some v → (tupV cur)[k]? = some v' → (b = c ∨ (j ≠ ex ∧ b ∈ hdrB v)) → (b = c' ∨ (k ≠ ex ∧ b ∈ hdrB v')) → False) ∧
      (∀ j c v, j ≠ ex → bs[j]? = some c → (tupV cur)[j]? = some v → c ∉ hdrB v)
    keep := fun w I w' I' h hle ho => ⟨h.1, h.2.1, fun j c v l hj hc hv hl => (h.2.2.1 j c v l hj hc hv hl).keep hle fun b hb => ho b ⟨j, c, v, hc, hv, hb.imp_right fun hb => ⟨hj, hb⟩⟩,
      fun c hc => (h.2.2.2.1 c hc).keep (by
        have hlt := (List.getElem?_eq_some_iff.1 hc).1
        exact ho c ⟨ex, c, (tupV cur)[ex]'(by rw [h.1]; exact hlt), hc, List.getElem?_eq_getElem _, .inl rfl⟩), h.2.2.2.2⟩
    kind := fun w I b o h hb ho => by
      obtain ⟨j, c, v, hc, hv, hb⟩ := hb
      by_cases hj : j = ex
      · subst hj
        rcases hb with rfl | ⟨hb, _⟩
        · obtain ⟨_, ⟨fr, v', h2, _⟩, _⟩ := h.2.2.2.1 _ hc
          rw [h2] at ho; cases ho; rfl
        · exact absurd rfl hb
      · have hlt : j < ls.length := by rw [h.2.1]; exact (List.getElem?_eq_some_iff.1 hc).1
        have hok := h.2.2.1 j c v ls[j] hj hc hv (List.getElem?_eq_getElem hlt)
        rcases hb with rfl | ⟨_, hb⟩
        · obtain ⟨_, ⟨fr, h2, _⟩, _⟩ := hok
          rw [h2] at ho; cases ho; rfl
        · exact hok.2.2.2.kind hb ho }
end Go.Al
namespace Go.Al
open Go.RowKit
theorem SimG.takeRow {C : Cx} {A : Nat → SV} {G : Gh} {a : Act} {w : World} (S : SimG C A G a w) {gs gT n i b : Nat} {T : TypeId} {bs : List Nat} {ls : List (List AV)} {l : List AV}
    (hTN : C.N ≤ gT) (hTK : gT < C.K) (h3 : gs ≠ gT) (hg : A gs = .gen (ScF T n bs ls bs.length)) (hb : bs[i]? = some b) (hl : ls[i]? = some l) (hf : ∀ k, k ≠ gT → noG [gT] (A k) = true) :
    ∃ G' v, SimG C (upd A [(gT, .tok n l), (gs, .gen (ScF T n bs ls i))]) G' a w ∧ w.cell? ⟨b, 2, none⟩ = some v ∧ xY w G' (.slg gT n l) v := by
  have hgs := S.holds gs
  rw [hg] at hgs
  simp only [Holds] at hgs
  obtain ⟨hown, hlen, hll, hok, hhole, hap, hself⟩ := hgs
  have hi : i < bs.length := (List.getElem?_eq_some_iff.1 hb).1
  have hex : ∀ {j : Nat} {c : Nat}, bs[j]? = some c → j ≠ bs.length := fun hc => by have := (List.getElem?_eq_some_iff.1 hc).1; omega
  obtain ⟨v, hv⟩ : ∃ v, (tupV (G.cur gs))[i]? = some v := ⟨_, List.getElem?_eq_getElem (by omega)⟩
  have hoki := hok i b v l (hex hb) hb hv hl
  obtain ⟨k1, ⟨fr, k2, k3⟩, k4, k5⟩ := hoki
  let G' : Gh := { G with cur := fun k => if k = gT then v else G.cur k, len := fun k => if k = gT then l.length else G.len k }
  have hrel : GRel [gT] G G' := fun g hg' => by
    have e2 : g ≠ gT := fun e => hg' (by simp [e])
    exact ⟨rfl, .inl ⟨by simp only [G', if_neg e2], by simp only [G', if_neg e2]⟩⟩
  have hu : ∀ k, upd A [(gT, .tok n l), (gs, .gen (ScF T n bs ls i))] k = if k = gT then .tok n l else if k = gs then .gen (ScF T n bs ls i) else A k := by
    intro k
    simp only [upd]
    by_cases e3 : k = gT
    · subst e3; simp [Nat.beq_refl]
    · rw [zO (Ne.symm e3), if_neg e3]
      by_cases e4 : k = gs
      · subst e4; simp [Nat.beq_refl]
      · rw [zO (Ne.symm e4), if_neg e4]; rfl
  have ownG : ∀ c, (c = b ∨ c ∈ hdrB v) → zm G gs c (A gs) := fun c hc => by
    rw [hg]; exact ⟨i, b, v, hb, hv, hc.imp_right fun h => ⟨hex hb, h⟩⟩
  refine ⟨G', v, S.anew rfl (fun g hgK => ?_) (fun k => ?_) ?_, ?_, ?_⟩
  · exact ⟨rfl, by simp only [G']; rw [if_neg (by omega)], by simp only [G']; rw [if_neg (by omega)]⟩
  · rw [hu]
    split
    · rename_i e; subst e
      simp only [Holds, G', if_true]
      refine ⟨trivial, ?_⟩
      rcases k5 with h | ⟨b', cap, e1, e2, e3, e4, e5, e6, e7⟩
      · exact .inl h
      · exact .inr ⟨b', cap, e1, e2, e3, e4, hown b' ⟨i, b, v, hb, hv, .inr ⟨hex hb, by rw [e1]; exact List.mem_singleton.2 rfl⟩⟩, e6, e7⟩
    split
    · rename_i _ e; subst e
      simp only [Holds, G', if_neg h3]
      exact ⟨fun c ⟨j, c', v', hc, hv', hbb⟩ => hown c ⟨j, c', v', hc, hv', hbb.imp_right fun h => ⟨hex hc, h.2⟩⟩, hlen, hll, fun j c v' l' hj hc hv' hl' => hok j c v' l' (hex hc) hc hv' hl',
        fun c hc => by rw [hb] at hc; cases hc; exact ⟨k1, ⟨fr, v, k2, k3⟩, k4⟩,
        fun j j' c c' v1 v2 bb hjj hc hc' hv1 hv2 hb1 hb2 => hap j j' c c' v1 v2 bb hjj hc hc' hv1 hv2 (hb1.imp_right fun h => ⟨hex hc, h.2⟩) (hb2.imp_right fun h => ⟨hex hc', h.2⟩), fun j c v' hj hc hv' => hself j c v' (hex hc) hc hv'⟩
    · rename_i n3 n4
      exact (S.holds k).keep (Gs := [gT]) (Le.refl _ _) hrel (hf k n3) (Nat.le_refl _) (fun h => ⟨h, rfl⟩) (fun _ => ⟨rfl, by simp only [G', if_neg n3], by simp only [G', if_neg n3]⟩) (fun c _ => ⟨rfl, fun _ h => h⟩)
  · have conv : ∀ k c, zm G' k c (upd A [(gT, .tok n l), (gs, .gen (ScF T n bs ls i))] k) →
        (k = gT ∧ c ∈ hdrB v) ∨ (k = gs ∧ ∃ j c' v', bs[j]? = some c' ∧ (tupV (G.cur gs))[j]? = some v' ∧ (c = c' ∨ (j ≠ i ∧ c ∈ hdrB v'))) ∨ (k ≠ gs ∧ zm G k c (A k)) := by
      intro k c hc
      rw [hu] at hc
      split at hc
      · rename_i e; subst e
        simp only [zm, G', if_true] at hc
        obtain ⟨ad, m, cp, e1, e2⟩ := hc
        exact .inl ⟨rfl, by rw [e1, ← e2]; exact List.mem_singleton.2 rfl⟩
      split at hc
      · rename_i _ e; subst e
        simp only [zm, G', if_neg h3] at hc
        exact .inr (.inl ⟨rfl, hc⟩)
      · rename_i n3 n4
        exact .inr (.inr ⟨n4, (ownsB_agree (G1 := G) (G2 := G') (k := k) (b := c) (x := A k) ⟨rfl, by simp only [G', if_neg n3], by simp only [G', if_neg n3]⟩).1 hc⟩)
    have old : ∀ k c, (k = gT ∧ c ∈ hdrB v) ∨ (k = gs ∧ ∃ j c' v', bs[j]? = some c' ∧ (tupV (G.cur gs))[j]? = some v' ∧ (c = c' ∨ (j ≠ i ∧ c ∈ hdrB v'))) → zm G gs c (A gs) := by
      rintro k c (⟨_, e⟩ | ⟨_, j, c', v', hc', hv', hbb⟩)
      · exact ownG c (.inr e)
      · rw [hg]; exact ⟨j, c', v', hc', hv', hbb.imp_right fun h => ⟨hex hc', h.2⟩⟩
    intro k j c hkj hk hj
    have sep : ∀ {c : Nat}, c ∈ hdrB v → (∃ j c' v', bs[j]? = some c' ∧ (tupV (G.cur gs))[j]? = some v' ∧ (c = c' ∨ (j ≠ i ∧ c ∈ hdrB v'))) → False := by
      rintro c hc ⟨j', c', v', hc', hv', hbb⟩
      by_cases e : j' = i
      · subst e
        rw [hb] at hc'; cases hc'
        rcases hbb with rfl | ⟨h, _⟩
        · exact hself j' c v (hex hb) hb hv hc
        · exact h rfl
      · exact hap i j' b c' v v' c (Ne.symm e) hb hc' hv hv' (.inr ⟨hex hb, hc⟩) (hbb.imp_right fun h => ⟨hex hc', h.2⟩)
    rcases conv k c hk with p | p | ⟨pn, p⟩ <;> rcases conv j c hj with q | q | ⟨qn, q⟩
    · exact hkj (p.1.trans q.1.symm)
    · exact sep p.2 q.2
    · exact S.apart gs j c (Ne.symm qn) (old k c (.inl p)) q
    · exact sep q.2 p.2
    · exact hkj (p.1.trans q.1.symm)
    · exact S.apart gs j c (Ne.symm qn) (old k c (.inr p)) q
    · exact S.apart k gs c pn p (old j c (.inl q))
    · exact S.apart k gs c pn p (old j c (.inr q))
    · exact S.apart k j c hkj p q
  · simp only [World.cell?, k2]; rfl
  · refine ⟨[v], ?_, rfl⟩
    simp only [RepS]
    refine ⟨v, rfl, ?_, ?_, ?_⟩
    · simp only [RepC]
      rcases k5 with ⟨rfl, rfl⟩ | ⟨b', cap, e1, e2, e3, e4, _⟩
      · exact ⟨_, rfl, .inl ⟨none, 0, rfl, rfl, Nat.zero_le _, fun _ => rfl⟩⟩
      · exact ⟨_, rfl, .inr ⟨b', 0, cap, e1, e2, e3, e4⟩⟩
    · simp only [G', if_true]; exact Nat.le_refl _
    · intro _; simp only [G', if_true]
section
variable {C : Cx} {A : Nat → SV} {d : Nat} {ty : TypeId} {pos : String} {af : Array Edge} {gd : Option (Nat × Bool)} {x y : Operand} {T1 : TypeId}
theorem s_loadSc (gs gT i : Nat) {n b : Nat} {T : TypeId} {bs : List Nat} {ls : List (List AV)} {l : List AV} (hgs : Nat.ble C.N gs = true) (hTN : Nat.ble C.N gT = true) (hTK : Nat.blt gT C.K = true) (hsT : Nat.beq gs gT = false) (hN : Nat.blt d C.N = true)
    (hx : opV A x = some (.v (.pointer (some ⟨b, 2, none⟩)))) (hg : A gs = .gen (ScF T n bs ls bs.length)) (hb : bs[i]? = some b) (hl : ls[i]? = some l) (hq : xi C.P T1 = some false) (hn : yP C.P T1 = some 1) :
    zr C ⟨some d, .load T1 x, ty, pos, af, gd⟩ (gs :: opR x) [gT] A [(d, .slg gT n l), (gT, .tok n l), (gs, .gen (ScF T n bs ls i))] := by
  intro A' a w hR hF ⟨G, S⟩
  have hgA : A' gs = .gen (ScF T n bs ls bs.length) := (hR gs List.mem_cons_self).trans hg
  rw [← yX (fun k hk => hR k (List.mem_cons_of_mem _ hk))] at hx
  have hev := rep_val (S.opV hx) rfl
  have hN' : d < C.N := by simpa [Nat.blt_eq] using hN
  have hgsN := Nat.le_of_ble_eq_true hgs
  have hTN' := Nat.le_of_ble_eq_true hTN
  have hds : gs ≠ d := by omega
  have hdT : gT ≠ d := by omega
  have hne : gs ≠ gT := by rintro rfl; rw [Nat.beq_refl] at hsT; cases hsT
  let A0 : Nat → SV := fun k => if k = d then .dead else A' k
  have S0 : SimG C A0 G a w := S.drop fun k => by by_cases h : k = d <;> simp [A0, h]
  have hfr : ∀ k, k ≠ gT → noG [gT] (A0 k) = true := by
    intro k h1
    by_cases h2 : k = d
    · simp [A0, h2, noG]
    · by_cases h3 : k = gs
      · have : A0 k = .gen (ScF T n bs ls bs.length) := by simp only [A0, if_neg h2]; rw [h3]; exact hgA
        rw [this]; rfl
      · have := hF k (by simp only [has, zO (Ne.symm h1), zO (Ne.symm h2), zO (Ne.symm h3)]; rfl)
        simpa [A0, h2] using this
  have hA0 : A0 gs = .gen (ScF T n bs ls bs.length) := by simp only [A0, if_neg hds]; exact hgA
  obtain ⟨G', v, S1, hc, hv⟩ := S0.takeRow hTN' (by simpa [Nat.blt_eq] using hTK) hne hA0 hb hl hfr
  have S2 := S1.put hN' hv
  have hrun : (execOp a.eval ⟨some d, .load T1 x, ty, pos, af, gd⟩).run C.P w = .ok (.value v) w := by
    simp only [execOp, Instr.loadAt, Instr.sureAddr, hev, Sem.run_bind, Sem.run_pure, Result.andThen_ok]
    rw [run_loadVar (cs := [v]) hq hn (fun _ => rfl) (fun j hj => by
      have hj0 : j = 0 := by simpa using hj
      subst hj0; simpa using hc)]
    rfl
  unfold Oper.wp
  rw [hrun, Oper.upon_value]
  refine ⟨G', ?_⟩
  have e : upd (upd A0 [(gT, .tok n l), (gs, .gen (ScF T n bs ls i))]) [(d, .slg gT n l)] = upd A' [(d, .slg gT n l), (gT, .tok n l), (gs, .gen (ScF T n bs ls i))] := by
    funext k
    simp only [upd]
    by_cases h1 : d = k
    · subst h1; rw [Nat.beq_refl]; rfl
    · rw [zO h1]
      cases Nat.beq gT k
      · cases Nat.beq gs k
        · simp only [cond_false, A0, if_neg (Ne.symm h1)]
        · rfl
      · rfl
  rw [← e]; exact S2
end
theorem SimG.turnB {C : Cx} {A : Nat → SV} {G : Gh} {a : Act} {w : World} (S : SimG C A G a w) {g b0 : Nat} {X' : SV} {o' : Obj}
    (how : Owned C.w0 C.E w b0) (hni : ∀ o, ¬ G.I b0 o) (hown : zm G g b0 (A g)) (hown' : ∀ b, zm G g b X' → zm G g b (A g))
    (hnew : Le w G.I (yU w b0 o') G.I → Holds C.w0 C.E G a (yU w b0 o') g X') :
    SimG C (upd A [(g, X')]) G a (yU w b0 o') := by
  have hlt : b0 < w.heap.size := how.2
  have hle : Le w G.I (yU w b0 o') G.I := fun b o h => ⟨h, by
    have : b ≠ b0 := by rintro rfl; exact hni o h
    exact yx (xB this)⟩
  have hu : ∀ k, upd A [(g, X')] k = if k = g then X' else A k := xW A g X'
  have conv : ∀ k b, zm G k b (upd A [(g, X')] k) → zm G k b (A k) := by
    intro k b h
    rw [hu] at h
    split at h
    · rename_i hk; subst hk; exact hown' b h
    · exact h
  refine ⟨S.os, S.tape, S.output, by rw [yW]; exact S.size, fun k h1 h2 => ?_, S.sub.trans hle, S.rel, S.glob.mono hle, S.new, fun b o h => by rw [yW]; exact S.val b o h, S.nts, S.dfs, fun k => ?_, fun k j b hkj h1 h2 => S.apart k j b hkj (conv k b h1) (conv j b h2)⟩
  · have : k ≠ b0 := by
      rintro rfl
      rcases how.1 with h | h
      · omega
      · exact h2 h
    rw [xB this]; exact S.block k h1 h2
  · rw [hu]
    split
    · rename_i hk; subst hk; exact hnew hle
    · rename_i hk
      refine (S.holds k).keep hle (GRel.refl G) (xT.1 _) (by rw [yW]; exact Nat.le_refl _) (fun h => ⟨h, rfl⟩) (fun _ => ⟨rfl, rfl, rfl⟩) (fun b hb => ⟨?_, fun _ h => h⟩)
      have : b ≠ b0 := by
        rintro rfl
        exact S.apart k g _ hk hb hown
      exact xB this
end Go.Al
namespace Go.Al
open Go.RowKit
theorem TokS.own {w0 : World} {E : Nat → Prop} {I : Nat → Nat → Prop} {w : World} {v : Value} {n : Nat} {l : List AV} (h : TokS w0 E I w v n l) : TokS w (fun _ => True) I w v n l ∧ ∀ b, b ∈ hdrB v → Owned w0 E w b := by
  rcases h with ⟨rfl, rfl⟩ | ⟨b, cap, h1, h2, h3, h4, h5, h6, h7⟩
  · exact ⟨.inl ⟨rfl, rfl⟩, fun b hb => by cases hb⟩
  · refine ⟨.inr ⟨b, cap, h1, h2, h3, h4, ⟨.inr trivial, h5.2⟩, h6, h7⟩, fun c hc => ?_⟩
    rw [h1] at hc
    cases List.mem_singleton.1 hc
    exact h5
theorem hdrB_mem {v : Value} {c : Nat} (h : c ∈ hdrB v) : ∃ a n m, v = .slice (some a) n m ∧ a.block = c := by
  unfold hdrB at h
  split at h
  · exact ⟨_, _, _, rfl, (List.mem_singleton.1 h).symm⟩
  · cases h
theorem SimG.putRow {C : Cx} {A : Nat → SV} {G : Gh} {a : Act} {w : World} (S : SimG C A G a w) {gs gT n i b : Nat} {T : TypeId} {bs : List Nat} {ls : List (List AV)} {l' : List AV}
    (hgK : gs < C.K) (h3 : gs ≠ gT) (hg : A gs = .gen (ScF T n bs ls i)) (hT : A gT = .tok n l') (hb : bs[i]? = some b) :
    ∃ fr v0, w.heap[b]? = some (.cells #[.string .empty, .string .empty, v0] T fr) ∧ unfrozen fr 3 ∧
      ∃ G', SimG C (upd A [(gT, .dead), (gs, .gen (ScF T n bs (ls.set i l') bs.length))]) G' a (yU w b (.cells #[.string .empty, .string .empty, G.cur gT] T fr)) := by
  have hgs := S.holds gs
  rw [hg] at hgs
  simp only [Holds] at hgs
  obtain ⟨hown, hlen, hll, hok, hhole, hap, hself⟩ := hgs
  obtain ⟨k1, ⟨fr, v0, k2, k3⟩, k4⟩ := hhole b hb
  have hi : i < bs.length := (List.getElem?_eq_some_iff.1 hb).1
  obtain ⟨vi, hvi⟩ : ∃ v, (tupV (G.cur gs))[i]? = some v := ⟨_, List.getElem?_eq_getElem (by omega)⟩
  have hbo := hown b ⟨i, b, vi, hb, hvi, .inl rfl⟩
  have hgo : ∀ {j c : Nat} {v : Value} {c' : Nat}, bs[j]? = some c → (tupV (G.cur gs))[j]? = some v → (c' = c ∨ (j ≠ i ∧ c' ∈ hdrB v)) → zm G gs c' (A gs) := fun h1 h2 h3 => by rw [hg]; exact ⟨_, _, _, h1, h2, h3⟩
  have htok := S.holds gT
  rw [hT] at htok
  simp only [Holds] at htok
  obtain ⟨htl, hts⟩ := htok
  obtain ⟨hts1, hts2⟩ := hts.own
  have hTo : ∀ c, c ∈ hdrB (G.cur gT) → zm G gT c (A gT) := fun c hc => by
    rw [hT]; exact hdrB_mem hc
  have hTb : ∀ {j c : Nat} {v : Value} {c' : Nat}, bs[j]? = some c → (tupV (G.cur gs))[j]? = some v → (c' = c ∨ (j ≠ i ∧ c' ∈ hdrB v)) → c' ∈ hdrB (G.cur gT) → False := fun h1 h2 h4 h5 => S.apart gs gT _ h3 (hgo h1 h2 h4) (hTo _ h5)
  refine ⟨fr, v0, k2, k3, ?_⟩
  have hne : ∀ {k : Nat}, k ≠ b → (yU w b (.cells #[.string .empty, .string .empty, G.cur gT] T fr)).heap[k]? = w.heap[k]? := fun h => xB h
  have S1 := S.turnB (g := gs) (b0 := b) (X' := .gen (ScF T n bs ls i)) (o' := .cells #[.string .empty, .string .empty, G.cur gT] T fr) hbo k4 (hgo hb hvi (.inl rfl)) (fun c h => by rw [hg]; exact h) (fun hle => by
    simp only [Holds]
    refine ⟨fun c hc => ⟨(hown c hc).1, by rw [yW]; exact (hown c hc).2⟩, hlen, hll, fun j c v l hj hc hv hl => (hok j c v l hj hc hv hl).keep hle fun c2 hc2 => ⟨hne ?_, fun _ h => h⟩, fun c hc => ?_, hap, hself⟩
    · rintro rfl
      exact hap j i c _ v vi _ hj hc hb hv hvi (hc2.imp_right fun h => ⟨hj, h⟩) (.inl rfl)
    · rw [hb] at hc; cases hc
      exact ⟨by rw [yW]; exact k1, ⟨fr, _, xt k1, k3⟩, k4⟩)
  let G' : Gh := { G with cur := fun k => if k = gs then .tuple ((tupV (G.cur gs)).set i (G.cur gT)).toArray else G.cur k, len := fun k => if k = gs then G.len gs + 1 else G.len k }
  have hrel : GRel [] G G' := fun g _ => ⟨rfl, by
    by_cases e : g = gs
    · subst e; right; simp only [G', if_true]; omega
    · left; exact ⟨by simp only [G', if_neg e], by simp only [G', if_neg e]⟩⟩
  have hu : ∀ k, upd A [(gT, .dead), (gs, .gen (ScF T n bs (ls.set i l') bs.length))] k = if k = gT then .dead else if k = gs then .gen (ScF T n bs (ls.set i l') bs.length) else A k := by
    intro k
    simp only [upd]
    by_cases e3 : k = gT
    · subst e3; simp [Nat.beq_refl]
    · rw [zO (Ne.symm e3), if_neg e3]
      by_cases e4 : k = gs
      · subst e4; simp [Nat.beq_refl]
      · rw [zO (Ne.symm e4), if_neg e4]; rfl
  have hcur : tupV (G'.cur gs) = (tupV (G.cur gs)).set i (G.cur gT) := by simp only [G', if_true, tupV]
  have hget : ∀ {j : Nat} {v : Value}, ((tupV (G.cur gs)).set i (G.cur gT))[j]? = some v → (j = i ∧ v = G.cur gT) ∨ (j ≠ i ∧ (tupV (G.cur gs))[j]? = some v) := by
    intro j v h
    by_cases e : j = i
    · subst e
      rw [List.getElem?_set_self (by omega)] at h
      exact .inl ⟨rfl, (Option.some.inj h).symm⟩
    · rw [List.getElem?_set_ne (Ne.symm e)] at h
      exact .inr ⟨e, h⟩
  -- whose a block of the scopes is
  have part : ∀ {j c : Nat} {v : Value} {c' : Nat}, bs[j]? = some c → ((tupV (G.cur gs)).set i (G.cur gT))[j]? = some v → (c' = c ∨ c' ∈ hdrB v) → zm G gs c' (A gs) ∨ c' ∈ hdrB (G.cur gT) := by
    intro j c v c' hc hv hh
    rcases hget hv with ⟨rfl, rfl⟩ | ⟨hj, hv'⟩
    · rcases hh with rfl | hh
      · exact .inl (hgo hc hvi (.inl rfl))
      · exact .inr hh
    · exact .inl (hgo hc hv' (hh.imp_right fun h => ⟨hj, h⟩))
  have hw' : ∀ c, c ∈ hdrB (G.cur gT) → c ≠ b := fun c hc e => by subst e; exact hTb hb hvi (.inl rfl) hc
  have hle : Le w G.I (yU w b (.cells #[.string .empty, .string .empty, G.cur gT] T fr)) G.I := fun c o h => ⟨h, yx (hne (by rintro rfl; exact k4 o h))⟩
  refine ⟨G', S1.anew rfl (fun g hgK' => ?_) (fun k => ?_) ?_⟩
  · have : g ≠ gs := by omega
    exact ⟨rfl, by simp only [G', if_neg this], by simp only [G', if_neg this]⟩
  · rw [hu]
    split
    · trivial
    split
    · rename_i _ e; subst e
      simp only [Holds, ScF]
      rw [hcur]
      refine ⟨?_, by rw [List.length_set]; exact hlen, by rw [List.length_set]; exact hll, ?_, ?_, ?_, ?_⟩
      · rintro c ⟨j, c', v, hc, hv, hh⟩
        have hh' : c = c' ∨ c ∈ hdrB v := hh.imp_right And.right
        rcases part hc hv hh' with h | h
        · have := (S.holds k).owned h
          exact ⟨this.1, by rw [yW]; exact this.2⟩
        · have := hts2 c h
          exact ⟨this.1, by rw [yW]; exact this.2⟩
      · intro j c v l _ hc hv hl
        rcases hget hv with ⟨rfl, rfl⟩ | ⟨hj, hv'⟩
        · rw [hb] at hc; cases hc
          rw [List.getElem?_set_self (by omega)] at hl
          cases hl
          exact ⟨by rw [yW]; exact k1, ⟨fr, xt k1, k3⟩, k4, hts1.keep hle fun c hc => ⟨hne (hw' c hc), fun _ h => h⟩⟩
        · rw [List.getElem?_set_ne (Ne.symm hj)] at hl
          refine (hok j c v l hj hc hv' hl).keep hle fun c2 hc2 => ⟨hne ?_, fun _ h => h⟩
          rintro rfl
          exact hap j i c _ v vi _ hj hc hb hv' hvi (hc2.imp_right fun h => ⟨hj, h⟩) (.inl rfl)
      · intro c hc
        rw [List.getElem?_eq_none (Nat.le_refl _)] at hc; cases hc
      · intro j j' c c' v v' bb hjj hc hc' hv hv' h1 h2
        have h1 : bb = c ∨ bb ∈ hdrB v := h1.imp_right And.right
        have h2 : bb = c' ∨ bb ∈ hdrB v' := h2.imp_right And.right
        rcases hget hv with ⟨rfl, rfl⟩ | ⟨hj, hv1⟩ <;> rcases hget hv' with ⟨e, rfl⟩ | ⟨hj', hv2⟩
        · exact hjj e.symm
        · rcases h1 with rfl | h1
          · exact hap j j' _ c' vi v' _ hjj hc hc' hvi hv2 (.inl rfl) (h2.imp_right fun h => ⟨hj', h⟩)
          · exact hTb hc' hv2 (h2.imp_right fun h => ⟨hj', h⟩) h1
        · subst e
          rcases h2 with rfl | h2
          · exact hap j j' c _ v vi _ hjj hc hc' hv1 hvi (h1.imp_right fun h => ⟨hj, h⟩) (.inl rfl)
          · exact hTb hc hv1 (h1.imp_right fun h => ⟨hj, h⟩) h2
        · exact hap j j' c c' v v' bb hjj hc hc' hv1 hv2 (h1.imp_right fun h => ⟨hj, h⟩) (h2.imp_right fun h => ⟨hj', h⟩)
      · intro j c v _ hc hv
        rcases hget hv with ⟨rfl, rfl⟩ | ⟨hj, hv1⟩
        · rw [hb] at hc; cases hc
          exact fun h => hw' _ h rfl
        · exact hself j c v hj hc hv1
    · rename_i n3 n4
      have hk := S1.holds k
      rw [show upd A [(gs, .gen (ScF T n bs ls i))] k = A k by rw [xW, if_neg n4]] at hk
      exact hk.keep (Gs := []) (Le.refl _ _) hrel (xT.1 _) (Nat.le_refl _) (fun h => ⟨h, rfl⟩) (fun _ => ⟨rfl, by simp only [G', if_neg n4], by simp only [G', if_neg n4]⟩) (fun c _ => ⟨rfl, fun _ h => h⟩)
  · have conv : ∀ k c, zm G' k c (upd A [(gT, .dead), (gs, .gen (ScF T n bs (ls.set i l') bs.length))] k) → (k = gs ∧ (zm G gs c (A gs) ∨ zm G gT c (A gT))) ∨ (k ≠ gs ∧ k ≠ gT ∧ zm G k c (A k)) := by
      intro k c hc
      rw [hu] at hc
      split at hc
      · simp only [zm] at hc
      split at hc
      · rename_i _ e; subst e
        simp only [zm, ScF] at hc
        rw [hcur] at hc
        obtain ⟨j, c', v, h1, h2, hh⟩ := hc
        exact .inl ⟨rfl, (part h1 h2 (hh.imp_right And.right)).imp_right (hTo c)⟩
      · rename_i n3 n4
        exact .inr ⟨n4, n3, (ownsB_agree (G1 := G) (G2 := G') (k := k) (b := c) (x := A k) ⟨rfl, by simp only [G', if_neg n4], by simp only [G', if_neg n4]⟩).1 hc⟩
    intro k j c hkj hk hj
    rcases conv k c hk with ⟨pk, p⟩ | ⟨pn, pn', p⟩ <;> rcases conv j c hj with ⟨qk, q⟩ | ⟨qn, qn', q⟩
    · exact hkj (pk.trans qk.symm)
    · rcases p with p | p
      · exact S.apart gs j c (Ne.symm qn) p q
      · exact S.apart gT j c (Ne.symm qn') p q
    · rcases q with q | q
      · exact S.apart k gs c pn p q
      · exact S.apart k gT c pn' p q
    · exact S.apart k j c hkj p q
end Go.Al
namespace Go.Al
open Go.RowKit
theorem SimG.tellKs {C : Cx} {A A' : Nat → SV} {G G' : Gh} {a : Act} {w : World} (S : SimG C A G a w) (ks Gs : List Nat)
    (hle : Le w G.I w G'.I) (hrel : GRel Gs G G') (hK : ∀ g, C.K ≤ g → Turns G G' g)
    (hsame : ∀ k, k ∉ ks → A' k = A k ∧ G'.blk k = G.blk k ∧ G'.cur k = G.cur k ∧ G'.len k = G.len k)
    (hfresh : ∀ k, k ∉ ks → noG Gs (A k) = true)
    (hI : ∀ b o, G'.I b o → G.I b o ∨ ∃ k, k ∈ ks ∧ zm G k b (A k))
    (hown : ∀ k, k ∈ ks → ∀ b, zm G' k b (A' k) → ∃ j, j ∈ ks ∧ zm G j b (A j))
    (hh : ∀ k, k ∈ ks → Holds C.w0 C.E G' a w k (A' k))
    (hap : ∀ k j b, k ∈ ks → j ∈ ks → k ≠ j → zm G' k b (A' k) → zm G' j b (A' j) → False) : SimG C A' G' a w := by
  have hnot : ∀ k b, k ∉ ks → zm G k b (A k) → ∀ j, j ∈ ks → ¬ zm G j b (A j) := fun k b hk h j hj h' => S.apart k j b (by rintro rfl; exact hk hj) h h'
  have hoff : ∀ k b, k ∉ ks → zm G' k b (A' k) → zm G k b (A k) := fun k b hk h => by
    obtain ⟨e, e1, e2, e3⟩ := hsame k hk
    rw [e] at h; exact (ownsB_agree ⟨e1, e2, e3⟩).1 h
  refine ⟨S.os, S.tape, S.output, S.size, S.block, S.sub.trans hle, fun g hg => (S.rel g hg).trans (hK g hg), S.glob.mono hle, fun b o h => ?_, fun b o h => ?_, S.nts, S.dfs, fun k => ?_, fun k j b hkj h1 h2 => ?_⟩
  · rcases hI b o h with h | ⟨k, _, h⟩
    · exact S.new b o h
    · exact .inr (((S.holds k).owned h).1)
  · rcases hI b o h with h | ⟨k, _, h⟩
    · exact S.val b o h
    · exact ownsB_lt S h
  · by_cases hk : k ∈ ks
    · exact hh k hk
    · obtain ⟨e, e1, e2, e3⟩ := hsame k hk
      rw [e]
      exact (S.holds k).keep hle hrel (hfresh k hk) (Nat.le_refl _) (fun h => ⟨h, rfl⟩) (fun _ => ⟨e1, e2, e3⟩) (fun b hb => ⟨rfl, fun o ho => by
        rcases hI b o ho with h | ⟨j, hj, h⟩
        · exact h
        · exact absurd h (hnot k b hk hb j hj)⟩)
  · by_cases hk : k ∈ ks <;> by_cases hj : j ∈ ks
    · exact hap k j b hk hj hkj h1 h2
    · obtain ⟨i, hi, h3⟩ := hown k hk b h1
      exact hnot j b hj (hoff j b hj h2) i hi h3
    · obtain ⟨i, hi, h3⟩ := hown j hj b h2
      exact hnot k b hk (hoff k b hk h1) i hi h3
    · exact S.apart k j b hkj (hoff k b hk h1) (hoff j b hj h2)
section
variable {C : Cx} {A : Nat → SV} {d : Nat} {ty : TypeId} {pos : String} {af : Array Edge} {gd : Option (Nat × Bool)} {x y : Operand} {T : TypeId}
theorem s_nilRaw {b o : Nat} (hN : Nat.blt d C.N = true) (hx : opV A x = some (.v (.pointer (some ⟨b, o, none⟩)))) :
    zr C ⟨some d, .nilCheck x, ty, pos, af, gd⟩ (opR x) [] A [(d, .imm (.v (.pointer (some ⟨b, o, none⟩))))] :=
  zr.op1 rfl hN hx fun w I ρ h => by
    have e := rep_val h rfl
    exact ⟨ρ x, by simp only [execOp, e]; rfl, h⟩
theorem s_fieldRaw {b p o n : Nat} {f : Nat} {q : Bool} (hN : Nat.blt d C.N = true) (hx : opV A x = some (.v (.pointer (some ⟨b, p, none⟩)))) (hf : fieldAt C.P T f o n q) (h0 : Nat.blt 0 n = true) :
    zr C ⟨some d, .fieldAddr T x f, ty, pos, af, gd⟩ (opR x) [] A [(d, .imm (.v (.pointer (some ⟨b, p + o, none⟩))))] := by
  refine zr.op1 rfl hN hx fun w I ρ h => ?_
  have e := rep_val h rfl
  obtain ⟨fs, fld, hU, hfs, hoff, hn, hq⟩ := hf
  have hn0 : n ≠ 0 := by have : 0 < n := by simpa [Nat.blt_eq] using h0
                         omega
  refine ⟨_, ?_, xd w I rfl⟩
  simp only [execOp, Instr.fieldAt, Instr.sureAddr, e, Sem.run_bind, zd hU, Result.andThen_ok, hfs, Sem.run_pure, fieldPlace, yJ hn, hn0, if_false, xS, hoff]
theorem s_storeSc (gs gT i : Nat) {n b : Nat} {T0 : TypeId} {bs : List Nat} {ls : List (List AV)} {l' : List AV} (hgK : Nat.blt gs C.K = true) (hsT : Nat.beq gs gT = false)
    (hx : opV A x = some (.v (.pointer (some ⟨b, 2, none⟩)))) (hy : opS A y = .slg gT n l') (hT : A gT = .tok n l') (hg : A gs = .gen (ScF T0 n bs ls i)) (hb : bs[i]? = some b) (hn : yP C.P T = some 1) :
    zr C ⟨none, .store T x y, ty, pos, af, gd⟩ (gs :: gT :: (opR x ++ opR y)) [] A [(gT, .dead), (gs, .gen (ScF T0 n bs (ls.set i l') bs.length))] := by
  intro A' a w hR hF ⟨G, S⟩
  have hgA : A' gs = .gen (ScF T0 n bs ls i) := (hR gs List.mem_cons_self).trans hg
  have hTA : A' gT = .tok n l' := (hR gT (List.mem_cons_of_mem _ List.mem_cons_self)).trans hT
  rw [← yX (fun k hk => hR k (List.mem_cons_of_mem _ (List.mem_cons_of_mem _ (List.mem_append_left _ hk))))] at hx
  rw [← ye (fun k hk => hR k (List.mem_cons_of_mem _ (List.mem_cons_of_mem _ (List.mem_append_right _ hk))))] at hy
  have hev := rep_val (S.opV hx) rfl
  obtain ⟨c, hc1, hc2⟩ := S.opS hy rfl
  simp only [RepS] at hc1
  obtain ⟨v, rfl, hv1, hv2, hv3⟩ := hc1
  have htok := S.holds gT
  rw [hTA] at htok
  simp only [Holds] at htok
  have hcur : v = G.cur gT := hv3 htok.1.symm
  have hne : gs ≠ gT := by rintro rfl; rw [Nat.beq_refl] at hsT; cases hsT
  obtain ⟨fr, v0, k2, k3, G', S1⟩ := S.putRow (by simpa [Nat.blt_eq] using hgK) hne hgA hTA hb
  have hpl : [v].all plain = true := RepC.plain _ _ hv1
  have hvy : a.eval y = v := hc2
  have hcl : v.cells.toList = [v] := by
    have := mkV_cells hv1
    simpa [mkV, AV.isAgg] using this
  have hrun : (storeVar T ⟨b, 2, none⟩ (a.eval y)).run C.P w = .ok () (yU w b (.cells #[.string .empty, .string .empty, G.cur gT] T0 fr)) := by
    simp only [storeVar, Sem.run_bind, yJ hn, Result.andThen_ok]
    have hsz : (a.eval y).cells.size = 1 := by rw [hvy, ← Array.length_toList, hcl]; rfl
    rw [if_neg (by omega), hvy, hcl]
    have := wD (P := C.P) (b := b) (o := 2) [v] w _ k2 k3 (Nat.le_refl _) hpl
    rw [this, hcur]; rfl
  unfold Oper.wp
  simp only [execOp, Instr.storeAt, Instr.sureAddr, hev, Sem.run_bind, Sem.run_pure, Result.andThen_ok, hrun]
  rw [Oper.upon_skip]
  exact ⟨G', S1⟩
end
end Go.Al
namespace Go.Al
open Go.RowKit
theorem has_off {l : List (Nat × SV)} {k : Nat} (h : k ∉ xN l) : has l k = false := by
  cases hb : has l k
  · rfl
  · exact absurd ((has_iff l k).1 hb) h
theorem upd_off {A : Nat → SV} {l : List (Nat × SV)} {k : Nat} (h : k ∉ xN l) : upd A l k = A k := wu A l k (has_off h)
def buildSV (pl : Nat → Option (Nat × Nat)) : List (Nat × SV) → SV → Option SV
  | [], X => some X
  | (i, v) :: ps, X => match pl i with
    | some (off, n) => bif Nat.beq v.width n then (match setS 8 X off v with | some X' => buildSV pl ps X' | none => none) else none
    | none => none
def opSv (A : Nat → SV) (xs : List (Nat × Operand)) : List (Nat × SV) := xs.map fun p => (p.1, opS A p.2)
theorem opSv_congr {A A' : Nat → SV} : ∀ {xs : List (Nat × Operand)}, (∀ k ∈ opPRs xs, A' k = A k) → opSv A' xs = opSv A xs
  | [], _ => rfl
  | (i, x) :: xs, h => by
    simp only [opSv, List.map_cons]
    have h2 := opSv_congr (xs := xs) (fun k hk => h k (List.mem_append_right _ hk))
    simp only [opSv] at h2
    rw [ye (fun k hk => h k (List.mem_append_left _ hk)), h2]
theorem run_fillSV {w : World} {G : Gh} {pl : Nat → Option (Nat × Nat)} {ρ : Operand → Value} : ∀ (ps : List (Nat × Operand)) (qs : List (Nat × SV)) (cs : Array Value) (X Y : SV),
    (∀ i : Nat, ∀ x : Operand, ∀ j : Nat, ps[j]? = some (i, x) → ∃ v, qs[j]? = some (i, v) ∧ ValS w G v (ρ x)) → qs.length = ps.length → RepS w G X cs.toList → buildSV pl qs X = some Y →
    ∃ cs', Instr.fill pl cs (ps.map fun p => (p.1, ρ p.2)) = some cs' ∧ RepS w G Y cs'.toList
  | [], qs, cs, X, Y, _, hl, hX, hb => by
    cases qs with
    | nil => simp only [buildSV] at hb; cases hb; exact ⟨cs, rfl, hX⟩
    | cons q qs => simp at hl
  | (i, x) :: ps, qs, cs, X, Y, h, hl, hX, hb => by
    obtain ⟨v, h1, h2⟩ := h i x 0 rfl
    cases qs with
    | nil => simp at h1
    | cons q qs =>
      simp at h1; subst h1
      simp only [buildSV] at hb
      cases hpl : pl i with
      | none => rw [hpl] at hb; cases hb
      | some on =>
        obtain ⟨off, n⟩ := on
        rw [hpl] at hb
        simp only [] at hb
        cases hw : Nat.beq v.width n
        · rw [hw] at hb; cases hb
        · rw [hw] at hb
          simp only [cond_true] at hb
          cases hs : setS 8 X off v with
          | none => rw [hs] at hb; cases hb
          | some X' =>
            rw [hs] at hb
            simp only [] at hb
            have hv : RepS w G v (ρ x).cells.toList := h2.cells
            have hvl := RepS.len _ _ hv
            simp only [Array.length_toList] at hvl
            have hn := Nat.eq_of_beq_eq_true hw
            obtain ⟨m1, m2⟩ := setS_spec hv 8 X cs.toList off X' hX hs
            simp only [Array.length_toList] at m2
            have e : (ρ x).cells.zipIdx.foldl (fun (cs : Array Value) (p : Value × Nat) => cs.setIfInBounds (off + p.2) p.1) cs = yv cs off (ρ x).cells.toList := by
              rw [← Array.foldl_toList, Array.toList_zipIdx]
              exact fold_splice _ cs off 0
            obtain ⟨cs', m3, m4⟩ := run_fillSV ps qs (yv cs off (ρ x).cells.toList) X' Y (fun i x j hj => h i x (j + 1) (by simpa using hj)) (by simpa using hl)
              (by rw [xI _ _ _ (by simpa using m2)]; exact m1) hb
            refine ⟨cs', ?_, m4⟩
            simp only [List.map_cons, Instr.fill, hpl]
            rw [if_neg (by simp; omega)]
            rw [e]; exact m3
section
variable {C : Cx} {A : Nat → SV} {d : Nat} {ty : TypeId} {pos : String} {af : Array Edge} {gd : Option (Nat × Bool)} {x y : Operand} {T T' : TypeId}
theorem s_buildSV {fs : Array Field} {pl : List (Nat × Nat)} {parts : Array (Nat × Operand)} {X0 : AV} {Y : List SV} (hN : Nat.blt d C.N = true) (hz : yu C.P T X0) (hU : C.P.underlying T = some (.struct fs)) (hpl : xw C.P fs.toList = some pl)
    (hp : (opSv A parts.toList).all (fun p => p.2.slotty) = true) (hb : buildSV (pl[·]?) (opSv A parts.toList) (.imm X0) = some (.agg Y)) :
    zr C ⟨some d, .build T parts, ty, pos, af, gd⟩ (opPRs parts.toList) [] A [(d, .agg Y)] := by
  refine zr.value rfl hN fun A' G a w hR S => ?_
  rw [← opSv_congr hR] at hp hb
  obtain ⟨z, hz1, hz2⟩ := hz
  have hp' := List.all_eq_true.1 hp
  have h2 : ∀ i : Nat, ∀ x : Operand, ∀ j : Nat, parts.toList[j]? = some (i, x) → ∃ v, (opSv A' parts.toList)[j]? = some (i, v) ∧ ValS w G v (a.eval x) := by
    intro i x j hj
    refine ⟨opS A' x, by simp only [opSv, List.getElem?_map, hj, Option.map_some], ?_⟩
    have hs := hp' (i, opS A' x) (by simp only [opSv]; exact List.mem_map.2 ⟨(i, x), List.mem_of_getElem? hj, rfl⟩)
    exact slotty_val hs (S.opS rfl (SV.slotty_res hs))
  obtain ⟨cs', h3, h4⟩ := run_fillSV (w := w) (G := G) (ρ := a.eval) parts.toList (opSv A' parts.toList) z.cells (.imm X0) (.agg Y) h2 (by simp [opSv]) (by simpa only [RepS] using xq X0 _ hz2) hb
  refine ⟨.agg cs', ?_, ⟨cs'.toList, h4, by simp [mkS, SV.isAgg]⟩⟩
  simp only [execOp, Instr.build, Sem.run_bind, yz hz1, Result.andThen_ok, zd hU, Sem.run_pure]
  rw [Array.mapM_eq_mapM_toList]
  simp only [Sem.run_map, run_places _ _ hpl, Result.andThen_ok]
  have e : (parts.map fun (p : Nat × Operand) => (p.1, a.eval p.2)).toList = parts.toList.map fun p => (p.1, a.eval p.2) := by simp
  simp only [e]
  have e2 : (fun (i : Nat) => (pl.toArray)[i]?) = (fun i => pl[i]?) := by funext i; simp
  simp only [e2, h3]
  rfl
theorem run_buildSlice1 {P : Program} {w : World} {T el : TypeId} {n : Nat} {z v : Value} (hT : P.underlying T = some (.slice el)) (hn : yP P el = some n) (hz : xz P el = some z) (hzn : z.cells.size = n) (h0 : 0 < n) (hb : n ≤ 16777216) (hv : v.cells.size = n) :
    (Instr.buildSlice T 1 #[(0, v)]).run P w = .ok (.slice (some ⟨w.heap.size, 0, none⟩) 1 1) (w.alloc (.cells v.cells el)) := by
  have hcs : ((Array.range (1 * n)).map (z.cells[· % z.cells.size]!)).size = n := by simp
  have hne : ¬ (1 * n = 0) := by omega
  simp only [Instr.buildSlice, Sem.run_bind, zd hT, Result.andThen_ok, yJ hn]
  rw [if_neg (by omega)]
  simp only [Sem.run_bind, Sem.run_pure, Result.andThen_ok, hne, if_false, yz hz]
  have e : v.cells.zipIdx.foldl (fun (cs : Array Value) (p : Value × Nat) => cs.setIfInBounds (0 * n + p.2) p.1) ((Array.range (1 * n)).map (z.cells[· % z.cells.size]!)) = v.cells := by
    rw [← Array.foldl_toList, Array.toList_zipIdx, fold_splice]
    apply Array.ext'
    rw [xI _ _ _ (by rw [hcs, Array.length_toList]; omega)]
    simp [hv]
  have hf : Instr.fill (fun i => some (i * n, n)) ((Array.range (1 * n)).map (z.cells[· % z.cells.size]!)) [(0, v)] = some v.cells := by
    simp only [Instr.fill]
    rw [if_neg (by rw [hv]; simp), e]
  simp only [hf]
  simp only [Sem.run_bind, newRow, run_newObj, Result.andThen_ok, Sem.run_pure]
  rfl
theorem s_buildOwn1 (g : Nat) {el : TypeId} {n : Nat} {X0 : AV} {Y : SV} (hgN : Nat.ble C.N g = true) (hgK : Nat.blt g C.K = true) (hN : Nat.blt d C.N = true) (hT : C.P.underlying T = some (.slice el)) (hn : yP C.P el = some n) (hz : yu C.P el X0) (hX : Nat.beq X0.width n = true)
    (h0 : Nat.blt 0 n = true) (hb : Nat.ble n 16777216 = true) (hy : opS A x = Y) (hs : Y.slotty = true) (hw : Nat.beq Y.width n = true) (hf : noG [g] Y = true) :
    zr C ⟨some d, .buildSlice T 1 #[(0, x)], ty, pos, af, gd⟩ (opR x) [g] A [(g, .box el Y), (d, .osl g 0 1 1)] := by
  intro A' a w hR hF ⟨G, S⟩
  have hN' : d < C.N := by simpa [Nat.blt_eq] using hN
  have hgd : g ≠ d := by have := Nat.le_of_ble_eq_true hgN; omega
  have hv : ValS w G Y (a.eval x) := slotty_val hs (S.opS ((ye hR).trans hy) (SV.slotty_res hs))
  obtain ⟨z, hz1, hz2⟩ := hz
  have hzl : z.cells.size = n := by
    have := RepC.len X0 _ (xq (w := w) (I := G.I) X0 _ hz2)
    rw [← Array.length_toList, this]; exact Nat.eq_of_beq_eq_true hX
  have hvc := hv.cells
  have hvl : (a.eval x).cells.size = n := by
    have := RepS.len _ _ hvc
    rw [← Array.length_toList, this]; exact Nat.eq_of_beq_eq_true hw
  have k1 := run_buildSlice1 (w := w) hT hn hz1 hzl (by simpa [Nat.blt_eq] using h0) (Nat.le_of_ble_eq_true hb) hvl
  have hb1 := S.allocBox (T := el) (cs := (a.eval x).cells) hgd (by simpa [Nat.blt_eq] using hgK) hN' hvc hf (fun k hk => hF k (by simpa only [has] using hk))
  obtain ⟨G1, S1⟩ := hb1
  have hgA : G1.blk g = w.heap.size := by
    have h1 := S1.holds d
    have e : upd A' [(g, .box el Y), (d, .ptr g 0)] d = .ptr g 0 := by simp only [upd]; rw [zO hgd]; simp
    rw [e] at h1
    obtain ⟨_, c, h2, h3⟩ := h1
    simp only [RepS] at h2
    rw [h2] at h3
    have e2 : (a.put (some d) (.pointer (some ⟨w.heap.size, 0, none⟩))).tmps.getD d Go.undef = .pointer (some ⟨w.heap.size, 0, none⟩) := by simp [Act.put, S.nts, hN']
    rw [e2] at h3
    simp only [mkS, SV.isAgg, Bool.false_eq_true, if_false, List.headD_cons, Value.pointer.injEq, Option.some.injEq, Addr.mk.injEq] at h3
    exact h3.1.symm
  unfold Oper.wp
  have hrun : (execOp a.eval ⟨some d, .buildSlice T 1 #[(0, x)], ty, pos, af, gd⟩).run C.P w = .ok (.value (.slice (some ⟨w.heap.size, 0, none⟩) 1 1)) (w.alloc (.cells (a.eval x).cells el)) := by
    simp only [execOp, Sem.run_bind]
    have e : (#[(0, x)] : Array (Nat × Operand)).map (fun (p : Nat × Operand) => (p.1, a.eval p.2)) = #[(0, a.eval x)] := by simp
    simp only [e, k1, Result.andThen_ok, Sem.run_pure]
  rw [hrun, Oper.upon_value]
  have S2 := S1.put (d := d) hN' (x := .osl g 0 1 1) (v := .slice (some ⟨w.heap.size, 0, none⟩) 1 1) ⟨[.slice (some ⟨w.heap.size, 0, none⟩) 1 1], by simp only [RepS, hgA], rfl⟩
  have hu : upd (upd A' [(g, .box el Y), (d, .ptr g 0)]) [(d, .osl g 0 1 1)] = upd A' [(g, .box el Y), (d, .osl g 0 1 1)] := by
    funext k
    simp only [upd]
    by_cases h1 : g = k
    · subst h1; rw [zO (Ne.symm hgd), Nat.beq_refl]; rfl
    · rw [zO h1]
      by_cases h2 : d = k
      · subst h2; rw [Nat.beq_refl]; rfl
      · rw [zO h2]; rfl
  rw [hu, Act.put_put] at S2
  exact ⟨G1, S2⟩
end
end Go.Al
