/- Texts that the proofs of this claim share, part 5: the abstract logic, plain Lean on values and batches, and walks. No condition but those typed in each lemma. -/
import Derived.Stop.Asserts
import Derived.Laws.Externs
import Derived.Test.YtiolofgnkkhjoaaDoorQ4
set_option linter.unusedSimpArgs false
set_option linter.unusedVariables false
set_option maxHeartbeats 400000
namespace Go.Proofs
open Go Go.Al
set_option maxRecDepth 10000
set_option maxHeartbeats 4000000 in
theorem eqdS_c (a b : List GSpan) (fn : FuncId) (hl : a.length ≤ 1000000000) (hf : ∀ x ∈ a, ∀ y : GSpan, zi Tryd.prog Γ0 fn ([] ++ [x.av, y.av] ++ []) [bv (decide (x = y))]) : zi Tryd.prog Γ0 117 [(.sl 42 (a.map GSpan.av)), (.sl 42 (b.map GSpan.av)), .fn (.func fn) [] []] [bv (decide (a = b))] := by
  refine zO Tryd.func117 rfl Tryd.ntmps117 (by kernel_rfl) rfl fun w0 I0 G0 => ?_
  refine zD <| zB <| g_u (zE rfl rfl) <| zG <| zA <| zD <| zD <| zB <| g_u (zC rfl rfl) <| g_u (yB rfl rfl Tryd.underlying44) <| g_u (zC rfl rfl) <| g_u (yB rfl rfl Tryd.underlying44) <| g_u (ws rfl rfl rfl) <| zG <| zA ?_
  refine zT rfl (fun hb1 => ?_) (fun hb1 => ?_)
  · have q : ¬ a.length = b.length := by have e := bne_iff_ne.1 hb1; simp only [List.length_map] at e; omega
    refine zD <| zB <| g_u (zE rfl rfl) <| zG <| zA <| zM <| zV ?_
    exact ⟨⟨(rfl : toAV (Al.look _ _) = some _).trans (congrArg some (by (exact congrArg bv (by first | exact (decide_eq_false (fun e => q (by rw [e]))).symm | exact (decide_eq_true (yt gs0 el (fun j hj => h2 j (by omega)))).symm)))), rfl⟩, trivial⟩
  · have el : a.length = b.length := by have e := qd.1 hb1; simp only [List.length_map] at e; omega
    refine za <| zA <| zD <| zD <| zB <| g_u (zC rfl rfl) <| g_u (yB rfl rfl Tryd.underlying44) <| g_u (zC rfl rfl) <| zG <| zA <| zQ ?_
    refine yA (fun i : Nat => [(1, .imm (.sl 42 (b.map GSpan.av))), (2, .imm (.fn (.func fn) [] [])), (15, .imm (.sl 42 (a.map GSpan.av))), (16, .imm (iv (a.length : Int))), (17, .imm (iv (i : Int)))]) (fun i => i ≤ a.length ∧ ∀ j, j < i → nth a j gs0 = nth b j gs0) (fun i => a.length - i) (0) ?_ ⟨rfl, rfl, rfl, zX rfl (by rw [List.length_map]), rfl, trivial⟩ ?_
    · exact ⟨Nat.zero_le _, fun j h => absurd h (Nat.not_lt_zero _)⟩
    · rintro i ⟨h1, h2⟩; (try dsimp only at h1 h2)
      refine zD <| zB <| g_u (xS rfl rfl rfl) <| zG <| zA <| zD ?_
      refine zT rfl (fun hb2 => ?_) (fun hb2 => ?_)
      · have hi : i < a.length := by have := of_decide_eq_true hb2; (try simp only [List.length_map] at this); omega
        have hib : i < b.length := by omega
        refine za <| zA <| zD <| zQ <| zD <| zB <| g_u (zC rfl rfl) ?_
        refine g_u (zf rfl rfl rfl Tryd.underlying44 tS36 (by omega) (ixS hi)) ?_
        refine g_u (zk rfl rfl tA36 tS36 rfl (by first | exact xn (GSpan.width _) rfl | rfl)) ?_
        refine g_uG (zg 1008 rfl rfl rfl tZ36) rfl <| g_u (zE rfl rfl) ?_
        refine g_u (zL rfl rfl rfl tS36 (by first | exact beqW (GSpan.width _) | rfl) (by first | exact wl (z36_w.trans (GSpan.width _).symm) rfl | rfl)) ?_
        refine zG <| zA <| zD <| zB <| g_u (zC rfl rfl) <| g_u (zC rfl rfl) ?_
        refine g_u (zf rfl rfl rfl Tryd.underlying44 tS36 (by omega) (ixS hib)) ?_
        refine g_u (zk rfl rfl tA36 tS36 rfl (by first | exact xn (GSpan.width _) rfl | rfl)) ?_
        refine g_uG (zg 1009 rfl rfl rfl tZ36) rfl ?_
        refine g_u (zL rfl rfl rfl tS36 (by first | exact beqW (GSpan.width _) | rfl) (by first | exact wl (z36_w.trans (GSpan.width _).symm) rfl | rfl)) ?_
        refine zG <| zA <| zD <| zB <| g_u (zC rfl rfl) ?_
        refine g_u (zH rfl rfl rfl tA36 tS36 rfl (by first | exact xn (GSpan.width _) rfl | rfl)) ?_
        refine g_u (zH rfl rfl rfl tA36 tS36 rfl (by first | exact xn (GSpan.width _) rfl | rfl)) ?_
        refine g_u (xF (hf _ (nthS_mem hi) _) rfl rfl rfl) <| g_u (wv rfl rfl) <| zG <| zA ?_
        refine zT rfl (fun hb3 => ?_) (fun hb3 => ?_)
        · have q : ¬ nthS a i = nthS b i := fun h => by have e := hb3; rw [decide_eq_true h] at e; cases e
          refine zD <| zB <| g_u (zE rfl rfl) <| zG <| zA <| zM <| z7 <| zV <| zV <| z7 <| zV ?_
          exact ⟨⟨(rfl : toAV (Al.look _ _) = some _).trans (congrArg some (by (exact congrArg bv (by first | exact (decide_eq_false (fun e => q (by rw [e]))).symm | exact (decide_eq_true (yt gs0 el (fun j hj => h2 j (by omega)))).symm)))), rfl⟩, trivial⟩
        · have ev : nthS a i = nthS b i := by have e := hb3; simpa using e
          refine za <| zU <| zA <| zB <| g_u (yZ rfl rfl rfl) <| g_u (zC rfl rfl) <| zG <| zA ?_
          refine ⟨i + 1, ⟨hi, fun j hj => by rcases Nat.lt_or_ge j i with h | h; exact h2 j h; rw [show j = i by omega]; exact ev⟩, ⟨rfl, rfl, rfl, rfl, zX rfl (by rw [zj (by omega) (by omega)]; rfl), trivial⟩, by (try dsimp only); omega⟩
      · have hin : i = a.length := by have := of_decide_eq_false hb2; (try simp only [List.length_map] at this); omega
        refine yM <| ze <| ze <| z8 <| zA <| zD <| zB <| g_u (zE rfl rfl) <| zG <| zA <| zM ?_
        exact ⟨⟨(rfl : toAV (Al.look _ _) = some _).trans (congrArg some (by (exact congrArg bv (by first | exact (decide_eq_false (fun e => q (by rw [e]))).symm | exact (decide_eq_true (yt gs0 el (fun j hj => h2 j (by omega)))).symm)))), rfl⟩, trivial⟩
set_option maxHeartbeats 4000000 in
theorem eqdC_c (a b : List GScope) (fn : FuncId) (hl : a.length ≤ 1000000000) (hf : ∀ x ∈ a, ∀ y : GScope, zi Tryd.prog Γ0 fn ([] ++ [x.av, y.av] ++ []) [bv (decide (x = y))]) : zi Tryd.prog Γ0 98 [(.sl 3 (a.map GScope.av)), (.sl 3 (b.map GScope.av)), .fn (.func fn) [] []] [bv (decide (a = b))] := by
  refine zO Tryd.func98 rfl Tryd.ntmps98 (by kernel_rfl) rfl fun w0 I0 G0 => ?_
  refine zD <| zB <| g_u (zE rfl rfl) <| zG <| zA <| zD <| zD <| zB <| g_u (zC rfl rfl) <| g_u (yB rfl rfl Tryd.underlying59) <| g_u (zC rfl rfl) <| g_u (yB rfl rfl Tryd.underlying59) <| g_u (ws rfl rfl rfl) <| zG <| zA ?_
  refine zT rfl (fun hb1 => ?_) (fun hb1 => ?_)
  · have q : ¬ a.length = b.length := by have e := bne_iff_ne.1 hb1; simp only [List.length_map] at e; omega
    refine zD <| zB <| g_u (zE rfl rfl) <| zG <| zA <| zM <| zV ?_
    exact ⟨⟨(rfl : toAV (Al.look _ _) = some _).trans (congrArg some (by (exact congrArg bv (by first | exact (decide_eq_false (fun e => q (by rw [e]))).symm | exact (decide_eq_true (yt gc0 el (fun j hj => h2 j (by omega)))).symm)))), rfl⟩, trivial⟩
  · have el : a.length = b.length := by have e := qd.1 hb1; simp only [List.length_map] at e; omega
    refine za <| zA <| zD <| zD <| zB <| g_u (zC rfl rfl) <| g_u (yB rfl rfl Tryd.underlying59) <| g_u (zC rfl rfl) <| zG <| zA <| zQ ?_
    refine yA (fun i : Nat => [(1, .imm (.sl 3 (b.map GScope.av))), (2, .imm (.fn (.func fn) [] [])), (15, .imm (.sl 3 (a.map GScope.av))), (16, .imm (iv (a.length : Int))), (17, .imm (iv (i : Int)))]) (fun i => i ≤ a.length ∧ ∀ j, j < i → nth a j gc0 = nth b j gc0) (fun i => a.length - i) (0) ?_ ⟨rfl, rfl, rfl, zX rfl (by rw [List.length_map]), rfl, trivial⟩ ?_
    · exact ⟨Nat.zero_le _, fun j h => absurd h (Nat.not_lt_zero _)⟩
    · rintro i ⟨h1, h2⟩; (try dsimp only at h1 h2)
      refine zD <| zB <| g_u (xS rfl rfl rfl) <| zG <| zA <| zD ?_
      refine zT rfl (fun hb2 => ?_) (fun hb2 => ?_)
      · have hi : i < a.length := by have := of_decide_eq_true hb2; (try simp only [List.length_map] at this); omega
        have hib : i < b.length := by omega
        refine za <| zA <| zD <| zQ <| zD <| zB <| g_u (zC rfl rfl) ?_
        refine g_u (zf rfl rfl rfl Tryd.underlying59 tS64 (by omega) (ixC hi)) ?_
        refine g_u (zk rfl rfl tA64 tS64 rfl rfl) <| g_uG (zg 1008 rfl rfl rfl tZ64) rfl <| g_u (zE rfl rfl) <| g_u (zL rfl rfl rfl tS64 rfl rfl) <| zG <| zA <| zD <| zB <| g_u (zC rfl rfl) <| g_u (zC rfl rfl) ?_
        refine g_u (zf rfl rfl rfl Tryd.underlying59 tS64 (by omega) (ixC hib)) ?_
        refine g_u (zk rfl rfl tA64 tS64 rfl rfl) <| g_uG (zg 1009 rfl rfl rfl tZ64) rfl <| g_u (zL rfl rfl rfl tS64 rfl rfl) <| zG <| zA <| zD <| zB <| g_u (zC rfl rfl) <| g_u (zn rfl rfl rfl tA64 tS64 rfl rfl) <| g_u (zn rfl rfl rfl tA64 tS64 rfl rfl) <| g_u (xF (hf _ (nthC_mem hi) _) rfl rfl rfl) <| g_u (wv rfl rfl) <| zG <| zA ?_
        refine zT rfl (fun hb3 => ?_) (fun hb3 => ?_)
        · have q : ¬ nthC a i = nthC b i := fun h => by have e := hb3; rw [decide_eq_true h] at e; cases e
          refine zD <| zB <| g_u (zE rfl rfl) <| zG <| zA <| zM <| z7 <| zV <| zV <| z7 <| zV ?_
          exact ⟨⟨(rfl : toAV (Al.look _ _) = some _).trans (congrArg some (by (exact congrArg bv (by first | exact (decide_eq_false (fun e => q (by rw [e]))).symm | exact (decide_eq_true (yt gc0 el (fun j hj => h2 j (by omega)))).symm)))), rfl⟩, trivial⟩
        · have ev : nthC a i = nthC b i := by have e := hb3; simpa using e
          refine za <| zU <| zA <| zB <| g_u (yZ rfl rfl rfl) <| g_u (zC rfl rfl) <| zG <| zA ?_
          refine ⟨i + 1, ⟨hi, fun j hj => by rcases Nat.lt_or_ge j i with h | h; exact h2 j h; rw [show j = i by omega]; exact ev⟩, ⟨rfl, rfl, rfl, rfl, zX rfl (by rw [zj (by omega) (by omega)]; rfl), trivial⟩, by (try dsimp only); omega⟩
      · have hin : i = a.length := by have := of_decide_eq_false hb2; (try simp only [List.length_map] at this); omega
        refine yM <| ze <| ze <| z8 <| zA <| zD <| zB <| g_u (zE rfl rfl) <| zG <| zA <| zM ?_
        exact ⟨⟨(rfl : toAV (Al.look _ _) = some _).trans (congrArg some (by (exact congrArg bv (by first | exact (decide_eq_false (fun e => q (by rw [e]))).symm | exact (decide_eq_true (yt gc0 el (fun j hj => h2 j (by omega)))).symm)))), rfl⟩, trivial⟩
set_option maxHeartbeats 4000000 in
theorem eqdR_c (a b : List GRes) (fn : FuncId) (hl : a.length ≤ 1000000000) (hf : ∀ x ∈ a, ∀ y : GRes, zi Tryd.prog Γ0 fn ([] ++ [x.av, y.av] ++ []) [bv (decide (x = y))]) : zi Tryd.prog Γ0 87 [(.sl 2 (a.map GRes.av)), (.sl 2 (b.map GRes.av)), .fn (.func fn) [] []] [bv (decide (a = b))] := by
  refine zO Tryd.func87 rfl Tryd.ntmps87 (by kernel_rfl) rfl fun w0 I0 G0 => ?_
  refine zD <| zB <| g_u (zE rfl rfl) <| zG <| zA <| zD <| zD <| zB <| g_u (zC rfl rfl) <| g_u (yB rfl rfl Tryd.underlying22) <| g_u (zC rfl rfl) <| g_u (yB rfl rfl Tryd.underlying22) <| g_u (ws rfl rfl rfl) <| zG <| zA ?_
  refine zT rfl (fun hb1 => ?_) (fun hb1 => ?_)
  · have q : ¬ a.length = b.length := by have e := bne_iff_ne.1 hb1; simp only [List.length_map] at e; omega
    refine zD <| zB <| g_u (zE rfl rfl) <| zG <| zA <| zM <| zV ?_
    exact ⟨⟨(rfl : toAV (Al.look _ _) = some _).trans (congrArg some (by (exact congrArg bv (by first | exact (decide_eq_false (fun e => q (by rw [e]))).symm | exact (decide_eq_true (yt gr0 el (fun j hj => h2 j (by omega)))).symm)))), rfl⟩, trivial⟩
  · have el : a.length = b.length := by have e := qd.1 hb1; simp only [List.length_map] at e; omega
    refine za <| zA <| zD <| zD <| zB <| g_u (zC rfl rfl) <| g_u (yB rfl rfl Tryd.underlying22) <| g_u (zC rfl rfl) <| zG <| zA <| zQ ?_
    refine yA (fun i : Nat => [(1, .imm (.sl 2 (b.map GRes.av))), (2, .imm (.fn (.func fn) [] [])), (15, .imm (.sl 2 (a.map GRes.av))), (16, .imm (iv (a.length : Int))), (17, .imm (iv (i : Int)))]) (fun i => i ≤ a.length ∧ ∀ j, j < i → nth a j gr0 = nth b j gr0) (fun i => a.length - i) (0) ?_ ⟨rfl, rfl, rfl, zX rfl (by rw [List.length_map]), rfl, trivial⟩ ?_
    · exact ⟨Nat.zero_le _, fun j h => absurd h (Nat.not_lt_zero _)⟩
    · rintro i ⟨h1, h2⟩; (try dsimp only at h1 h2)
      refine zD <| zB <| g_u (xS rfl rfl rfl) <| zG <| zA <| zD ?_
      refine zT rfl (fun hb2 => ?_) (fun hb2 => ?_)
      · have hi : i < a.length := by have := of_decide_eq_true hb2; (try simp only [List.length_map] at this); omega
        have hib : i < b.length := by omega
        refine za <| zA <| zD <| zQ <| zD <| zB <| g_u (zC rfl rfl) ?_
        refine g_u (zf rfl rfl rfl Tryd.underlying22 tS61 (by omega) (ixR hi)) ?_
        refine g_u (zk rfl rfl tA61 tS61 rfl rfl) <| g_uG (zg 1008 rfl rfl rfl tZ61) rfl <| g_u (zE rfl rfl) <| g_u (zL rfl rfl rfl tS61 rfl rfl) <| zG <| zA <| zD <| zB <| g_u (zC rfl rfl) <| g_u (zC rfl rfl) ?_
        refine g_u (zf rfl rfl rfl Tryd.underlying22 tS61 (by omega) (ixR hib)) ?_
        refine g_u (zk rfl rfl tA61 tS61 rfl rfl) <| g_uG (zg 1009 rfl rfl rfl tZ61) rfl <| g_u (zL rfl rfl rfl tS61 rfl rfl) <| zG <| zA <| zD <| zB <| g_u (zC rfl rfl) <| g_u (zn rfl rfl rfl tA61 tS61 rfl rfl) <| g_u (zn rfl rfl rfl tA61 tS61 rfl rfl) <| g_u (xF (hf _ (wu hi) _) rfl rfl rfl) <| g_u (wv rfl rfl) <| zG <| zA ?_
        refine zT rfl (fun hb3 => ?_) (fun hb3 => ?_)
        · have q : ¬ nthR a i = nthR b i := fun h => by have e := hb3; rw [decide_eq_true h] at e; cases e
          refine zD <| zB <| g_u (zE rfl rfl) <| zG <| zA <| zM <| z7 <| zV <| zV <| z7 <| zV ?_
          exact ⟨⟨(rfl : toAV (Al.look _ _) = some _).trans (congrArg some (by (exact congrArg bv (by first | exact (decide_eq_false (fun e => q (by rw [e]))).symm | exact (decide_eq_true (yt gr0 el (fun j hj => h2 j (by omega)))).symm)))), rfl⟩, trivial⟩
        · have ev : nthR a i = nthR b i := by have e := hb3; simpa using e
          refine za <| zU <| zA <| zB <| g_u (yZ rfl rfl rfl) <| g_u (zC rfl rfl) <| zG <| zA ?_
          refine ⟨i + 1, ⟨hi, fun j hj => by rcases Nat.lt_or_ge j i with h | h; exact h2 j h; rw [show j = i by omega]; exact ev⟩, ⟨rfl, rfl, rfl, rfl, zX rfl (by rw [zj (by omega) (by omega)]; rfl), trivial⟩, by (try dsimp only); omega⟩
      · have hin : i = a.length := by have := of_decide_eq_false hb2; (try simp only [List.length_map] at this); omega
        refine yM <| ze <| ze <| z8 <| zA <| zD <| zB <| g_u (zE rfl rfl) <| zG <| zA <| zM ?_
        exact ⟨⟨(rfl : toAV (Al.look _ _) = some _).trans (congrArg some (by (exact congrArg bv (by first | exact (decide_eq_false (fun e => q (by rw [e]))).symm | exact (decide_eq_true (yt gr0 el (fun j hj => h2 j (by omega)))).symm)))), rfl⟩, trivial⟩
set_option maxHeartbeats 4000000 in
theorem psameC_c (a b : GScope) (hw : a.wt ≤ 1000000000) : zi Tryd.prog Γ0 99 [a.av, b.av] [bv (decide (a = b))] := by
  have qw : a.wt = 1 + a.name.size + a.version.size + zv GSpan.wt a.spans := rfl
  have ql := ya GSpan.wt (fun e => by unfold GSpan.wt; omega) a.spans
  refine zO Tryd.func99 rfl Tryd.ntmps99 (by kernel_rfl) rfl fun w0 I0 G0 => ?_
  refine zD <| zB <| g_uG (zd 1002 rfl rfl rfl rfl) rfl <| g_uG (zd 1003 rfl rfl rfl rfl) rfl <| g_u (zE rfl rfl) <| zG <| zA <| zD <| zB <| g_u (zF rfl rfl fa64_0 rfl) <| g_u (zH rfl rfl rfl tA9 tS9 rfl rfl) <| g_u (zF rfl rfl fa64_0 rfl) <| g_u (zH rfl rfl rfl tA9 tS9 rfl rfl) <| g_u (s_eqS rfl rfl rfl) <| g_u (zC rfl rfl) <| yP (t := 10) rfl ?_
  rintro (hb1 | hb1)
  · rw [hb1]
    have f1 : a.name = b.name := by have e := hb1; rw [yY] at e; simpa using e
    refine zZ rfl rfl (zF rfl rfl fa64_1 rfl) <| zZ rfl rfl (zH rfl rfl rfl tA9 tS9 rfl rfl) <| zZ rfl rfl (zF rfl rfl fa64_1 rfl) <| zZ rfl rfl (zH rfl rfl rfl tA9 tS9 rfl rfl) <| zZ rfl rfl (s_eqS rfl rfl rfl) <| g_u (zR rfl rfl rfl) <| g_u (zC rfl rfl) <| yP (t := 17) rfl ?_
    rintro (hb2 | hb2)
    · rw [hb2]
      have f2 : a.version = b.version := by have e := hb2; rw [yY] at e; simpa using e
      refine zZ rfl rfl (zF rfl rfl fa64_2 rfl) <| zZ rfl rfl (zH rfl rfl rfl tA44 tS44 rfl rfl) <| zZ rfl rfl (zF rfl rfl fa64_2 rfl) <| zZ rfl rfl (zH rfl rfl rfl tA44 tS44 rfl rfl) ?_
      refine zZ rfl rfl (zS (eqdS_c a.spans b.spans 118 (by omega) (fun x hx y => psameS_c x y (by have h5 := yE GSpan.wt hx; omega))) rfl rfl) ?_
      refine g_u (zR rfl rfl rfl) <| g_u (zE rfl rfl) <| zG <| zA <| zM ?_
      exact ⟨⟨(rfl : toAV (Al.look _ _) = some _).trans (congrArg some (by (exact congrArg bv (by first | exact (decide_eq_false (fun e => q (by rw [e]))).symm | (rw [Bool.eq_iff_iff, decide_eq_true_iff, decide_eq_true_iff]; exact ⟨fun h => GScope.ext' f1 f2 h, fun h => by rw [h]⟩))))), rfl⟩, trivial⟩
    · rw [hb2]
      have q : ¬ a.version = b.version := by have e := hb2; rw [yY] at e; simpa using e
      refine zI rfl rfl rfl <| zI rfl rfl rfl <| zI rfl rfl rfl <| zI rfl rfl rfl <| zI rfl rfl rfl <| g_u (zp rfl rfl rfl) <| g_u (zE rfl rfl) <| zG <| zA <| zM ?_
      exact ⟨⟨(rfl : toAV (Al.look _ _) = some _).trans (congrArg some (by (exact congrArg bv (by first | exact (decide_eq_false (fun e => q (by rw [e]))).symm | (rw [Bool.eq_iff_iff, decide_eq_true_iff, decide_eq_true_iff]; exact ⟨fun h => GScope.ext' f1 f2 h, fun h => by rw [h]⟩))))), rfl⟩, trivial⟩
  · rw [hb1]
    have q : ¬ a.name = b.name := by have e := hb1; rw [yY] at e; simpa using e
    refine zI rfl rfl rfl <| zI rfl rfl rfl <| zI rfl rfl rfl <| zI rfl rfl rfl <| zI rfl rfl rfl <| g_u (zp rfl rfl rfl) <| g_u (zC rfl rfl) <| zI rfl rfl rfl <| zI rfl rfl rfl <| zI rfl rfl rfl <| zI rfl rfl rfl <| zI rfl rfl rfl <| g_u (zp rfl rfl rfl) <| g_u (zE rfl rfl) <| zG <| zA <| zM ?_
    exact ⟨⟨(rfl : toAV (Al.look _ _) = some _).trans (congrArg some (by (exact congrArg bv (by first | exact (decide_eq_false (fun e => q (by rw [e]))).symm | (rw [Bool.eq_iff_iff, decide_eq_true_iff, decide_eq_true_iff]; exact ⟨fun h => GScope.ext' f1 f2 h, fun h => by rw [h]⟩))))), rfl⟩, trivial⟩
set_option maxHeartbeats 4000000 in
theorem psameR_c (a b : GRes) (hw : a.wt ≤ 1000000000) : zi Tryd.prog Γ0 88 [a.av, b.av] [bv (decide (a = b))] := by
  have qw : a.wt = 1 + wtAs a.attrs + zv GScope.wt a.scopes := rfl
  have ql := ya GScope.wt (fun e => by unfold GScope.wt; omega) a.scopes
  refine zO Tryd.func88 rfl Tryd.ntmps88 (by kernel_rfl) rfl fun w0 I0 G0 => ?_
  refine zD <| zB <| g_uG (zd 1002 rfl rfl rfl rfl) rfl <| g_uG (zd 1003 rfl rfl rfl rfl) rfl <| g_u (zE rfl rfl) <| zG <| zA <| zD <| zB <| g_u (zF rfl rfl fa61_0 rfl) <| g_u (zH rfl rfl rfl tA30 tS30 rfl rfl) <| g_u (zF rfl rfl fa61_0 rfl) <| g_u (zH rfl rfl rfl tA30 tS30 rfl rfl) ?_
  refine g_u (zS (psameAs_c a.attrs b.attrs (by omega)) rfl rfl) ?_
  refine g_u (zC rfl rfl) <| yP (t := 10) rfl ?_
  rintro (hb1 | hb1)
  · rw [hb1]
    have f1 : a.attrs = b.attrs := (yN _ _).1 hb1
    refine zZ rfl rfl (zF rfl rfl fa61_1 rfl) <| zZ rfl rfl (zH rfl rfl rfl tA59 tS59 rfl rfl) <| zZ rfl rfl (zF rfl rfl fa61_1 rfl) <| zZ rfl rfl (zH rfl rfl rfl tA59 tS59 rfl rfl) ?_
    refine zZ rfl rfl (zS (eqdC_c a.scopes b.scopes 99 (by omega) (fun x hx y => psameC_c x y (by have h5 := yE GScope.wt hx; omega))) rfl rfl) ?_
    refine g_u (zR rfl rfl rfl) <| g_u (zE rfl rfl) <| zG <| zA <| zM ?_
    exact ⟨⟨(rfl : toAV (Al.look _ _) = some _).trans (congrArg some (by (exact congrArg bv (by first | exact (decide_eq_false (fun e => q (by rw [e]))).symm | (rw [Bool.eq_iff_iff, decide_eq_true_iff, decide_eq_true_iff]; exact ⟨fun h => GRes.ext' f1 h, fun h => by rw [h]⟩))))), rfl⟩, trivial⟩
  · rw [hb1]
    have q : ¬ a.attrs = b.attrs := fun h => by have e := hb1; rw [h, sameAs_refl] at e; cases e
    refine zI rfl rfl rfl <| zI rfl rfl rfl <| zI rfl rfl rfl <| zI rfl rfl rfl <| zI rfl rfl rfl <| g_u (zp rfl rfl rfl) <| g_u (zE rfl rfl) <| zG <| zA <| zM ?_
    exact ⟨⟨(rfl : toAV (Al.look _ _) = some _).trans (congrArg some (by (exact congrArg bv (by first | exact (decide_eq_false (fun e => q (by rw [e]))).symm | (rw [Bool.eq_iff_iff, decide_eq_true_iff, decide_eq_true_iff]; exact ⟨fun h => GRes.ext' f1 h, fun h => by rw [h]⟩))))), rfl⟩, trivial⟩
theorem psameB_c (a b : List GRes) (hw : wtB a ≤ 1000000000) : zi Tryd.prog Γ0 74 [yd a, yd b] [bv (decide (a = b))] := by
  have ql := ya GRes.wt (fun e => by unfold GRes.wt; omega) a
  have qw : wtB a = zv GRes.wt a := rfl
  refine zO Tryd.func74 rfl Tryd.ntmps74 (by kernel_rfl) rfl fun w0 I0 G0 => ?_
  refine zD <| zB <| g_uG (zd 1002 rfl rfl rfl rfl) rfl <| g_uG (zd 1003 rfl rfl rfl rfl) rfl <| g_u (zE rfl rfl) <| zG <| zA <| zD <| zB <| g_u (zF rfl rfl fa24_0 rfl) <| g_u (zH rfl rfl rfl tA22 tS22 rfl rfl) <| g_u (zF rfl rfl fa24_0 rfl) <| g_u (zH rfl rfl rfl tA22 tS22 rfl rfl) ?_
  refine g_u (zS (eqdR_c a b 88 (by omega) (fun x hx y => psameR_c x y (by have h5 := yE GRes.wt hx; omega))) rfl rfl) ?_
  refine g_u (zE rfl rfl) <| zG <| zA <| zM ?_
  exact ⟨⟨(rfl : toAV (Al.look _ _) = some _).trans (congrArg some (by rfl)), rfl⟩, trivial⟩
end Go.Proofs
namespace Go.Proofs
open Go Go.Al
set_option maxRecDepth 10000
end Go.Proofs
namespace Go.Proofs
open Go Go.Al
set_option maxRecDepth 10000
end Go.Proofs
namespace Go.Proofs
open Go Go.Al
set_option maxRecDepth 10000
end Go.Proofs
namespace Go.Proofs
open Go Go.Al
set_option maxRecDepth 10000
end Go.Proofs
namespace Go.Proofs
open Go Go.Al
end Go.Proofs
namespace Go.Proofs
open Go Go.Al
end Go.Proofs
namespace Go.Al
open Go.RowKit
section
variable {P : Program} {w : World} {p : Array (String × TypeId)}
end
section
variable {C : Cx} {A : Nat → SV} {d : Nat} {ty : TypeId} {pos : String} {af : Array Edge} {gd : Option (Nat × Bool)} {x y : Operand} {T T' : TypeId}
theorem SimG.ptr {C : Cx} {A : Nat → SV} {G : Gh} {a : Act} {w : World} (S : SimG C A G a w) {x : Operand} {g off : Nat} (h : Al.opS A x = .ptr g off) : a.eval x = .pointer (some ⟨G.blk g, off, none⟩) := by
  obtain ⟨c, h1, h2⟩ := S.opS h rfl
  simp only [RepS] at h1
  rw [h2, h1]; rfl
theorem SimG.ifp {C : Cx} {A : Nat → SV} {G : Gh} {a : Act} {w : World} (S : SimG C A G a w) {x : Operand} {T g off : Nat} (h : Al.opS A x = .ifp T g off) : a.eval x = .iface T (.pointer (some ⟨G.blk g, off, none⟩)) := by
  obtain ⟨c, h1, h2⟩ := S.opS h rfl
  simp only [RepS] at h1
  rw [h2, h1]; rfl
theorem yX {g off : Nat} (hN : Nat.blt d C.N = true) (hx : opS A x = .ptr g off) : zW C ⟨some d, .nilCheck x, ty, pos, af, gd⟩ (opR x) [] A [(d, .ptr g off)] := by
  refine zW.value rfl hN fun A' G a w hR S => ?_
  have hev := S.ptr ((zz hR).trans hx)
  refine ⟨a.eval x, by simp only [execOp, hev]; rfl, ?_⟩
  rw [hev]
  exact ⟨[.pointer (some ⟨G.blk g, off, none⟩)], by simp only [RepS], rfl⟩
end
end Go.Al
namespace Go.Al
open Go.RowKit
section
variable {C : Cx} {A : Nat → SV} {d : Nat} {ty : TypeId} {pos : String} {af : Array Edge} {gd : Option (Nat × Bool)} {x y : Operand} {T T' : TypeId} {h fl h2 fl2 : Value}
end
end Go.Al
namespace Go.Al
open Go.RowKit
section
variable {C : Cx} {A : Nat → SV} {ty : TypeId} {pos : String} {af : Array Edge} {gd : Option (Nat × Bool)} {x y : Operand} {T T' : TypeId}
end
end Go.Al
namespace Go.Proofs
open Go Go.Al
theorem ixStr {l : List ByteArray} {i : Nat} (h : i < l.length) : (l.map fun x => sv x)[((i : Nat) : Int).toNat]? = some (sv (nth l i ⟨#[]⟩)) := wY (d := (⟨#[]⟩ : ByteArray)) (f := fun x => sv x) h
end Go.Proofs
namespace Go.Proofs
open Go Go.Al
def allS (b : List GRes) : List GSpan := b.flatMap fun r => zh r.scopes
theorem plR_all : ∀ (i : Nat) (b : List GRes), (plR i b).length = (allS b).length
  | _, [] => rfl
  | i, r :: b => by rw [plR, allS, List.flatMap_cons, List.length_append, List.length_append, plC_len, plR_all (i + 1) b]; rfl
structure GCore where
  trace : Bs
  id : Bs
  parent : Bs
  name : ByteArray
  begun : Int
  lasts : Int
def GCore.av (c : GCore) : AV := .agg [.arr 16 c.trace, .arr 8 c.id, .arr 8 c.parent, sv c.name, iv c.begun, iv c.lasts]
theorem GCore.ext' {a b : GCore} (h1 : a.trace = b.trace) (h2 : a.id = b.id) (h3 : a.parent = b.parent) (h4 : a.name = b.name) (h5 : a.begun = b.begun) (h6 : a.lasts = b.lasts) : a = b := by cases a; cases b; simp_all
instance : DecidableEq GCore := fun a b => decidable_of_iff (a.trace = b.trace ∧ a.id = b.id ∧ a.parent = b.parent ∧ a.name = b.name ∧ a.begun = b.begun ∧ a.lasts = b.lasts) ⟨fun h => GCore.ext' h.1 h.2.1 h.2.2.1 h.2.2.2.1 h.2.2.2.2.1 h.2.2.2.2.2, fun h => by rw [h]; exact ⟨rfl, rfl, rfl, rfl, rfl, rfl⟩⟩
end Go.Proofs
namespace Go.Proofs
open Go Go.Al
def nZ : List Int := [0, 2, 3, 4, 5, 6, 7]
def kZ : List ByteArray := [k_error, k_code]
def keptZ (l : List GA) : List GA := xE kZ (l.map (yo nZ))
def nzE (e : GE) : GE := ⟨wholeN e.time, e.name, []⟩
def nzS (s : GSpan) : GSpan :=
  { s with state := ⟨#[]⟩, kind := if s.kind = 1 then 0 else s.kind, start := (wT ⟨s.start, s.fin⟩).lo, fin := (wT ⟨s.start, s.fin⟩).hi, attrs := keptZ s.attrs, events := s.events.map nzE, links := [], note := if s.code = 2 then s.note else ⟨#[]⟩ }
abbrev Gp := List (ByteArray × List GSpan)
def gput : Gp → ByteArray → GSpan → Gp
  | [], k, s => [(k, [s])]
  | (k', l) :: g, k, s => if k' = k then (k', l ++ [s]) :: g else (k', l) :: gput g k s
def grpF (g : Gp) (l : List (ByteArray × GSpan)) : Gp := l.foldl (fun g x => gput g x.1 x.2) g
def grp (l : List (ByteArray × GSpan)) : Gp := grpF [] l
def resG (x : ByteArray × List GSpan) : GRes := ⟨wC [] x.1, [⟨⟨#[]⟩, ⟨#[]⟩, x.2⟩]⟩
def groupM (l : List (ByteArray × GSpan)) : List GRes := (grp l).map resG
def yn (b : List GRes) : List (ByteArray × GSpan) := b.flatMap fun r => (zh r.scopes).map fun s => (yO r, nzS s)
def nzB (b : List GRes) : List GRes := groupM (yn b)
theorem grpF_append (g : Gp) (l m : List (ByteArray × GSpan)) : grpF g (l ++ m) = grpF (grpF g l) m := List.foldl_append ..
theorem grp_snoc (l : List (ByteArray × GSpan)) (k : ByteArray) (s : GSpan) : grp (l ++ [(k, s)]) = gput (grp l) k s := grpF_append _ _ _
instance decMemB (k : ByteArray) (l : List ByteArray) : Decidable (k ∈ l) := decidable_of_iff ((l.any fun x => decide (x = k)) = true) (by
  rw [List.any_eq_true]
  constructor
  · rintro ⟨x, hx, h⟩; exact of_decide_eq_true h ▸ hx
  · exact fun h => ⟨k, h, decide_eq_true rfl⟩)
def yq (g : Gp) : List ByteArray := g.map (·.1)
theorem keys_gput : ∀ (g : Gp) (k : ByteArray) (s : GSpan), yq (gput g k s) = if k ∈ yq g then yq g else yq g ++ [k]
  | [], k, s => by simp [gput, yq]
  | (k', l) :: g, k, s => by
    rw [gput]
    by_cases h : k' = k
    · rw [if_pos h]; simp [yq, h]
    · rw [if_neg h]
      have ih := keys_gput g k s
      unfold yq at ih ⊢
      rw [List.map_cons, List.map_cons, ih]
      have h2 : ¬ k = k' := fun e => h e.symm
      by_cases hk : k ∈ g.map (·.1)
      · rw [if_pos hk, if_pos (List.mem_cons_of_mem _ hk)]
      · rw [if_neg hk, if_neg (by intro hm; rcases List.mem_cons.1 hm with e | e; exact h2 e; exact hk e)]; rfl
theorem keys_one {k : ByteArray} : ∀ {l : List (ByteArray × GSpan)} (g : Gp), (∀ x ∈ l, x.1 = k) → yq (grpF g l) = if l = [] ∨ k ∈ yq g then yq g else yq g ++ [k]
  | [], g, _ => by simp [grpF]
  | x :: l, g, h => by
    have hx := h x List.mem_cons_self
    have ih := keys_one (k := k) (l := l) (gput g x.1 x.2) fun y hy => h y (List.mem_cons_of_mem _ hy)
    show yq (grpF (gput g x.1 x.2) l) = _
    rw [ih, keys_gput, hx]
    by_cases hk : k ∈ yq g
    · rw [if_pos hk, if_pos (.inr hk), if_pos (.inr hk)]
    · rw [if_neg hk, if_pos (.inr (by simp)), if_neg (by rintro (e | e); cases e; exact hk e)]
theorem gput_perm : ∀ (g : Gp) (k : ByteArray) (s : GSpan), ((gput g k s).flatMap (·.2)).Perm (g.flatMap (·.2) ++ [s])
  | [], k, s => by simp [gput]
  | (k', l) :: g, k, s => by
    rw [gput]
    split
    · rw [List.flatMap_cons, List.flatMap_cons, List.append_assoc, List.append_assoc]
      exact List.Perm.append_left l List.perm_append_comm
    · rw [List.flatMap_cons, List.flatMap_cons, List.append_assoc]
      exact List.Perm.append_left l (gput_perm g k s)
theorem grpF_perm : ∀ (l : List (ByteArray × GSpan)) (g : Gp), ((grpF g l).flatMap (·.2)).Perm (g.flatMap (·.2) ++ l.map (·.2))
  | [], g => by simp [grpF]
  | x :: l, g => by
    refine (grpF_perm l (gput g x.1 x.2)).trans ?_
    rw [List.map_cons]
    have h := (gput_perm g x.1 x.2).append_right (l.map (·.2))
    rwa [List.append_assoc] at h
theorem grp_perm (l : List (ByteArray × GSpan)) : ((grp l).flatMap (·.2)).Perm (l.map (·.2)) := grpF_perm l []
theorem rowsZ_spans (b : List GRes) : (yn b).map (·.2) = (allS b).map nzS := by
  unfold yn allS
  rw [List.map_flatMap, List.map_flatMap]
  refine congrArg (fun f => List.flatMap f b) (funext fun r => ?_)
  rw [List.map_map]; rfl
theorem rows_one (r : GRes) : ∀ x ∈ (zh r.scopes).map (fun s => (yO r, nzS s)), x.1 = yO r := fun x hx => by
  obtain ⟨s, _, rfl⟩ := List.mem_map.1 hx; rfl
theorem keysMem : ∀ (l : List (ByteArray × GSpan)) (g : Gp) (k : ByteArray), k ∈ yq (grpF g l) → k ∈ yq g ∨ ∃ x ∈ l, x.1 = k
  | [], g, k, h => .inl h
  | x :: l, g, k, h => by
    rcases keysMem l _ k h with h | ⟨y, hy, e⟩
    · rw [keys_gput] at h
      split at h
      · exact .inl h
      · rcases List.mem_append.1 h with h | h
        · exact .inl h
        · exact .inr ⟨x, List.mem_cons_self, (List.mem_singleton.1 h).symm⟩
    · exact .inr ⟨y, List.mem_cons_of_mem _ hy, e⟩
theorem rowsZ_mem {b : List GRes} {x : ByteArray × GSpan} (h : x ∈ yn b) : ∃ r ∈ b, x.1 = yO r ∧ ∃ c ∈ r.scopes, ∃ s ∈ c.spans, x.2 = nzS s := by
  obtain ⟨r, hr, hx⟩ := List.mem_flatMap.1 h
  obtain ⟨s, hs, rfl⟩ := List.mem_map.1 hx
  obtain ⟨c, hc, hs⟩ := spansOf_mem hs
  exact ⟨r, hr, rfl, c, hc, s, hs, rfl⟩
end Go.Proofs
namespace Go.Proofs
open Go Go.Al
def rq0 : ByteArray × GSpan := (⟨#[]⟩, gs0)
def nthQ (l : List (ByteArray × GSpan)) (i : Nat) : ByteArray × GSpan := nth l i rq0
end Go.Proofs
namespace Go.Proofs
open Go Go.Al
section
variable {s : GScope} {ab : List ByteArray} {i : Nat}
end
section
variable {r : GRes} {a : ByteArray} {i : Nat}
end
section
variable {b : List GRes} {i : Nat}
end
end Go.Proofs
namespace Go.Proofs
open Go Go.Al
set_option maxRecDepth 10000
theorem zst_c (c : Int) (n : ByteArray) : zi Tryd.prog Γ0 24 [.agg [iv c, sv n]] [.agg [iv c, sv (if c = 2 then n else ⟨#[]⟩)]] := by
  refine zO Tryd.func24 rfl Tryd.ntmps24 (by kernel_rfl) rfl fun w0 I0 G0 => ?_
  refine zD <| zB <| g_uG (zd 1001 rfl rfl rfl rfl) rfl <| g_uG (zg 1002 rfl rfl rfl tZ34) rfl <| zG <| zA <| zD <| zD <| zB <| g_u (zF rfl rfl fa34_0 rfl) <| g_u (zH rfl rfl rfl tA3 tS3 rfl rfl) <| g_u (ws rfl rfl rfl) <| zG <| zA ?_
  refine zT rfl (fun hb1 => ?_) (fun hb1 => ?_)
  · have q : ¬ c = 2 := bne_iff_ne.1 hb1
    refine zB <| g_u (zF rfl rfl fa34_1 rfl) <| g_u (zL rfl rfl rfl tS9 rfl rfl) <| zG <| zA <| zD <| zB <| g_u (zn rfl rfl rfl tA34 tS34 rfl rfl) <| g_u (zL rfl rfl rfl tS34 rfl rfl) <| zG <| zA <| zM ?_
    exact ⟨⟨_, _, _, _, _, _, _, rfl, rfl, tA34, tS34, rfl, rfl, (rfl : toAV _ = some _).trans (congrArg some (by (first | (rw [if_neg q]; done) | (rw [if_neg q]; rfl))))⟩, trivial⟩
  · have q : c = 2 := qd.1 hb1
    refine za <| zA <| zD <| zB <| g_u (zH rfl rfl rfl tA34 tS34 rfl rfl) <| g_u (zL rfl rfl rfl tS34 rfl rfl) <| zG <| zA <| zM ?_
    exact ⟨⟨_, _, _, _, _, _, _, rfl, rfl, tA34, tS34, rfl, rfl, (rfl : toAV _ = some _).trans (congrArg some (by (rw [if_pos q])))⟩, trivial⟩
theorem wholeZ_c (n : Int) : zi Tryd.prog Γ0 34 [uv n] [uv (wholeN n)] := by
  refine zO Tryd.func34 rfl Tryd.ntmps34 (by kernel_rfl) rfl fun w0 I0 G0 => ?_
  refine zD <| zB <| g_u (zE rfl rfl) <| zG <| zA <| zD <| zB <| g_u (zC rfl rfl) <| g_u (zS (micro_c _) rfl rfl) <| g_u (wA (nano_c _) rfl rfl) <| g_u (xN rfl rfl) <| g_u (zP rfl rfl rfl rfl) <| g_u (zP rfl rfl rfl rfl) <| g_u (zE rfl rfl) <| g_u (zE rfl rfl) <| zG <| zA <| zD <| zB <| g_u (zC rfl rfl) <| g_u (zE rfl rfl) <| zG <| zA <| zM ?_
  exact ⟨⟨(rfl : toAV (Al.look _ _) = some _).trans (congrArg some (by rfl)), rfl⟩, trivial⟩
set_option maxHeartbeats 8000000 in
theorem nzS_c (s : GSpan) (ho : s.ok) (hw : s.wt ≤ 9000000) : zi Tryd.prog Γ0 16 [s.av] [(nzS s).av] := by
  have qw : s.wt = 1 + s.state.size + s.name.size + s.note.size + wtAs s.attrs + zv GE.wt s.events + zv GL.wt s.links := rfl
  have ql := ya GE.wt (fun e => by unfold GE.wt; omega) s.events
  have hl := yj s.attrs
  have hd : ∀ a ∈ xE kZ s.attrs, a.ok := fun a h => ho.2.2.2.1 a (x5 h).1
  have hwd := dropA_wt kZ s.attrs
  refine zO Tryd.func16 rfl Tryd.ntmps16 (by kernel_rfl) rfl fun w0 I0 G0 => ?_
  refine zD <| zB <| g_uG (zd 1001 rfl rfl rfl rfl) rfl <| g_uG (zg 1002 rfl rfl rfl tZ36) rfl <| zG <| zA <| zD <| zB <| g_u (zF rfl rfl fa36_6 rfl) <| g_u (zH rfl rfl rfl tA29 tS29 rfl rfl) <| g_u (zF rfl rfl fa36_7 rfl) <| g_u (zH rfl rfl rfl tA29 tS29 rfl rfl) <| g_u (yh rfl tU81 us81 pl81 rfl rfl rfl rfl) <| g_u (zS (whole_c ⟨_, _⟩) rfl rfl) <| g_uG (zg 1003 rfl rfl rfl tZ81) rfl <| g_u (zL rfl rfl rfl tS81 rfl rfl) <| zG <| zA <| zD <| y3 wn <| g_u (zF rfl rfl fa36_0 rfl) <| g_u (zH rfl rfl rfl tA26 tS26 rfl rfl) <| g_u (zF rfl rfl fa36_1 rfl) <| g_u (zH rfl rfl rfl tA28 tS28 rfl rfl) <| g_u (zF rfl rfl fa36_2 rfl) <| g_u (zH rfl rfl rfl tA28 tS28 rfl rfl) <| g_u (zF rfl rfl fa36_4 rfl) <| g_u (zH rfl rfl rfl tA9 tS9 rfl rfl) <| g_u (zF rfl rfl fa36_5 rfl) <| g_u (zH rfl rfl rfl tA3 tS3 rfl rfl) <| g_u (zF rfl rfl fa81_0 rfl) <| g_u (zH rfl rfl rfl tA29 tS29 rfl rfl) <| g_u (zF rfl rfl fa81_1 rfl) <| g_u (zH rfl rfl rfl tA29 tS29 rfl rfl) <| g_u (zF rfl rfl fa36_11 rfl) <| g_u (zH rfl rfl rfl tA34 tS34 rfl rfl) <| g_u (zS (zst_c _ _) rfl rfl) <| g_u (yh rfl tZ36 us36 pl36 rfl rfl rfl rfl) <| g_uG (zg 1004 rfl rfl rfl tZ36) rfl ?_
  refine g_u (zL rfl rfl rfl tS36 (by first | exact beqW (GSpan.width _) | rfl) (by first | exact wl (z36_w.trans (GSpan.width _).symm) rfl | rfl)) ?_
  refine zG ⟨by kernel_rfl, ?_⟩
  refine zA <| zD <| zD <| zB <| g_u (zF rfl rfl fa36_5 rfl) <| g_u (zH rfl rfl rfl tA3 tS3 rfl rfl) <| g_u (xx rfl rfl rfl) <| zG <| zA ?_
  refine zT rfl (fun hb1 => ?_) (fun hb1 => ?_)
  · have hk : (if s.kind = 1 then 0 else s.kind) = 0 := if_pos (beq_iff_eq.1 hb1)
    refine zB <| g_u (zF rfl rfl fa36_5 rfl) <| g_u (zL rfl rfl rfl tS3 rfl rfl) <| zG <| zA <| zD <| zB <| g_u (zF rfl rfl fa36_8 rfl) <| g_u (zH rfl rfl rfl tA30 tS30 rfl rfl) <| g_u (z_ (X0 := z5) rfl Tryd.underlying90 tS5 tZ5 rfl rfl rfl rfl rfl rfl rfl rfl) ?_
    refine g_u (zS (plainAs_c s.attrs nZ ho.2.2.2.1 (by omega) (by decide)) rfl rfl) ?_
    refine g_u (zE rfl rfl) <| zG <| zA <| zD <| zB <| g_u (zC rfl rfl) <| g_u (z_ (X0 := z9) rfl Tryd.underlying37 tS9 tZ9 rfl rfl rfl rfl rfl rfl rfl rfl) ?_
    refine g_u (zS (drop_c (s.attrs.map (yo nZ)) kZ (by rw [List.length_map]; omega) (by decide)) rfl rfl) ?_
    refine g_u (zF rfl rfl fa36_8 rfl) <| g_u (zL rfl rfl rfl tS30 rfl rfl) <| zG <| zA <| zD <| zD <| xf 3009 1004 3 38 rfl rfl rfl rfl rfl rfl rfl <| xf 3010 1004 26 39 rfl rfl rfl rfl rfl rfl rfl <| zB <| g_u (zF rfl rfl fa36_9 rfl) <| g_u (zH rfl rfl rfl tA31 tS31 rfl rfl) <| g_u (yB rfl rfl Tryd.underlying31) <| g_u (zC rfl rfl) <| zG <| zA <| zQ ?_
    refine yA (fun i : Nat => [(1, .ptr 1001 0), (1001, .box 36 (.imm s.av)), (2, .ptr 1002 0), (1002, .box 36 (.imm z36)), (4, .ptr 1004 0), (1004, .box 36 (.agg [.imm (.arr 16 s.trace), .imm (.arr 8 s.id), .imm (.arr 8 s.parent), .imm (sv ⟨#[]⟩), .imm (sv s.name), .imm (iv (if s.kind = 1 then 0 else s.kind)), .imm (uv (wT ⟨s.start, s.fin⟩).lo), .imm (uv (wT ⟨s.start, s.fin⟩).hi), .imm (.sl 7 ((keptZ s.attrs).map avA)), .slg 3009 3 ((s.events.take i).map fun e => (nzE e).av), .slg 3010 26 [], .imm (.agg [iv s.code, sv (if s.code = 2 then s.note else ⟨#[]⟩)])])), (3009, .tok 3 ((s.events.take i).map fun e => (nzE e).av)), (3010, .tok 26 []), (45, .imm (.sl 3 (s.events.map GE.av))), (46, .imm (iv (s.events.length : Int))), (47, .imm (iv (i : Int)))]) (fun i => i ≤ s.events.length) (fun i => s.events.length - i) (0) ?_ ⟨rfl, rfl, rfl, rfl, rfl, (by rw [hk]; first | rfl | (unfold keptZ; rw [drop_plain]; rfl)), rfl, rfl, rfl, zX rfl (by rw [List.length_map]), rfl, trivial⟩ ?_
    · exact Nat.zero_le _
    · rintro i h1; have h1 : i ≤ s.events.length := h1
      refine zD <| zB <| g_u (xS rfl rfl rfl) <| zG <| zA <| zD ?_
      refine zT rfl (fun hb2 => ?_) (fun hb2 => ?_)
      · have hi : i < s.events.length := by have := of_decide_eq_true hb2; (try simp only [List.length_map] at this); omega
        have hex := yE GE.wt (nthE_mem hi)
        have heq : (nthE s.events i).wt = 1 + (nthE s.events i).name.size + wtAs (nthE s.events i).attrs := rfl
        have heo := ho.2.2.2.2.1 _ (nthE_mem hi)
        refine za <| zA <| zD <| zQ <| zD <| zB ?_
        refine g_u (zf rfl rfl rfl Tryd.underlying31 tS66 (by omega) (ixE hi)) ?_
        refine g_u (zk rfl rfl tA66 tS66 rfl rfl) <| g_uG (zg 1007 rfl rfl rfl tZ66) rfl <| g_u (zL rfl rfl rfl tS66 rfl rfl) <| zG <| zA <| y3 wn <| g_u (zF rfl rfl fa36_9 rfl) <| g_u (yy rfl rfl rfl tA31 tS31 rfl rfl) <| g_u (zF rfl rfl fa66_0 rfl) <| g_u (zH rfl rfl rfl tA29 tS29 rfl rfl) <| g_u (zS (wholeZ_c _) rfl rfl) <| g_u (zF rfl rfl fa66_1 rfl) <| g_u (zH rfl rfl rfl tA9 tS9 rfl rfl) <| g_u (yh rfl tU66 us66 pl66 rfl rfl rfl rfl) <| g_u (z_ (X0 := z66) rfl Tryd.underlying31 tS66 tZ66 rfl rfl rfl rfl rfl rfl rfl rfl) ?_
        refine g_u (yH rfl rfl rfl rfl rfl Tryd.underlying31 Tryd.underlying31 tS66 zv66 rfl (by decide) by66 (by (try dsimp only); simp only [List.length_append, List.length_cons, List.length_nil, List.length_map, List.length_take, List.length_drop]; omega) (by (try dsimp only); simp only [List.length_append, List.length_cons, List.length_nil, List.length_map, List.length_take, List.length_drop]; omega)) ?_
        refine g_u (zF rfl rfl fa36_9 rfl) <| g_u (wZ rfl rfl rfl rfl tS31 rfl rfl) ?_
        refine zG ⟨by kernel_rfl, ?_⟩
        refine zU <| zA <| zB <| g_u (yZ rfl rfl rfl) <| g_u (zC rfl rfl) <| zG <| zA ?_
        have et : ((s.events.take (i + 1)).map fun e => (nzE e).av) = ((s.events.take i).map fun e => (nzE e).av) ++ [(nzE (nthE s.events i)).av] := by rw [yG (yr (d := ge0) hi), List.map_append]; rfl
        refine ⟨i + 1, hi, ⟨rfl, rfl, rfl, rfl, rfl, (by rw [et]; rfl), yD rfl et.symm, rfl, rfl, rfl, zX rfl (by rw [zj (by omega) (by omega)]; rfl), trivial⟩, by (try dsimp only); omega⟩
      · have hin : i = s.events.length := by have := of_decide_eq_false hb2; (try simp only [List.length_map] at this); omega
        refine yM <| ze <| ze <| z8 <| zA <| zD <| zB <| g_u (zn rfl rfl rfl tA36 tS36 rfl rfl) ?_
        refine g_u (zL rfl rfl rfl tS36 (by first | exact beqW (GSpan.width _) | rfl) (by first | exact wl (z36_w.trans (GSpan.width _).symm) rfl | rfl)) ?_
        refine zG <| zA <| zM ?_
        exact ⟨⟨_, _, _, _, _, _, _, rfl, rfl, tA36, tS36, rfl, rfl, (rfl : toAV _ = some _).trans (congrArg some (by (rw [hin, List.take_length]; show _ = GSpan.av (nzS s); simp only [GSpan.av, nzS, List.map_map]; rfl)))⟩, trivial⟩
  · have hk : (if s.kind = 1 then 0 else s.kind) = s.kind := if_neg (qe.1 hb1)
    refine za <| zA <| zD <| zB <| g_u (zF rfl rfl fa36_8 rfl) <| g_u (zH rfl rfl rfl tA30 tS30 rfl rfl) <| g_u (z_ (X0 := z5) rfl Tryd.underlying90 tS5 tZ5 rfl rfl rfl rfl rfl rfl rfl rfl) ?_
    refine g_u (zS (plainAs_c s.attrs nZ ho.2.2.2.1 (by omega) (by decide)) rfl rfl) ?_
    refine g_u (zE rfl rfl) <| zG <| zA <| zD <| zB <| g_u (zC rfl rfl) <| g_u (z_ (X0 := z9) rfl Tryd.underlying37 tS9 tZ9 rfl rfl rfl rfl rfl rfl rfl rfl) ?_
    refine g_u (zS (drop_c (s.attrs.map (yo nZ)) kZ (by rw [List.length_map]; omega) (by decide)) rfl rfl) ?_
    refine g_u (zF rfl rfl fa36_8 rfl) <| g_u (zL rfl rfl rfl tS30 rfl rfl) <| zG <| zA <| zD <| zD <| xf 3009 1004 3 38 rfl rfl rfl rfl rfl rfl rfl <| xf 3010 1004 26 39 rfl rfl rfl rfl rfl rfl rfl <| zB <| g_u (zF rfl rfl fa36_9 rfl) <| g_u (zH rfl rfl rfl tA31 tS31 rfl rfl) <| g_u (yB rfl rfl Tryd.underlying31) <| g_u (zC rfl rfl) <| zG <| zA <| zQ ?_
    refine yA (fun i : Nat => [(1, .ptr 1001 0), (1001, .box 36 (.imm s.av)), (2, .ptr 1002 0), (1002, .box 36 (.imm z36)), (4, .ptr 1004 0), (1004, .box 36 (.agg [.imm (.arr 16 s.trace), .imm (.arr 8 s.id), .imm (.arr 8 s.parent), .imm (sv ⟨#[]⟩), .imm (sv s.name), .imm (iv (if s.kind = 1 then 0 else s.kind)), .imm (uv (wT ⟨s.start, s.fin⟩).lo), .imm (uv (wT ⟨s.start, s.fin⟩).hi), .imm (.sl 7 ((keptZ s.attrs).map avA)), .slg 3009 3 ((s.events.take i).map fun e => (nzE e).av), .slg 3010 26 [], .imm (.agg [iv s.code, sv (if s.code = 2 then s.note else ⟨#[]⟩)])])), (3009, .tok 3 ((s.events.take i).map fun e => (nzE e).av)), (3010, .tok 26 []), (45, .imm (.sl 3 (s.events.map GE.av))), (46, .imm (iv (s.events.length : Int))), (47, .imm (iv (i : Int)))]) (fun i => i ≤ s.events.length) (fun i => s.events.length - i) (0) ?_ ⟨rfl, rfl, rfl, rfl, rfl, (by rw [hk]; first | rfl | (unfold keptZ; rw [drop_plain]; rfl)), rfl, rfl, rfl, zX rfl (by rw [List.length_map]), rfl, trivial⟩ ?_
    · exact Nat.zero_le _
    · rintro i h1; have h1 : i ≤ s.events.length := h1
      refine zD <| zB <| g_u (xS rfl rfl rfl) <| zG <| zA <| zD ?_
      refine zT rfl (fun hb3 => ?_) (fun hb3 => ?_)
      · have hi : i < s.events.length := by have := of_decide_eq_true hb3; (try simp only [List.length_map] at this); omega
        have hex := yE GE.wt (nthE_mem hi)
        have heq : (nthE s.events i).wt = 1 + (nthE s.events i).name.size + wtAs (nthE s.events i).attrs := rfl
        have heo := ho.2.2.2.2.1 _ (nthE_mem hi)
        refine za <| zA <| zD <| zQ <| zD <| zB ?_
        refine g_u (zf rfl rfl rfl Tryd.underlying31 tS66 (by omega) (ixE hi)) ?_
        refine g_u (zk rfl rfl tA66 tS66 rfl rfl) <| g_uG (zg 1007 rfl rfl rfl tZ66) rfl <| g_u (zL rfl rfl rfl tS66 rfl rfl) <| zG <| zA <| y3 wn <| g_u (zF rfl rfl fa36_9 rfl) <| g_u (yy rfl rfl rfl tA31 tS31 rfl rfl) <| g_u (zF rfl rfl fa66_0 rfl) <| g_u (zH rfl rfl rfl tA29 tS29 rfl rfl) <| g_u (zS (wholeZ_c _) rfl rfl) <| g_u (zF rfl rfl fa66_1 rfl) <| g_u (zH rfl rfl rfl tA9 tS9 rfl rfl) <| g_u (yh rfl tU66 us66 pl66 rfl rfl rfl rfl) <| g_u (z_ (X0 := z66) rfl Tryd.underlying31 tS66 tZ66 rfl rfl rfl rfl rfl rfl rfl rfl) ?_
        refine g_u (yH rfl rfl rfl rfl rfl Tryd.underlying31 Tryd.underlying31 tS66 zv66 rfl (by decide) by66 (by (try dsimp only); simp only [List.length_append, List.length_cons, List.length_nil, List.length_map, List.length_take, List.length_drop]; omega) (by (try dsimp only); simp only [List.length_append, List.length_cons, List.length_nil, List.length_map, List.length_take, List.length_drop]; omega)) ?_
        refine g_u (zF rfl rfl fa36_9 rfl) <| g_u (wZ rfl rfl rfl rfl tS31 rfl rfl) ?_
        refine zG ⟨by kernel_rfl, ?_⟩
        refine zU <| zA <| zB <| g_u (yZ rfl rfl rfl) <| g_u (zC rfl rfl) <| zG <| zA ?_
        have et : ((s.events.take (i + 1)).map fun e => (nzE e).av) = ((s.events.take i).map fun e => (nzE e).av) ++ [(nzE (nthE s.events i)).av] := by rw [yG (yr (d := ge0) hi), List.map_append]; rfl
        refine ⟨i + 1, hi, ⟨rfl, rfl, rfl, rfl, rfl, (by rw [et]; rfl), yD rfl et.symm, rfl, rfl, rfl, zX rfl (by rw [zj (by omega) (by omega)]; rfl), trivial⟩, by (try dsimp only); omega⟩
      · have hin : i = s.events.length := by have := of_decide_eq_false hb3; (try simp only [List.length_map] at this); omega
        refine yM <| ze <| ze <| z8 <| zA <| zD <| zB <| g_u (zn rfl rfl rfl tA36 tS36 rfl rfl) ?_
        refine g_u (zL rfl rfl rfl tS36 (by first | exact beqW (GSpan.width _) | rfl) (by first | exact wl (z36_w.trans (GSpan.width _).symm) rfl | rfl)) ?_
        refine zG <| zA <| zM ?_
        exact ⟨⟨_, _, _, _, _, _, _, rfl, rfl, tA36, tS36, rfl, rfl, (rfl : toAV _ = some _).trans (congrArg some (by (rw [hin, List.take_length]; show _ = GSpan.av (nzS s); simp only [GSpan.av, nzS, List.map_map]; rfl)))⟩, trivial⟩
end Go.Proofs
namespace Go.Proofs
open Go Go.Al
theorem zip_len (ks : List ByteArray) (ss : List GSpan) : (ks.zip ss).length = min ks.length ss.length := List.length_zip
theorem zip_nth {ks : List ByteArray} {ss : List GSpan} {i : Nat} (h : i < (ks.zip ss).length) : nthQ (ks.zip ss) i = (nth ks i ⟨#[]⟩, nth ss i gs0) := by
  have h1 := yr (d := rq0) h
  have hl := zip_len ks ss
  have h2 := yr (d := (⟨#[]⟩ : ByteArray)) (show i < ks.length by omega)
  have h3 := yr (d := gs0) (show i < ss.length by omega)
  rw [List.getElem?_zip_eq_some] at h1
  rw [h2, h3] at h1
  exact Prod.ext (Option.some.inj h1.1).symm (Option.some.inj h1.2).symm
end Go.Proofs
namespace Go.Proofs
open Go Go.Al
set_option maxRecDepth 10000
end Go.Proofs
namespace Go.Proofs
open Go Go.Al
theorem zip_fs {α β : Type} : ∀ l : List (α × β), (l.map (·.1)).zip (l.map (·.2)) = l
  | [] => rfl
  | x :: l => by rw [List.map_cons, List.map_cons, List.zip_cons_cons, zip_fs l]
def yw (r : GRes) (l : List GSpan) : List (ByteArray × GSpan) := l.map fun s => (yO r, nzS s)
theorem rowsZ_take {b : List GRes} {i : Nat} (h : i < b.length) : yn (b.take (i + 1)) = yn (b.take i) ++ yw (nthR b i) (zh (nthR b i).scopes) := by
  rw [yG (yr (d := gr0) h)]
  unfold yn
  rw [List.flatMap_append]
  congr 1
  show [nthR b i].flatMap _ = _
  rw [List.flatMap_cons]; simp [yw]
theorem rowsF_app (r : GRes) (a b : List GSpan) : yw r (a ++ b) = yw r a ++ yw r b := List.map_append ..
theorem rowsZ_len (b : List GRes) : (yn b).length = (allS b).length := by
  have := congrArg List.length (rowsZ_spans b)
  rwa [List.length_map, List.length_map] at this
theorem rowsZ_part {b : List GRes} {i k m : Nat} (hi : i < b.length) (hk : k < (nthR b i).scopes.length) (hm : m < (nthC (nthR b i).scopes k).spans.length) : (yn (b.take i) ++ yw (nthR b i) (zh ((nthR b i).scopes.take k)) ++ yw (nthR b i) ((nthC (nthR b i).scopes k).spans.take m)).length + 1 ≤ (yn b).length := by
  have e0 : yn b = yn (b.take (i + 1)) ++ yn (b.drop (i + 1)) := by
    conv => lhs; rw [← List.take_append_drop (i + 1) b]
    unfold yn; rw [List.flatMap_append]
  have e1 : zh (nthR b i).scopes = zh ((nthR b i).scopes.take (k + 1)) ++ zh ((nthR b i).scopes.drop (k + 1)) := by
    conv => lhs; rw [← List.take_append_drop (k + 1) (nthR b i).scopes]
    rw [spansOf_append]
  rw [e0, rowsZ_take hi, e1, spansOf_take hk]
  simp only [List.length_append, yw, List.length_map, List.length_take]
  omega
end Go.Proofs
namespace Go.Proofs
open Go Go.Al
set_option maxRecDepth 10000
theorem rowsZ_plR (b : List GRes) : (yn b).length ≤ zv GRes.wt b := by
  rw [rowsZ_len, ← plR_all 0 b]; exact plR_len 0 b
end Go.Proofs
namespace Go.Proofs
open Go Go.Al
set_option maxRecDepth 10000
set_option maxHeartbeats 8000000 in
theorem nzB0_c (hG : ∀ (ks : List ByteArray) (ss : List GSpan), ks.length ≤ 9000000 → ss.length ≤ 9000000 → zi Tryd.prog Γ0 18 [.sl 1 (ks.map fun x => sv x), .sl 42 (ss.map GSpan.av)] [yd (groupM (ks.zip ss))]) (b : List GRes) (ho : okB b) (hw : wtB b ≤ 9000000) (hr : ∀ r ∈ b, risA none r.attrs) : zi Tryd.prog Γ0 13 [yd b] [yd (nzB b)] := by
  have qz := rowsZ_plR b
  have qw : wtB b = zv GRes.wt b := rfl
  have ql := ya GRes.wt (fun e => by unfold GRes.wt; omega) b
  refine zO Tryd.func13 rfl Tryd.ntmps13 (by kernel_rfl) rfl fun w0 I0 G0 => ?_
  refine zD <| zB <| g_uG (zd 1001 rfl rfl rfl rfl) rfl <| g_uG (zg 1002 rfl rfl rfl tZ24) rfl <| zG <| zA <| zD <| zB <| g_u (zE rfl rfl) <| zG <| zA <| zD <| zB <| g_u (zE rfl rfl) <| zG <| zA <| zD <| zD <| aw_newtok 3003 3 1 rfl rfl rfl rfl <| aw_newtok 3004 4 42 rfl rfl rfl rfl <| zB <| g_u (zF rfl rfl fa24_0 rfl) <| g_u (zH rfl rfl rfl tA22 tS22 rfl rfl) <| g_u (yB rfl rfl Tryd.underlying22) <| g_u (zC rfl rfl) <| zG <| zA <| zQ ?_
  refine yA (fun i : Nat => [(1, .ptr 1001 0), (1001, .box 24 (.imm (yd b))), (2, .ptr 1002 0), (1002, .box 24 (.imm z24)), (3, .slg 3003 1 (((yn (b.take i))).map fun x => sv x.1)), (3003, .tok 1 (((yn (b.take i))).map fun x => sv x.1)), (4, .slg 3004 42 (((yn (b.take i))).map fun x => x.2.av)), (3004, .tok 42 (((yn (b.take i))).map fun x => x.2.av)), (13, .imm (.sl 2 (b.map GRes.av))), (14, .imm (iv (b.length : Int))), (15, .imm (iv (i : Int)))]) (fun i => i ≤ b.length) (fun i => b.length - i) (0) ?_ ⟨rfl, rfl, rfl, rfl, rfl, rfl, rfl, rfl, rfl, zX rfl (by rw [List.length_map]), rfl, trivial⟩ ?_
  · exact Nat.zero_le _
  · rintro i h1; have h1 : i ≤ b.length := h1
    refine zD <| zB <| g_u (xS rfl rfl rfl) <| zG <| zA <| zD ?_
    refine zT rfl (fun hb1 => ?_) (fun hb1 => ?_)
    · have hi : i < b.length := by have := of_decide_eq_true hb1; (try simp only [List.length_map] at this); omega
      have hro := ho _ (wu hi)
      have hrr := hr _ (wu hi)
      have hrx := yE GRes.wt (wu hi)
      have hrq : (nthR b i).wt = 1 + wtAs (nthR b i).attrs + zv GScope.wt (nthR b i).scopes := rfl
      have hcl := ya GScope.wt (fun e => by unfold GScope.wt; omega) (nthR b i).scopes
      refine za <| zA <| zD <| zQ <| zD <| zB ?_
      refine g_u (zf rfl rfl rfl Tryd.underlying22 tS61 (by omega) (ixR hi)) ?_
      refine g_u (zk rfl rfl tA61 tS61 rfl rfl) <| g_uG (zg 1006 rfl rfl rfl tZ61) rfl <| g_u (zL rfl rfl rfl tS61 rfl rfl) <| zG <| zA <| zD <| zB <| g_u (zn rfl rfl rfl tA61 tS61 rfl rfl) ?_
      refine g_u (zS (service_c (nthR b i) hro.1 (by omega) hrr) rfl rfl) ?_
      refine g_u (zE rfl rfl) <| zG <| zA <| zD <| zB <| g_u (zF rfl rfl fa61_1 rfl) <| g_u (zH rfl rfl rfl tA59 tS59 rfl rfl) <| g_u (yB rfl rfl Tryd.underlying59) <| g_u (zC rfl rfl) <| zG <| zA <| zQ ?_
      refine yA (fun k : Nat => [(1, .ptr 1001 0), (1001, .box 24 (.imm (yd b))), (2, .ptr 1002 0), (1002, .box 24 (.imm z24)), (3, .slg 3003 1 (((yn (b.take i)) ++ (yw (nthR b i) (zh ((nthR b i).scopes.take k)))).map fun x => sv x.1)), (3003, .tok 1 (((yn (b.take i)) ++ (yw (nthR b i) (zh ((nthR b i).scopes.take k)))).map fun x => sv x.1)), (4, .slg 3004 42 (((yn (b.take i)) ++ (yw (nthR b i) (zh ((nthR b i).scopes.take k)))).map fun x => x.2.av)), (3004, .tok 42 (((yn (b.take i)) ++ (yw (nthR b i) (zh ((nthR b i).scopes.take k)))).map fun x => x.2.av)), (13, .imm (.sl 2 (b.map GRes.av))), (14, .imm (iv (b.length : Int))), (15, .imm (iv (i : Int))), (7, .imm (sv (yO (nthR b i)))), (22, .imm (.sl 3 ((nthR b i).scopes.map GScope.av))), (23, .imm (iv ((nthR b i).scopes.length : Int))), (24, .imm (iv (k : Int)))]) (fun k => k ≤ (nthR b i).scopes.length) (fun k => (nthR b i).scopes.length - k) (0) ?_ ⟨rfl, rfl, rfl, rfl, yT rfl (by simp [yw, zh]), yD rfl (by simp [yw, zh]), yT rfl (by simp [yw, zh]), yD rfl (by simp [yw, zh]), rfl, rfl, rfl, rfl, rfl, zX rfl (by rw [List.length_map]), rfl, trivial⟩ ?_
      · exact Nat.zero_le _
      · rintro k h2; have h2 : k ≤ (nthR b i).scopes.length := h2
        refine zD <| zB <| g_u (xS rfl rfl rfl) <| zG <| zA <| zD ?_
        refine zT rfl (fun hb2 => ?_) (fun hb2 => ?_)
        · have hk : k < (nthR b i).scopes.length := by have := of_decide_eq_true hb2; (try simp only [List.length_map] at this); omega
          have hcx := yE GScope.wt (nthC_mem hk)
          have hco := hro.2 _ (nthC_mem hk)
          have hcq : (nthC (nthR b i).scopes k).wt = 1 + (nthC (nthR b i).scopes k).name.size + (nthC (nthR b i).scopes k).version.size + zv GSpan.wt (nthC (nthR b i).scopes k).spans := rfl
          have hsl := ya GSpan.wt (fun e => by unfold GSpan.wt; omega) (nthC (nthR b i).scopes k).spans
          refine za <| zA <| zD <| zQ <| zD <| zB ?_
          refine g_u (zf rfl rfl rfl Tryd.underlying59 tS64 (by omega) (ixC hk)) ?_
          refine g_u (zk rfl rfl tA64 tS64 rfl rfl) <| g_uG (zg 1009 rfl rfl rfl tZ64) rfl <| g_u (zL rfl rfl rfl tS64 rfl rfl) <| zG <| zA <| zD <| zB <| g_u (zF rfl rfl fa64_2 rfl) <| g_u (zH rfl rfl rfl tA44 tS44 rfl rfl) <| g_u (yB rfl rfl Tryd.underlying44) <| g_u (zC rfl rfl) <| zG <| zA <| zQ ?_
          refine yA (fun m : Nat => [(1, .ptr 1001 0), (1001, .box 24 (.imm (yd b))), (2, .ptr 1002 0), (1002, .box 24 (.imm z24)), (3, .slg 3003 1 (((yn (b.take i)) ++ (yw (nthR b i) (zh ((nthR b i).scopes.take k))) ++ (yw (nthR b i) ((nthC (nthR b i).scopes k).spans.take m))).map fun x => sv x.1)), (3003, .tok 1 (((yn (b.take i)) ++ (yw (nthR b i) (zh ((nthR b i).scopes.take k))) ++ (yw (nthR b i) ((nthC (nthR b i).scopes k).spans.take m))).map fun x => sv x.1)), (4, .slg 3004 42 (((yn (b.take i)) ++ (yw (nthR b i) (zh ((nthR b i).scopes.take k))) ++ (yw (nthR b i) ((nthC (nthR b i).scopes k).spans.take m))).map fun x => x.2.av)), (3004, .tok 42 (((yn (b.take i)) ++ (yw (nthR b i) (zh ((nthR b i).scopes.take k))) ++ (yw (nthR b i) ((nthC (nthR b i).scopes k).spans.take m))).map fun x => x.2.av)), (13, .imm (.sl 2 (b.map GRes.av))), (14, .imm (iv (b.length : Int))), (15, .imm (iv (i : Int))), (7, .imm (sv (yO (nthR b i)))), (22, .imm (.sl 3 ((nthR b i).scopes.map GScope.av))), (23, .imm (iv ((nthR b i).scopes.length : Int))), (24, .imm (iv (k : Int))), (29, .imm (.sl 42 ((nthC (nthR b i).scopes k).spans.map GSpan.av))), (30, .imm (iv ((nthC (nthR b i).scopes k).spans.length : Int))), (31, .imm (iv (m : Int)))]) (fun m => m ≤ (nthC (nthR b i).scopes k).spans.length) (fun m => (nthC (nthR b i).scopes k).spans.length - m) (0) ?_ ⟨rfl, rfl, rfl, rfl, yT rfl (by simp [yw]), yD rfl (by simp [yw]), yT rfl (by simp [yw]), yD rfl (by simp [yw]), rfl, rfl, rfl, rfl, rfl, rfl, rfl, rfl, zX rfl (by rw [List.length_map]), rfl, trivial⟩ ?_
          · exact Nat.zero_le _
          · rintro m h3; have h3 : m ≤ (nthC (nthR b i).scopes k).spans.length := h3
            refine zD <| zB <| g_u (xS rfl rfl rfl) <| zG <| zA <| zD ?_
            refine zT rfl (fun hb3 => ?_) (fun hb3 => ?_)
            · have hm : m < (nthC (nthR b i).scopes k).spans.length := by have := of_decide_eq_true hb3; (try simp only [List.length_map] at this); omega
              have hsx := yE GSpan.wt (nthS_mem hm)
              have hso := hco.2.2 _ (nthS_mem hm)
              have q1 := rowsZ_part hi hk hm
              refine za <| zA <| zD <| zQ <| zD <| zB ?_
              refine g_u (zf rfl rfl rfl Tryd.underlying44 tS36 (by omega) (ixS hm)) ?_
              refine g_u (zk rfl rfl tA36 tS36 rfl (by first | exact xn (GSpan.width _) rfl | rfl)) ?_
              refine g_uG (zg 1011 rfl rfl rfl tZ36) rfl ?_
              refine g_u (zL rfl rfl rfl tS36 (by first | exact beqW (GSpan.width _) | rfl) (by first | exact wl (z36_w.trans (GSpan.width _).symm) rfl | rfl)) ?_
              refine zG <| zA <| y3 wn <| g_u (zy rfl rfl) <| g_u (zC rfl rfl) <| g_u (z_ (X0 := z9) rfl Tryd.underlying37 tS9 tZ9 rfl rfl rfl rfl rfl rfl rfl rfl) ?_
              refine g_u (yH rfl rfl rfl rfl rfl Tryd.underlying37 Tryd.underlying37 tS9 zv9 rfl (by decide) by9 (by (try dsimp only); simp only [List.length_append, List.length_cons, List.length_nil, List.length_map] at q1 ⊢; omega) (by (try dsimp only); simp only [List.length_append, List.length_cons, List.length_nil, List.length_map] at q1 ⊢; omega)) ?_
              refine g_u (zy rfl rfl) ?_
              refine g_u (zH rfl rfl rfl tA36 tS36 rfl (by first | exact xn (GSpan.width _) rfl | rfl)) ?_
              refine g_u (zS (nzS_c _ hso (by omega)) rfl rfl) ?_
              refine g_u (z_ (X0 := z36) rfl Tryd.underlying44 tS36 tZ36 rfl rfl rfl rfl rfl rfl rfl rfl) ?_
              refine g_u (yH rfl rfl rfl rfl rfl Tryd.underlying44 Tryd.underlying44 tS36 zv36 rfl (by decide) by36 (by (try dsimp only); simp only [List.length_append, List.length_cons, List.length_nil, List.length_map] at q1 ⊢; omega) (by (try dsimp only); simp only [List.length_append, List.length_cons, List.length_nil, List.length_map] at q1 ⊢; omega)) ?_
              refine g_u (z0 rfl rfl) <| g_u (z0 rfl rfl) ?_
              refine zG ⟨by kernel_rfl, ?_⟩
              refine zU <| zA <| zB <| g_u (yZ rfl rfl rfl) <| g_u (zC rfl rfl) <| zG <| zA ?_
              have et : (yw (nthR b i) ((nthC (nthR b i).scopes k).spans.take (m + 1))) = (yw (nthR b i) ((nthC (nthR b i).scopes k).spans.take m)) ++ [(yO (nthR b i), nzS (nthS (nthC (nthR b i).scopes k).spans m))] := by unfold yw; rw [yG (yr (d := gs0) hm), List.map_append]; rfl
              have ek : (((yn (b.take i)) ++ (yw (nthR b i) (zh ((nthR b i).scopes.take k))) ++ (yw (nthR b i) ((nthC (nthR b i).scopes k).spans.take (m + 1)))).map fun x => sv x.1) = (((yn (b.take i)) ++ (yw (nthR b i) (zh ((nthR b i).scopes.take k))) ++ (yw (nthR b i) ((nthC (nthR b i).scopes k).spans.take m))).map fun x => sv x.1) ++ [sv (yO (nthR b i))] := by rw [et, ← List.append_assoc, List.map_append]; rfl
              have es : (((yn (b.take i)) ++ (yw (nthR b i) (zh ((nthR b i).scopes.take k))) ++ (yw (nthR b i) ((nthC (nthR b i).scopes k).spans.take (m + 1)))).map fun x => x.2.av) = (((yn (b.take i)) ++ (yw (nthR b i) (zh ((nthR b i).scopes.take k))) ++ (yw (nthR b i) ((nthC (nthR b i).scopes k).spans.take m))).map fun x => x.2.av) ++ [(nzS (nthS (nthC (nthR b i).scopes k).spans m)).av] := by rw [et, ← List.append_assoc, List.map_append]; rfl
              refine ⟨m + 1, hm, ⟨rfl, rfl, rfl, rfl, yT rfl ek.symm, yD rfl ek.symm, yT rfl es.symm, yD rfl es.symm, rfl, rfl, rfl, rfl, rfl, rfl, rfl, rfl, rfl, zX rfl (by rw [zj (by omega) (by omega)]; rfl), trivial⟩, by (try dsimp only); omega⟩
            · have hmn : m = (nthC (nthR b i).scopes k).spans.length := by have := of_decide_eq_false hb3; (try simp only [List.length_map] at this); omega
              refine yM <| ze <| ze <| z8 <| zU <| zA <| zB <| g_u (yZ rfl rfl rfl) <| g_u (zC rfl rfl) <| zG <| zA ?_
              have et : (yn (b.take i)) ++ (yw (nthR b i) (zh ((nthR b i).scopes.take (k + 1)))) = (yn (b.take i)) ++ (yw (nthR b i) (zh ((nthR b i).scopes.take k))) ++ (yw (nthR b i) ((nthC (nthR b i).scopes k).spans.take m)) := by rw [spansOf_take hk, rowsF_app, hmn, List.take_length, List.append_assoc]
              refine ⟨k + 1, hk, ⟨rfl, rfl, rfl, rfl, yT rfl (by rw [et]), yD rfl (by rw [et]), yT rfl (by rw [et]), yD rfl (by rw [et]), rfl, rfl, rfl, rfl, rfl, rfl, zX rfl (by rw [zj (by omega) (by omega)]; rfl), trivial⟩, by (try dsimp only); omega⟩
        · have hkn : k = (nthR b i).scopes.length := by have := of_decide_eq_false hb2; (try simp only [List.length_map] at this); omega
          refine yM <| ze <| ze <| z8 <| zU <| zA <| zB <| g_u (yZ rfl rfl rfl) <| g_u (zC rfl rfl) <| zG <| zA ?_
          have et : (yn (b.take (i + 1))) = (yn (b.take i)) ++ (yw (nthR b i) (zh ((nthR b i).scopes.take k))) := by rw [rowsZ_take hi, hkn, List.take_length]
          refine ⟨i + 1, hi, ⟨rfl, rfl, rfl, rfl, yT rfl (by rw [et]), yD rfl (by rw [et]), yT rfl (by rw [et]), yD rfl (by rw [et]), rfl, rfl, zX rfl (by rw [zj (by omega) (by omega)]; rfl), trivial⟩, by (try dsimp only); omega⟩
    · have hin : i = b.length := by have := of_decide_eq_false hb1; (try simp only [List.length_map] at this); omega
      rw [hin, List.take_length]
      refine yM <| ze <| ze <| z8 <| zA <| zD <| zB <| g_u (zy rfl rfl) <| g_u (zy rfl rfl) ?_
      refine g_u (zS ((show zi Tryd.prog Γ0 18 [.sl 1 ((yn b).map fun x => sv x.1), .sl 42 ((yn b).map fun x => x.2.av)] [yd (nzB b)] from by have h := hG ((yn b).map (·.1)) ((yn b).map (·.2)) (by rw [List.length_map]; omega) (by rw [List.length_map]; omega); rw [zip_fs, List.map_map, List.map_map] at h; exact h)) rfl rfl) ?_
      refine g_u (zL rfl rfl rfl tS24 rfl rfl) <| zG <| zA <| zM ?_
      exact ⟨⟨_, _, _, _, _, _, _, rfl, rfl, tA24, tS24, rfl, rfl, (rfl : toAV _ = some _).trans (congrArg some (by rfl))⟩, trivial⟩
end Go.Proofs
namespace Go.Al
open Go.RowKit
section
variable {C : Cx} {A : Nat → SV} {d : Nat} {ty : TypeId} {pos : String} {af : Array Edge} {gd : Option (Nat × Bool)} {x y : Operand} {T T' : TypeId}
end
end Go.Al
namespace Go.Al
open Go.RowKit
section
variable {C : Cx} {A : Nat → SV} {d : Nat} {ty : TypeId} {pos : String} {af : Array Edge} {gd : Option (Nat × Bool)} {x y : Operand} {T T' : TypeId}
theorem s_lookupYes {g : Nat} {kt vt : TypeId} {l : List ByteArray} {vs : List AV} {s : ByteArray} {v : AV} {i : Nat} (hN : Nat.blt d C.N = true) (hx : opS A x = .mref g) (hg : A g = .mpr (strs l) vs) (hy : opV A y = some (.v (.string s)))
    (hT : C.P.underlying T = some (.map kt vt)) (hk : C.P.underlying kt = some .string) (hm : x9 l s 0 = some i) (hv : vs[i]? = some v) :
    zW C ⟨some d, .lookup T x y true, ty, pos, af, gd⟩ (g :: (opR x ++ opR y)) [] A [(d, .tup [.imm v, .imm (.v (.bool true))])] := by
  refine zW.value rfl hN fun A' G a w hR S => ?_
  have hgA : A' g = .mpr (strs l) vs := (hR g List.mem_cons_self).trans hg
  obtain ⟨c, hc1, hc2⟩ := S.opS ((zz (fun k hk => hR k (List.mem_cons_of_mem _ (List.mem_append_left _ hk)))).trans hx) rfl
  simp only [RepS] at hc1
  have hev : a.eval x = .map (some (G.blk g)) := by rw [hc2, hc1]; rfl
  rw [← zt (fun k hk => hR k (List.mem_cons_of_mem _ (List.mem_append_right _ hk)))] at hy
  have hys := xH (S.opV hy)
  have hb := S.holds g
  rw [hgA] at hb
  simp only [Holds] at hb
  obtain ⟨how, ⟨es, h1, h2, h3, h4⟩, hni⟩ := hb
  have hkeys : es.toList.map (·.key) = l.map Value.string := repVs_strs h3
  have hlen : es.size = l.length := by have := congrArg List.length hkeys; simpa using this
  have hi := mfind_lt hm
  have hie : i < es.size := by omega
  have hfind := run_findKey (P := C.P) (s := s) hk hkeys w
  have hobj := run_getMap (P := C.P) h1
  have e2 : (es.toList[i]?).map (fun e => (i, e.val)) = some (i, es[i].val) := by rw [Array.getElem?_toList, Array.getElem?_eq_getElem hie]; rfl
  obtain ⟨u, hu1, hu2⟩ := repVs_get h4 hv
  simp only [List.getElem?_map, Array.getElem?_toList, Array.getElem?_eq_getElem hie, Option.map_some, Option.some.injEq] at hu1
  refine ⟨.tuple #[u, .bool true], ?_, ⟨[u, .bool true], rfl, _, _, rfl, yC.2 hu2, _, _, rfl, yC.2 (xB _ _ rfl), rfl⟩⟩
  simp only [execOp, Instr.lookup, Sem.run_bind, zK hT, Result.andThen_ok, hev, hobj, hys, Sem.run_pure, run_checkKey hk, hfind, hm, Option.bind_some, e2, if_true, hu1]
theorem s_lookupNo {g : Nat} {kt vt : TypeId} {l : List ByteArray} {vs : List AV} {s : ByteArray} {z : Value} (hN : Nat.blt d C.N = true) (hx : opS A x = .mref g) (hg : A g = .mpr (strs l) vs) (hy : opV A y = some (.v (.string s)))
    (hT : C.P.underlying T = some (.map kt vt)) (hk : C.P.underlying kt = some .string) (hm : x9 l s 0 = none) (hz : xT C.P vt = some z) (hzp : plain z = true) :
    zW C ⟨some d, .lookup T x y true, ty, pos, af, gd⟩ (g :: (opR x ++ opR y)) [] A [(d, .tup [.imm (.v z), .imm (.v (.bool false))])] := by
  refine zW.value rfl hN fun A' G a w hR S => ?_
  have hgA : A' g = .mpr (strs l) vs := (hR g List.mem_cons_self).trans hg
  obtain ⟨c, hc1, hc2⟩ := S.opS ((zz (fun k hk => hR k (List.mem_cons_of_mem _ (List.mem_append_left _ hk)))).trans hx) rfl
  simp only [RepS] at hc1
  have hev : a.eval x = .map (some (G.blk g)) := by rw [hc2, hc1]; rfl
  rw [← zt (fun k hk => hR k (List.mem_cons_of_mem _ (List.mem_append_right _ hk)))] at hy
  have hys := xH (S.opV hy)
  have hb := S.holds g
  rw [hgA] at hb
  simp only [Holds] at hb
  obtain ⟨how, ⟨es, h1, h2, h3, h4⟩, hni⟩ := hb
  have hkeys : es.toList.map (·.key) = l.map Value.string := repVs_strs h3
  have hfind := run_findKey (P := C.P) (s := s) hk hkeys w
  have hobj := run_getMap (P := C.P) h1
  refine ⟨.tuple #[z, .bool false], ?_, ⟨[z, .bool false], rfl, _, _, rfl, yC.2 (xB _ _ hzp), _, _, rfl, yC.2 (xB _ _ rfl), rfl⟩⟩
  simp only [execOp, Instr.lookup, Sem.run_bind, zK hT, Result.andThen_ok, hev, hobj, hys, Sem.run_pure, run_checkKey hk, hfind, hm, Option.bind_none, yW hz, if_true]
theorem s_ixRaw {el : TypeId} {b o n cap len : Nat} {i : Int} {k : IntKind} (hN : Nat.blt d C.N = true) (hx : opV A x = some (.v (.slice (some ⟨b, o, none⟩) len cap))) (hy : opV A y = some (.v (.int k i))) (hT : C.P.underlying T = some (.slice el)) (hn : zq C.P el = some n)
    (h : 0 ≤ i ∧ i < len) : zW C ⟨some d, .indexAddr T x y, ty, pos, af, gd⟩ (opR x ++ opR y) [] A [(d, .imm (.v (.pointer (some ⟨b, o + i.toNat * n, none⟩))))] := by
  refine zW.op2 rfl hN hx hy fun w I ρ h1 h2 => ?_
  have hi := zu h2
  have hv := wX h1 rfl
  refine ⟨_, ?_, xB w I rfl⟩
  simp only [execOp, Instr.indexAt, hi, hv, asIntOf, Sem.run_bind, Sem.run_pure, Result.andThen_ok, zK hT, h, and_self, if_true, zm hn, yp]
end
end Go.Al
namespace Go.Al
open Go.RowKit
theorem SimG.anew {C : Cx} {A A' : Nat → SV} {G G' : Gh} {a : Act} {w : World} (S : SimG C A G a w) (hI : G'.I = G.I) (hrel : ∀ g, C.K ≤ g → G'.blk g = G.blk g ∧ G'.cur g = G.cur g ∧ G'.len g = G.len g)
    (hh : ∀ k, Holds C.w0 C.E G' a w k (A' k)) (hap : ∀ k j b, k ≠ j → zN G' k b (A' k) → zN G' j b (A' j) → False) : SimG C A' G' a w :=
  ⟨S.os, S.tape, S.output, S.size, S.block, by rw [hI]; exact S.sub, fun g hg => (S.rel g hg).trans ⟨(hrel g hg).1, .inl (hrel g hg).2⟩, by rw [hI]; exact S.glob, by rw [hI]; exact S.new, by rw [hI]; exact S.val, S.nts, S.dfs, hh, hap⟩
def hdrB : Value → List Nat
  | .slice (some a) _ _ => [a.block]
  | _ => []
def ScOk (T : TypeId) (n : Nat) (w : World) (I : Nat → Nat → Prop) (b : Nat) (v : Value) (l : List AV) : Prop :=
  b < w.heap.size ∧ (∃ fr, w.heap[b]? = some (.cells #[.string .empty, .string .empty, v] T fr) ∧ unfrozen fr 3) ∧ (∀ o, ¬ I b o) ∧ TokS w (fun _ => True) I w v n l
theorem TokS.keep {w w' : World} {I I' : Nat → Nat → Prop} {v : Value} {n : Nat} {l : List AV} (h : TokS w (fun _ => True) I w v n l) (hle : Le w I w' I') (ho : ∀ b, b ∈ hdrB v → w'.heap[b]? = w.heap[b]? ∧ ∀ o, I' b o → I b o) : TokS w' (fun _ => True) I' w' v n l := by
  rcases h with h | ⟨b, cap, h1, h2, h3, h4, h5, ⟨cs, T, fr, h6, h7, h8⟩, h9⟩
  · exact .inl h
  · obtain ⟨e4, e5⟩ := ho b (by rw [h1]; exact List.mem_singleton.2 rfl)
    have hb : b < w'.heap.size := by
      have := e4.trans h6
      exact (Array.getElem?_eq_some_iff.1 this).1
    exact .inr ⟨b, cap, h1, h2, h3, RepM.mono hle n l b 0 h4, ⟨.inr trivial, hb⟩, ⟨cs, T, fr, by rw [e4]; exact h6, h7, h8⟩, fun o ho' hi => h9 o ho' (e5 o hi)⟩
theorem ScOk.keep {T : TypeId} {n : Nat} {w w' : World} {I I' : Nat → Nat → Prop} {b : Nat} {v : Value} {l : List AV} (h : ScOk T n w I b v l) (hle : Le w I w' I') (ho : ∀ c, c = b ∨ c ∈ hdrB v → w'.heap[c]? = w.heap[c]? ∧ ∀ o, I' c o → I c o) : ScOk T n w' I' b v l := by
  obtain ⟨h1, ⟨fr, h2, h3⟩, h4, h5⟩ := h
  obtain ⟨e1, e2⟩ := ho b (.inl rfl)
  have h2' := e1.trans h2
  exact ⟨(Array.getElem?_eq_some_iff.1 h2').1, ⟨fr, h2', h3⟩, fun o hi => h4 o (e2 o hi), h5.keep hle fun c hc => ho c (.inr hc)⟩
theorem TokS.kind {w : World} {I : Nat → Nat → Prop} {v : Value} {n : Nat} {l : List AV} (h : TokS w (fun _ => True) I w v n l) {b : Nat} (hb : b ∈ hdrB v) {o : Obj} (ho : w.heap[b]? = some o) : isBook o = false := by
  rcases h with ⟨rfl, _⟩ | ⟨b', cap, h1, _, _, _, _, ⟨cs, T, fr, h6, _⟩, _⟩
  · cases hb
  · rw [h1] at hb
    cases List.mem_singleton.1 hb
    rw [h6] at ho; cases ho; rfl
def tupV : Value → List Value
  | .tuple vs => vs.toList
  | _ => []
def HoleOk (T : TypeId) (w : World) (I : Nat → Nat → Prop) (b : Nat) : Prop := b < w.heap.size ∧ (∃ fr v, w.heap[b]? = some (.cells #[.string .empty, .string .empty, v] T fr) ∧ unfrozen fr 3) ∧ ∀ o, ¬ I b o
theorem HoleOk.keep {T : TypeId} {w w' : World} {I I' : Nat → Nat → Prop} {b : Nat} (h : HoleOk T w I b) (ho : w'.heap[b]? = w.heap[b]? ∧ ∀ o, I' b o → I b o) : HoleOk T w' I' b := by
  obtain ⟨h1, ⟨fr, v, h2, h3⟩, h4⟩ := h
  have h2' := ho.1.trans h2
  exact ⟨(Array.getElem?_eq_some_iff.1 h2').1, ⟨fr, v, h2', h3⟩, fun o hi => h4 o (ho.2 o hi)⟩
def ScF (T : TypeId) (n : Nat) (bs : List Nat) (ls : List (List AV)) (ex : Nat) : Nat → Value → Nat → HRes := fun _ cur _ =>
  { own := fun b => ∃ j c v, bs[j]? = some c ∧ (tupV cur)[j]? = some v ∧ (b = c ∨ (j ≠ ex ∧ b ∈ hdrB v))
    ok := fun w I => (tupV cur).length = bs.length ∧ ls.length = bs.length ∧ (∀ j c v l, j ≠ ex → bs[j]? = some c → (tupV cur)[j]? = some v → ls[j]? = some l → ScOk T n w I c v l) ∧
      (∀ c, bs[ex]? = some c → HoleOk T w I c) ∧
      (∀ j k c c' v v' b, j ≠ k → bs[j]? = some c → bs[k]? = some c' → (tupV cur)[j]? = some v → (tupV cur)[k]? = some v' → (b = c ∨ (j ≠ ex ∧ b ∈ hdrB v)) → (b = c' ∨ (k ≠ ex ∧ b ∈ hdrB v')) → False) ∧
      (∀ j c v, j ≠ ex → bs[j]? = some c → (tupV cur)[j]? = some v → c ∉ hdrB v)
    keep := fun w I w' I' h hle ho => ⟨h.1, h.2.1, fun j c v l hj hc hv hl => (h.2.2.1 j c v l hj hc hv hl).keep hle fun b hb => ho b ⟨j, c, v, hc, hv, hb.imp_right fun hb => ⟨hj, hb⟩⟩,
      fun c hc => (h.2.2.2.1 c hc).keep (by
        have hlt := (List.getElem?_eq_some_iff.1 hc).1
        exact ho c ⟨ex, c, (tupV cur)[ex]'(by rw [h.1]; exact hlt), hc, List.getElem?_eq_getElem _, .inl rfl⟩), h.2.2.2.2⟩
    kind := fun w I b o h hb ho => by
      obtain ⟨j, c, v, hc, hv, hb⟩ := hb
      by_cases hj : j = ex
      · subst hj
        rcases hb with rfl | ⟨hb, _⟩
        · obtain ⟨_, ⟨fr, v', h2, _⟩, _⟩ := h.2.2.2.1 _ hc
          rw [h2] at ho; cases ho; rfl
        · exact absurd rfl hb
      · have hlt : j < ls.length := by rw [h.2.1]; exact (List.getElem?_eq_some_iff.1 hc).1
        have hok := h.2.2.1 j c v ls[j] hj hc hv (List.getElem?_eq_getElem hlt)
        rcases hb with rfl | ⟨_, hb⟩
        · obtain ⟨_, ⟨fr, h2, _⟩, _⟩ := hok
          rw [h2] at ho; cases ho; rfl
        · exact hok.2.2.2.kind hb ho }
end Go.Al
namespace Go.Al
open Go.RowKit
theorem SimG.takeRow {C : Cx} {A : Nat → SV} {G : Gh} {a : Act} {w : World} (S : SimG C A G a w) {gs gT n i b : Nat} {T : TypeId} {bs : List Nat} {ls : List (List AV)} {l : List AV}
    (hTN : C.N ≤ gT) (hTK : gT < C.K) (h3 : gs ≠ gT) (hg : A gs = .gen (ScF T n bs ls bs.length)) (hb : bs[i]? = some b) (hl : ls[i]? = some l) (hf : ∀ k, k ≠ gT → noG [gT] (A k) = true) :
    ∃ G' v, SimG C (upd A [(gT, .tok n l), (gs, .gen (ScF T n bs ls i))]) G' a w ∧ w.cell? ⟨b, 2, none⟩ = some v ∧ yx w G' (.slg gT n l) v := by
  have hgs := S.holds gs
  rw [hg] at hgs
  simp only [Holds] at hgs
  obtain ⟨hown, hlen, hll, hok, hhole, hap, hself⟩ := hgs
  have hi : i < bs.length := (List.getElem?_eq_some_iff.1 hb).1
  have hex : ∀ {j : Nat} {c : Nat}, bs[j]? = some c → j ≠ bs.length := fun hc => by have := (List.getElem?_eq_some_iff.1 hc).1; omega
  obtain ⟨v, hv⟩ : ∃ v, (tupV (G.cur gs))[i]? = some v := ⟨_, List.getElem?_eq_getElem (by omega)⟩
  have hoki := hok i b v l (hex hb) hb hv hl
  obtain ⟨k1, ⟨fr, k2, k3⟩, k4, k5⟩ := hoki
  let G' : Gh := { G with cur := fun k => if k = gT then v else G.cur k, len := fun k => if k = gT then l.length else G.len k }
  have hrel : GRel [gT] G G' := fun g hg' => by
    have e2 : g ≠ gT := fun e => hg' (by simp [e])
    exact ⟨rfl, .inl ⟨by simp only [G', if_neg e2], by simp only [G', if_neg e2]⟩⟩
  have hu : ∀ k, upd A [(gT, .tok n l), (gs, .gen (ScF T n bs ls i))] k = if k = gT then .tok n l else if k = gs then .gen (ScF T n bs ls i) else A k := by
    intro k
    simp only [upd]
    by_cases e3 : k = gT
    · subst e3; simp [Nat.beq_refl]
    · rw [zJ (Ne.symm e3), if_neg e3]
      by_cases e4 : k = gs
      · subst e4; simp [Nat.beq_refl]
      · rw [zJ (Ne.symm e4), if_neg e4]; rfl
  have ownG : ∀ c, (c = b ∨ c ∈ hdrB v) → zN G gs c (A gs) := fun c hc => by
    rw [hg]; exact ⟨i, b, v, hb, hv, hc.imp_right fun h => ⟨hex hb, h⟩⟩
  refine ⟨G', v, S.anew rfl (fun g hgK => ?_) (fun k => ?_) ?_, ?_, ?_⟩
  · exact ⟨rfl, by simp only [G']; rw [if_neg (by omega)], by simp only [G']; rw [if_neg (by omega)]⟩
  · rw [hu]
    split
    · rename_i e; subst e
      simp only [Holds, G', if_true]
      refine ⟨trivial, ?_⟩
      rcases k5 with h | ⟨b', cap, e1, e2, e3, e4, e5, e6, e7⟩
      · exact .inl h
      · exact .inr ⟨b', cap, e1, e2, e3, e4, hown b' ⟨i, b, v, hb, hv, .inr ⟨hex hb, by rw [e1]; exact List.mem_singleton.2 rfl⟩⟩, e6, e7⟩
    split
    · rename_i _ e; subst e
      simp only [Holds, G', if_neg h3]
      exact ⟨fun c ⟨j, c', v', hc, hv', hbb⟩ => hown c ⟨j, c', v', hc, hv', hbb.imp_right fun h => ⟨hex hc, h.2⟩⟩, hlen, hll, fun j c v' l' hj hc hv' hl' => hok j c v' l' (hex hc) hc hv' hl',
        fun c hc => by rw [hb] at hc; cases hc; exact ⟨k1, ⟨fr, v, k2, k3⟩, k4⟩,
        fun j j' c c' v1 v2 bb hjj hc hc' hv1 hv2 hb1 hb2 => hap j j' c c' v1 v2 bb hjj hc hc' hv1 hv2 (hb1.imp_right fun h => ⟨hex hc, h.2⟩) (hb2.imp_right fun h => ⟨hex hc', h.2⟩), fun j c v' hj hc hv' => hself j c v' (hex hc) hc hv'⟩
    · rename_i n3 n4
      exact (S.holds k).keep (Gs := [gT]) (Le.refl _ _) hrel (hf k n3) (Nat.le_refl _) (fun h => ⟨h, rfl⟩) (fun _ => ⟨rfl, by simp only [G', if_neg n3], by simp only [G', if_neg n3]⟩) (fun c _ => ⟨rfl, fun _ h => h⟩)
  · have conv : ∀ k c, zN G' k c (upd A [(gT, .tok n l), (gs, .gen (ScF T n bs ls i))] k) →
        (k = gT ∧ c ∈ hdrB v) ∨ (k = gs ∧ ∃ j c' v', bs[j]? = some c' ∧ (tupV (G.cur gs))[j]? = some v' ∧ (c = c' ∨ (j ≠ i ∧ c ∈ hdrB v'))) ∨ (k ≠ gs ∧ zN G k c (A k)) := by
      intro k c hc
      rw [hu] at hc
      split at hc
      · rename_i e; subst e
        simp only [zN, G', if_true] at hc
        obtain ⟨ad, m, cp, e1, e2⟩ := hc
        exact .inl ⟨rfl, by rw [e1, ← e2]; exact List.mem_singleton.2 rfl⟩
      split at hc
      · rename_i _ e; subst e
        simp only [zN, G', if_neg h3] at hc
        exact .inr (.inl ⟨rfl, hc⟩)
      · rename_i n3 n4
        exact .inr (.inr ⟨n4, (wI (G1 := G) (G2 := G') (k := k) (b := c) (x := A k) ⟨rfl, by simp only [G', if_neg n3], by simp only [G', if_neg n3]⟩).1 hc⟩)
    have old : ∀ k c, (k = gT ∧ c ∈ hdrB v) ∨ (k = gs ∧ ∃ j c' v', bs[j]? = some c' ∧ (tupV (G.cur gs))[j]? = some v' ∧ (c = c' ∨ (j ≠ i ∧ c ∈ hdrB v'))) → zN G gs c (A gs) := by
      rintro k c (⟨_, e⟩ | ⟨_, j, c', v', hc', hv', hbb⟩)
      · exact ownG c (.inr e)
      · rw [hg]; exact ⟨j, c', v', hc', hv', hbb.imp_right fun h => ⟨hex hc', h.2⟩⟩
    intro k j c hkj hk hj
    have sep : ∀ {c : Nat}, c ∈ hdrB v → (∃ j c' v', bs[j]? = some c' ∧ (tupV (G.cur gs))[j]? = some v' ∧ (c = c' ∨ (j ≠ i ∧ c ∈ hdrB v'))) → False := by
      rintro c hc ⟨j', c', v', hc', hv', hbb⟩
      by_cases e : j' = i
      · subst e
        rw [hb] at hc'; cases hc'
        rcases hbb with rfl | ⟨h, _⟩
        · exact hself j' c v (hex hb) hb hv hc
        · exact h rfl
      · exact hap i j' b c' v v' c (Ne.symm e) hb hc' hv hv' (.inr ⟨hex hb, hc⟩) (hbb.imp_right fun h => ⟨hex hc', h.2⟩)
    rcases conv k c hk with p | p | ⟨pn, p⟩ <;> rcases conv j c hj with q | q | ⟨qn, q⟩
    · exact hkj (p.1.trans q.1.symm)
    · exact sep p.2 q.2
    · exact S.apart gs j c (Ne.symm qn) (old k c (.inl p)) q
    · exact sep q.2 p.2
    · exact hkj (p.1.trans q.1.symm)
    · exact S.apart gs j c (Ne.symm qn) (old k c (.inr p)) q
    · exact S.apart k gs c pn p (old j c (.inl q))
    · exact S.apart k gs c pn p (old j c (.inr q))
    · exact S.apart k j c hkj p q
  · simp only [World.cell?, k2]; rfl
  · refine ⟨[v], ?_, rfl⟩
    simp only [RepS]
    refine ⟨v, rfl, ?_, ?_, ?_⟩
    · simp only [RepC]
      rcases k5 with ⟨rfl, rfl⟩ | ⟨b', cap, e1, e2, e3, e4, _⟩
      · exact ⟨_, rfl, .inl ⟨none, 0, rfl, rfl, Nat.zero_le _, fun _ => rfl⟩⟩
      · exact ⟨_, rfl, .inr ⟨b', 0, cap, e1, e2, e3, e4⟩⟩
    · simp only [G', if_true]; exact Nat.le_refl _
    · intro _; simp only [G', if_true]
section
variable {C : Cx} {A : Nat → SV} {d : Nat} {ty : TypeId} {pos : String} {af : Array Edge} {gd : Option (Nat × Bool)} {x y : Operand} {T1 : TypeId}
theorem s_loadSc (gs gT i : Nat) {n b : Nat} {T : TypeId} {bs : List Nat} {ls : List (List AV)} {l : List AV} (hgs : Nat.ble C.N gs = true) (hTN : Nat.ble C.N gT = true) (hTK : Nat.blt gT C.K = true) (hsT : Nat.beq gs gT = false) (hN : Nat.blt d C.N = true)
    (hx : opV A x = some (.v (.pointer (some ⟨b, 2, none⟩)))) (hg : A gs = .gen (ScF T n bs ls bs.length)) (hb : bs[i]? = some b) (hl : ls[i]? = some l) (hq : y8 C.P T1 = some false) (hn : zq C.P T1 = some 1) :
    zW C ⟨some d, .load T1 x, ty, pos, af, gd⟩ (gs :: opR x) [gT] A [(d, .slg gT n l), (gT, .tok n l), (gs, .gen (ScF T n bs ls i))] := by
  intro A' a w hR hF ⟨G, S⟩
  have hgA : A' gs = .gen (ScF T n bs ls bs.length) := (hR gs List.mem_cons_self).trans hg
  rw [← zt (fun k hk => hR k (List.mem_cons_of_mem _ hk))] at hx
  have hev := wX (S.opV hx) rfl
  have hN' : d < C.N := by simpa [Nat.blt_eq] using hN
  have hgsN := Nat.le_of_ble_eq_true hgs
  have hTN' := Nat.le_of_ble_eq_true hTN
  have hds : gs ≠ d := by omega
  have hdT : gT ≠ d := by omega
  have hne : gs ≠ gT := by rintro rfl; rw [Nat.beq_refl] at hsT; cases hsT
  let A0 : Nat → SV := fun k => if k = d then .dead else A' k
  have S0 : SimG C A0 G a w := S.drop fun k => by by_cases h : k = d <;> simp [A0, h]
  have hfr : ∀ k, k ≠ gT → noG [gT] (A0 k) = true := by
    intro k h1
    by_cases h2 : k = d
    · simp [A0, h2, noG]
    · by_cases h3 : k = gs
      · have : A0 k = .gen (ScF T n bs ls bs.length) := by simp only [A0, if_neg h2]; rw [h3]; exact hgA
        rw [this]; rfl
      · have := hF k (by simp only [has, zJ (Ne.symm h1), zJ (Ne.symm h2), zJ (Ne.symm h3)]; rfl)
        simpa [A0, h2] using this
  have hA0 : A0 gs = .gen (ScF T n bs ls bs.length) := by simp only [A0, if_neg hds]; exact hgA
  obtain ⟨G', v, S1, hc, hv⟩ := S0.takeRow hTN' (by simpa [Nat.blt_eq] using hTK) hne hA0 hb hl hfr
  have S2 := S1.put hN' hv
  have hrun : (execOp a.eval ⟨some d, .load T1 x, ty, pos, af, gd⟩).run C.P w = .ok (.value v) w := by
    simp only [execOp, Instr.loadAt, Instr.sureAddr, hev, Sem.run_bind, Sem.run_pure, Result.andThen_ok]
    rw [wG (cs := [v]) hq hn (fun _ => rfl) (fun j hj => by
      have hj0 : j = 0 := by simpa using hj
      subst hj0; simpa using hc)]
    rfl
  unfold Oper.wp
  rw [hrun, Oper.upon_value]
  refine ⟨G', ?_⟩
  have e : upd (upd A0 [(gT, .tok n l), (gs, .gen (ScF T n bs ls i))]) [(d, .slg gT n l)] = upd A' [(d, .slg gT n l), (gT, .tok n l), (gs, .gen (ScF T n bs ls i))] := by
    funext k
    simp only [upd]
    by_cases h1 : d = k
    · subst h1; rw [Nat.beq_refl]; rfl
    · rw [zJ h1]
      cases Nat.beq gT k
      · cases Nat.beq gs k
        · simp only [cond_false, A0, if_neg (Ne.symm h1)]
        · rfl
      · rfl
  rw [← e]; exact S2
end
theorem SimG.turnB {C : Cx} {A : Nat → SV} {G : Gh} {a : Act} {w : World} (S : SimG C A G a w) {g b0 : Nat} {X' : SV} {o' : Obj}
    (how : Owned C.w0 C.E w b0) (hni : ∀ o, ¬ G.I b0 o) (hown : zN G g b0 (A g)) (hown' : ∀ b, zN G g b X' → zN G g b (A g))
    (hnew : Le w G.I (zr w b0 o') G.I → Holds C.w0 C.E G a (zr w b0 o') g X') :
    SimG C (upd A [(g, X')]) G a (zr w b0 o') := by
  have hlt : b0 < w.heap.size := how.2
  have hle : Le w G.I (zr w b0 o') G.I := fun b o h => ⟨h, by
    have : b ≠ b0 := by rintro rfl; exact hni o h
    exact yR (yb this)⟩
  have hu : ∀ k, upd A [(g, X')] k = if k = g then X' else A k := xK A g X'
  have conv : ∀ k b, zN G k b (upd A [(g, X')] k) → zN G k b (A k) := by
    intro k b h
    rw [hu] at h
    split at h
    · rename_i hk; subst hk; exact hown' b h
    · exact h
  refine ⟨S.os, S.tape, S.output, by rw [zs]; exact S.size, fun k h1 h2 => ?_, S.sub.trans hle, S.rel, S.glob.mono hle, S.new, fun b o h => by rw [zs]; exact S.val b o h, S.nts, S.dfs, fun k => ?_, fun k j b hkj h1 h2 => S.apart k j b hkj (conv k b h1) (conv j b h2)⟩
  · have : k ≠ b0 := by
      rintro rfl
      rcases how.1 with h | h
      · omega
      · exact h2 h
    rw [yb this]; exact S.block k h1 h2
  · rw [hu]
    split
    · rename_i hk; subst hk; exact hnew hle
    · rename_i hk
      refine (S.holds k).keep hle (GRel.refl G) (yu.1 _) (by rw [zs]; exact Nat.le_refl _) (fun h => ⟨h, rfl⟩) (fun _ => ⟨rfl, rfl, rfl⟩) (fun b hb => ⟨?_, fun _ h => h⟩)
      have : b ≠ b0 := by
        rintro rfl
        exact S.apart k g _ hk hb hown
      exact yb this
end Go.Al
namespace Go.Al
open Go.RowKit
theorem TokS.own {w0 : World} {E : Nat → Prop} {I : Nat → Nat → Prop} {w : World} {v : Value} {n : Nat} {l : List AV} (h : TokS w0 E I w v n l) : TokS w (fun _ => True) I w v n l ∧ ∀ b, b ∈ hdrB v → Owned w0 E w b := by
  rcases h with ⟨rfl, rfl⟩ | ⟨b, cap, h1, h2, h3, h4, h5, h6, h7⟩
  · exact ⟨.inl ⟨rfl, rfl⟩, fun b hb => by cases hb⟩
  · refine ⟨.inr ⟨b, cap, h1, h2, h3, h4, ⟨.inr trivial, h5.2⟩, h6, h7⟩, fun c hc => ?_⟩
    rw [h1] at hc
    cases List.mem_singleton.1 hc
    exact h5
theorem hdrB_mem {v : Value} {c : Nat} (h : c ∈ hdrB v) : ∃ a n m, v = .slice (some a) n m ∧ a.block = c := by
  unfold hdrB at h
  split at h
  · exact ⟨_, _, _, rfl, (List.mem_singleton.1 h).symm⟩
  · cases h
theorem SimG.putRow {C : Cx} {A : Nat → SV} {G : Gh} {a : Act} {w : World} (S : SimG C A G a w) {gs gT n i b : Nat} {T : TypeId} {bs : List Nat} {ls : List (List AV)} {l' : List AV}
    (hgK : gs < C.K) (h3 : gs ≠ gT) (hg : A gs = .gen (ScF T n bs ls i)) (hT : A gT = .tok n l') (hb : bs[i]? = some b) :
    ∃ fr v0, w.heap[b]? = some (.cells #[.string .empty, .string .empty, v0] T fr) ∧ unfrozen fr 3 ∧
      ∃ G', SimG C (upd A [(gT, .dead), (gs, .gen (ScF T n bs (ls.set i l') bs.length))]) G' a (zr w b (.cells #[.string .empty, .string .empty, G.cur gT] T fr)) := by
  have hgs := S.holds gs
  rw [hg] at hgs
  simp only [Holds] at hgs
  obtain ⟨hown, hlen, hll, hok, hhole, hap, hself⟩ := hgs
  obtain ⟨k1, ⟨fr, v0, k2, k3⟩, k4⟩ := hhole b hb
  have hi : i < bs.length := (List.getElem?_eq_some_iff.1 hb).1
  obtain ⟨vi, hvi⟩ : ∃ v, (tupV (G.cur gs))[i]? = some v := ⟨_, List.getElem?_eq_getElem (by omega)⟩
  have hbo := hown b ⟨i, b, vi, hb, hvi, .inl rfl⟩
  have hgo : ∀ {j c : Nat} {v : Value} {c' : Nat}, bs[j]? = some c → (tupV (G.cur gs))[j]? = some v → (c' = c ∨ (j ≠ i ∧ c' ∈ hdrB v)) → zN G gs c' (A gs) := fun h1 h2 h3 => by rw [hg]; exact ⟨_, _, _, h1, h2, h3⟩
  have htok := S.holds gT
  rw [hT] at htok
  simp only [Holds] at htok
  obtain ⟨htl, hts⟩ := htok
  obtain ⟨hts1, hts2⟩ := hts.own
  have hTo : ∀ c, c ∈ hdrB (G.cur gT) → zN G gT c (A gT) := fun c hc => by
    rw [hT]; exact hdrB_mem hc
  have hTb : ∀ {j c : Nat} {v : Value} {c' : Nat}, bs[j]? = some c → (tupV (G.cur gs))[j]? = some v → (c' = c ∨ (j ≠ i ∧ c' ∈ hdrB v)) → c' ∈ hdrB (G.cur gT) → False := fun h1 h2 h4 h5 => S.apart gs gT _ h3 (hgo h1 h2 h4) (hTo _ h5)
  refine ⟨fr, v0, k2, k3, ?_⟩
  have hne : ∀ {k : Nat}, k ≠ b → (zr w b (.cells #[.string .empty, .string .empty, G.cur gT] T fr)).heap[k]? = w.heap[k]? := fun h => yb h
  have S1 := S.turnB (g := gs) (b0 := b) (X' := .gen (ScF T n bs ls i)) (o' := .cells #[.string .empty, .string .empty, G.cur gT] T fr) hbo k4 (hgo hb hvi (.inl rfl)) (fun c h => by rw [hg]; exact h) (fun hle => by
    simp only [Holds]
    refine ⟨fun c hc => ⟨(hown c hc).1, by rw [zs]; exact (hown c hc).2⟩, hlen, hll, fun j c v l hj hc hv hl => (hok j c v l hj hc hv hl).keep hle fun c2 hc2 => ⟨hne ?_, fun _ h => h⟩, fun c hc => ?_, hap, hself⟩
    · rintro rfl
      exact hap j i c _ v vi _ hj hc hb hv hvi (hc2.imp_right fun h => ⟨hj, h⟩) (.inl rfl)
    · rw [hb] at hc; cases hc
      exact ⟨by rw [zs]; exact k1, ⟨fr, _, xD k1, k3⟩, k4⟩)
  let G' : Gh := { G with cur := fun k => if k = gs then .tuple ((tupV (G.cur gs)).set i (G.cur gT)).toArray else G.cur k, len := fun k => if k = gs then G.len gs + 1 else G.len k }
  have hrel : GRel [] G G' := fun g _ => ⟨rfl, by
    by_cases e : g = gs
    · subst e; right; simp only [G', if_true]; omega
    · left; exact ⟨by simp only [G', if_neg e], by simp only [G', if_neg e]⟩⟩
  have hu : ∀ k, upd A [(gT, .dead), (gs, .gen (ScF T n bs (ls.set i l') bs.length))] k = if k = gT then .dead else if k = gs then .gen (ScF T n bs (ls.set i l') bs.length) else A k := by
    intro k
    simp only [upd]
    by_cases e3 : k = gT
    · subst e3; simp [Nat.beq_refl]
    · rw [zJ (Ne.symm e3), if_neg e3]
      by_cases e4 : k = gs
      · subst e4; simp [Nat.beq_refl]
      · rw [zJ (Ne.symm e4), if_neg e4]; rfl
  have hcur : tupV (G'.cur gs) = (tupV (G.cur gs)).set i (G.cur gT) := by simp only [G', if_true, tupV]
  have hget : ∀ {j : Nat} {v : Value}, ((tupV (G.cur gs)).set i (G.cur gT))[j]? = some v → (j = i ∧ v = G.cur gT) ∨ (j ≠ i ∧ (tupV (G.cur gs))[j]? = some v) := by
    intro j v h
    by_cases e : j = i
    · subst e
      rw [List.getElem?_set_self (by omega)] at h
      exact .inl ⟨rfl, (Option.some.inj h).symm⟩
    · rw [List.getElem?_set_ne (Ne.symm e)] at h
      exact .inr ⟨e, h⟩
  -- whose a block of the scopes is
  have part : ∀ {j c : Nat} {v : Value} {c' : Nat}, bs[j]? = some c → ((tupV (G.cur gs)).set i (G.cur gT))[j]? = some v → (c' = c ∨ c' ∈ hdrB v) → zN G gs c' (A gs) ∨ c' ∈ hdrB (G.cur gT) := by
    intro j c v c' hc hv hh
    rcases hget hv with ⟨rfl, rfl⟩ | ⟨hj, hv'⟩
    · rcases hh with rfl | hh
      · exact .inl (hgo hc hvi (.inl rfl))
      · exact .inr hh
    · exact .inl (hgo hc hv' (hh.imp_right fun h => ⟨hj, h⟩))
  have hw' : ∀ c, c ∈ hdrB (G.cur gT) → c ≠ b := fun c hc e => by subst e; exact hTb hb hvi (.inl rfl) hc
  have hle : Le w G.I (zr w b (.cells #[.string .empty, .string .empty, G.cur gT] T fr)) G.I := fun c o h => ⟨h, yR (hne (by rintro rfl; exact k4 o h))⟩
  refine ⟨G', S1.anew rfl (fun g hgK' => ?_) (fun k => ?_) ?_⟩
  · have : g ≠ gs := by omega
    exact ⟨rfl, by simp only [G', if_neg this], by simp only [G', if_neg this]⟩
  · rw [hu]
    split
    · trivial
    split
    · rename_i _ e; subst e
      simp only [Holds, ScF]
      rw [hcur]
      refine ⟨?_, by rw [List.length_set]; exact hlen, by rw [List.length_set]; exact hll, ?_, ?_, ?_, ?_⟩
      · rintro c ⟨j, c', v, hc, hv, hh⟩
        have hh' : c = c' ∨ c ∈ hdrB v := hh.imp_right And.right
        rcases part hc hv hh' with h | h
        · have := (S.holds k).owned h
          exact ⟨this.1, by rw [zs]; exact this.2⟩
        · have := hts2 c h
          exact ⟨this.1, by rw [zs]; exact this.2⟩
      · intro j c v l _ hc hv hl
        rcases hget hv with ⟨rfl, rfl⟩ | ⟨hj, hv'⟩
        · rw [hb] at hc; cases hc
          rw [List.getElem?_set_self (by omega)] at hl
          cases hl
          exact ⟨by rw [zs]; exact k1, ⟨fr, xD k1, k3⟩, k4, hts1.keep hle fun c hc => ⟨hne (hw' c hc), fun _ h => h⟩⟩
        · rw [List.getElem?_set_ne (Ne.symm hj)] at hl
          refine (hok j c v l hj hc hv' hl).keep hle fun c2 hc2 => ⟨hne ?_, fun _ h => h⟩
          rintro rfl
          exact hap j i c _ v vi _ hj hc hb hv' hvi (hc2.imp_right fun h => ⟨hj, h⟩) (.inl rfl)
      · intro c hc
        rw [List.getElem?_eq_none (Nat.le_refl _)] at hc; cases hc
      · intro j j' c c' v v' bb hjj hc hc' hv hv' h1 h2
        have h1 : bb = c ∨ bb ∈ hdrB v := h1.imp_right And.right
        have h2 : bb = c' ∨ bb ∈ hdrB v' := h2.imp_right And.right
        rcases hget hv with ⟨rfl, rfl⟩ | ⟨hj, hv1⟩ <;> rcases hget hv' with ⟨e, rfl⟩ | ⟨hj', hv2⟩
        · exact hjj e.symm
        · rcases h1 with rfl | h1
          · exact hap j j' _ c' vi v' _ hjj hc hc' hvi hv2 (.inl rfl) (h2.imp_right fun h => ⟨hj', h⟩)
          · exact hTb hc' hv2 (h2.imp_right fun h => ⟨hj', h⟩) h1
        · subst e
          rcases h2 with rfl | h2
          · exact hap j j' c _ v vi _ hjj hc hc' hv1 hvi (h1.imp_right fun h => ⟨hj, h⟩) (.inl rfl)
          · exact hTb hc hv1 (h1.imp_right fun h => ⟨hj, h⟩) h2
        · exact hap j j' c c' v v' bb hjj hc hc' hv1 hv2 (h1.imp_right fun h => ⟨hj, h⟩) (h2.imp_right fun h => ⟨hj', h⟩)
      · intro j c v _ hc hv
        rcases hget hv with ⟨rfl, rfl⟩ | ⟨hj, hv1⟩
        · rw [hb] at hc; cases hc
          exact fun h => hw' _ h rfl
        · exact hself j c v hj hc hv1
    · rename_i n3 n4
      have hk := S1.holds k
      rw [show upd A [(gs, .gen (ScF T n bs ls i))] k = A k by rw [xK, if_neg n4]] at hk
      exact hk.keep (Gs := []) (Le.refl _ _) hrel (yu.1 _) (Nat.le_refl _) (fun h => ⟨h, rfl⟩) (fun _ => ⟨rfl, by simp only [G', if_neg n4], by simp only [G', if_neg n4]⟩) (fun c _ => ⟨rfl, fun _ h => h⟩)
  · have conv : ∀ k c, zN G' k c (upd A [(gT, .dead), (gs, .gen (ScF T n bs (ls.set i l') bs.length))] k) → (k = gs ∧ (zN G gs c (A gs) ∨ zN G gT c (A gT))) ∨ (k ≠ gs ∧ k ≠ gT ∧ zN G k c (A k)) := by
      intro k c hc
      rw [hu] at hc
      split at hc
      · simp only [zN] at hc
      split at hc
      · rename_i _ e; subst e
        simp only [zN, ScF] at hc
        rw [hcur] at hc
        obtain ⟨j, c', v, h1, h2, hh⟩ := hc
        exact .inl ⟨rfl, (part h1 h2 (hh.imp_right And.right)).imp_right (hTo c)⟩
      · rename_i n3 n4
        exact .inr ⟨n4, n3, (wI (G1 := G) (G2 := G') (k := k) (b := c) (x := A k) ⟨rfl, by simp only [G', if_neg n4], by simp only [G', if_neg n4]⟩).1 hc⟩
    intro k j c hkj hk hj
    rcases conv k c hk with ⟨pk, p⟩ | ⟨pn, pn', p⟩ <;> rcases conv j c hj with ⟨qk, q⟩ | ⟨qn, qn', q⟩
    · exact hkj (pk.trans qk.symm)
    · rcases p with p | p
      · exact S.apart gs j c (Ne.symm qn) p q
      · exact S.apart gT j c (Ne.symm qn') p q
    · rcases q with q | q
      · exact S.apart k gs c pn p q
      · exact S.apart k gT c pn' p q
    · exact S.apart k j c hkj p q
end Go.Al
namespace Go.Al
open Go.RowKit
theorem SimG.tellKs {C : Cx} {A A' : Nat → SV} {G G' : Gh} {a : Act} {w : World} (S : SimG C A G a w) (ks Gs : List Nat)
    (hle : Le w G.I w G'.I) (hrel : GRel Gs G G') (hK : ∀ g, C.K ≤ g → Turns G G' g)
    (hsame : ∀ k, k ∉ ks → A' k = A k ∧ G'.blk k = G.blk k ∧ G'.cur k = G.cur k ∧ G'.len k = G.len k)
    (hfresh : ∀ k, k ∉ ks → noG Gs (A k) = true)
    (hI : ∀ b o, G'.I b o → G.I b o ∨ ∃ k, k ∈ ks ∧ zN G k b (A k))
    (hown : ∀ k, k ∈ ks → ∀ b, zN G' k b (A' k) → ∃ j, j ∈ ks ∧ zN G j b (A j))
    (hh : ∀ k, k ∈ ks → Holds C.w0 C.E G' a w k (A' k))
    (hap : ∀ k j b, k ∈ ks → j ∈ ks → k ≠ j → zN G' k b (A' k) → zN G' j b (A' j) → False) : SimG C A' G' a w := by
  have hnot : ∀ k b, k ∉ ks → zN G k b (A k) → ∀ j, j ∈ ks → ¬ zN G j b (A j) := fun k b hk h j hj h' => S.apart k j b (by rintro rfl; exact hk hj) h h'
  have hoff : ∀ k b, k ∉ ks → zN G' k b (A' k) → zN G k b (A k) := fun k b hk h => by
    obtain ⟨e, e1, e2, e3⟩ := hsame k hk
    rw [e] at h; exact (wI ⟨e1, e2, e3⟩).1 h
  refine ⟨S.os, S.tape, S.output, S.size, S.block, S.sub.trans hle, fun g hg => (S.rel g hg).trans (hK g hg), S.glob.mono hle, fun b o h => ?_, fun b o h => ?_, S.nts, S.dfs, fun k => ?_, fun k j b hkj h1 h2 => ?_⟩
  · rcases hI b o h with h | ⟨k, _, h⟩
    · exact S.new b o h
    · exact .inr (((S.holds k).owned h).1)
  · rcases hI b o h with h | ⟨k, _, h⟩
    · exact S.val b o h
    · exact xv S h
  · by_cases hk : k ∈ ks
    · exact hh k hk
    · obtain ⟨e, e1, e2, e3⟩ := hsame k hk
      rw [e]
      exact (S.holds k).keep hle hrel (hfresh k hk) (Nat.le_refl _) (fun h => ⟨h, rfl⟩) (fun _ => ⟨e1, e2, e3⟩) (fun b hb => ⟨rfl, fun o ho => by
        rcases hI b o ho with h | ⟨j, hj, h⟩
        · exact h
        · exact absurd h (hnot k b hk hb j hj)⟩)
  · by_cases hk : k ∈ ks <;> by_cases hj : j ∈ ks
    · exact hap k j b hk hj hkj h1 h2
    · obtain ⟨i, hi, h3⟩ := hown k hk b h1
      exact hnot j b hj (hoff j b hj h2) i hi h3
    · obtain ⟨i, hi, h3⟩ := hown j hj b h2
      exact hnot k b hk (hoff k b hk h1) i hi h3
    · exact S.apart k j b hkj (hoff k b hk h1) (hoff j b hj h2)
section
variable {C : Cx} {A : Nat → SV} {d : Nat} {ty : TypeId} {pos : String} {af : Array Edge} {gd : Option (Nat × Bool)} {x y : Operand} {T : TypeId}
theorem s_nilRaw {b o : Nat} (hN : Nat.blt d C.N = true) (hx : opV A x = some (.v (.pointer (some ⟨b, o, none⟩)))) :
    zW C ⟨some d, .nilCheck x, ty, pos, af, gd⟩ (opR x) [] A [(d, .imm (.v (.pointer (some ⟨b, o, none⟩))))] :=
  zW.op1 rfl hN hx fun w I ρ h => by
    have e := wX h rfl
    exact ⟨ρ x, by simp only [execOp, e]; rfl, h⟩
theorem s_fieldRaw {b p o n : Nat} {f : Nat} {q : Bool} (hN : Nat.blt d C.N = true) (hx : opV A x = some (.v (.pointer (some ⟨b, p, none⟩)))) (hf : fieldAt C.P T f o n q) (h0 : Nat.blt 0 n = true) :
    zW C ⟨some d, .fieldAddr T x f, ty, pos, af, gd⟩ (opR x) [] A [(d, .imm (.v (.pointer (some ⟨b, p + o, none⟩))))] := by
  refine zW.op1 rfl hN hx fun w I ρ h => ?_
  have e := wX h rfl
  obtain ⟨fs, fld, hU, hfs, hoff, hn, hq⟩ := hf
  have hn0 : n ≠ 0 := by have : 0 < n := by simpa [Nat.blt_eq] using h0
                         omega
  refine ⟨_, ?_, xB w I rfl⟩
  simp only [execOp, Instr.fieldAt, Instr.sureAddr, e, Sem.run_bind, zK hU, Result.andThen_ok, hfs, Sem.run_pure, fieldPlace, zm hn, hn0, if_false, yp, hoff]
theorem s_storeSc (gs gT i : Nat) {n b : Nat} {T0 : TypeId} {bs : List Nat} {ls : List (List AV)} {l' : List AV} (hgK : Nat.blt gs C.K = true) (hsT : Nat.beq gs gT = false)
    (hx : opV A x = some (.v (.pointer (some ⟨b, 2, none⟩)))) (hy : opS A y = .slg gT n l') (hT : A gT = .tok n l') (hg : A gs = .gen (ScF T0 n bs ls i)) (hb : bs[i]? = some b) (hn : zq C.P T = some 1) :
    zW C ⟨none, .store T x y, ty, pos, af, gd⟩ (gs :: gT :: (opR x ++ opR y)) [] A [(gT, .dead), (gs, .gen (ScF T0 n bs (ls.set i l') bs.length))] := by
  intro A' a w hR hF ⟨G, S⟩
  have hgA : A' gs = .gen (ScF T0 n bs ls i) := (hR gs List.mem_cons_self).trans hg
  have hTA : A' gT = .tok n l' := (hR gT (List.mem_cons_of_mem _ List.mem_cons_self)).trans hT
  rw [← zt (fun k hk => hR k (List.mem_cons_of_mem _ (List.mem_cons_of_mem _ (List.mem_append_left _ hk))))] at hx
  rw [← zz (fun k hk => hR k (List.mem_cons_of_mem _ (List.mem_cons_of_mem _ (List.mem_append_right _ hk))))] at hy
  have hev := wX (S.opV hx) rfl
  obtain ⟨c, hc1, hc2⟩ := S.opS hy rfl
  simp only [RepS] at hc1
  obtain ⟨v, rfl, hv1, hv2, hv3⟩ := hc1
  have htok := S.holds gT
  rw [hTA] at htok
  simp only [Holds] at htok
  have hcur : v = G.cur gT := hv3 htok.1.symm
  have hne : gs ≠ gT := by rintro rfl; rw [Nat.beq_refl] at hsT; cases hsT
  obtain ⟨fr, v0, k2, k3, G', S1⟩ := S.putRow (by simpa [Nat.blt_eq] using hgK) hne hgA hTA hb
  have hpl : [v].all plain = true := RepC.plain _ _ hv1
  have hvy : a.eval y = v := hc2
  have hcl : v.cells.toList = [v] := by
    have := wg hv1
    simpa [mkV, AV.isAgg] using this
  have hrun : (storeVar T ⟨b, 2, none⟩ (a.eval y)).run C.P w = .ok () (zr w b (.cells #[.string .empty, .string .empty, G.cur gT] T0 fr)) := by
    simp only [storeVar, Sem.run_bind, zm hn, Result.andThen_ok]
    have hsz : (a.eval y).cells.size = 1 := by rw [hvy, ← Array.length_toList, hcl]; rfl
    rw [if_neg (by omega), hvy, hcl]
    have := xG (P := C.P) (b := b) (o := 2) [v] w _ k2 k3 (Nat.le_refl _) hpl
    rw [this, hcur]; rfl
  unfold Oper.wp
  simp only [execOp, Instr.storeAt, Instr.sureAddr, hev, Sem.run_bind, Sem.run_pure, Result.andThen_ok, hrun]
  rw [Oper.upon_skip]
  exact ⟨G', S1⟩
end
end Go.Al
namespace Go.Al
open Go.RowKit
theorem has_off {l : List (Nat × SV)} {k : Nat} (h : k ∉ yl l) : has l k = false := by
  cases hb : has l k
  · rfl
  · exact absurd ((has_iff l k).1 hb) h
theorem xq {A : Nat → SV} {l : List (Nat × SV)} {k : Nat} (h : k ∉ yl l) : upd A l k = A k := xg A l k (has_off h)
def buildSV (pl : Nat → Option (Nat × Nat)) : List (Nat × SV) → SV → Option SV
  | [], X => some X
  | (i, v) :: ps, X => match pl i with
    | some (off, n) => bif Nat.beq v.width n then (match setS 8 X off v with | some X' => buildSV pl ps X' | none => none) else none
    | none => none
def opSv (A : Nat → SV) (xs : List (Nat × Operand)) : List (Nat × SV) := xs.map fun p => (p.1, opS A p.2)
theorem opSv_congr {A A' : Nat → SV} : ∀ {xs : List (Nat × Operand)}, (∀ k ∈ opPRs xs, A' k = A k) → opSv A' xs = opSv A xs
  | [], _ => rfl
  | (i, x) :: xs, h => by
    simp only [opSv, List.map_cons]
    have h2 := opSv_congr (xs := xs) (fun k hk => h k (List.mem_append_right _ hk))
    simp only [opSv] at h2
    rw [zz (fun k hk => h k (List.mem_append_left _ hk)), h2]
theorem run_fillSV {w : World} {G : Gh} {pl : Nat → Option (Nat × Nat)} {ρ : Operand → Value} : ∀ (ps : List (Nat × Operand)) (qs : List (Nat × SV)) (cs : Array Value) (X Y : SV),
    (∀ i : Nat, ∀ x : Operand, ∀ j : Nat, ps[j]? = some (i, x) → ∃ v, qs[j]? = some (i, v) ∧ ValS w G v (ρ x)) → qs.length = ps.length → RepS w G X cs.toList → buildSV pl qs X = some Y →
    ∃ cs', Instr.fill pl cs (ps.map fun p => (p.1, ρ p.2)) = some cs' ∧ RepS w G Y cs'.toList
  | [], qs, cs, X, Y, _, hl, hX, hb => by
    cases qs with
    | nil => simp only [buildSV] at hb; cases hb; exact ⟨cs, rfl, hX⟩
    | cons q qs => simp at hl
  | (i, x) :: ps, qs, cs, X, Y, h, hl, hX, hb => by
    obtain ⟨v, h1, h2⟩ := h i x 0 rfl
    cases qs with
    | nil => simp at h1
    | cons q qs =>
      simp at h1; subst h1
      simp only [buildSV] at hb
      cases hpl : pl i with
      | none => rw [hpl] at hb; cases hb
      | some on =>
        obtain ⟨off, n⟩ := on
        rw [hpl] at hb
        simp only [] at hb
        cases hw : Nat.beq v.width n
        · rw [hw] at hb; cases hb
        · rw [hw] at hb
          simp only [cond_true] at hb
          cases hs : setS 8 X off v with
          | none => rw [hs] at hb; cases hb
          | some X' =>
            rw [hs] at hb
            simp only [] at hb
            have hv : RepS w G v (ρ x).cells.toList := h2.cells
            have hvl := RepS.len _ _ hv
            simp only [Array.length_toList] at hvl
            have hn := Nat.eq_of_beq_eq_true hw
            obtain ⟨m1, m2⟩ := wj hv 8 X cs.toList off X' hX hs
            simp only [Array.length_toList] at m2
            have e : (ρ x).cells.zipIdx.foldl (fun (cs : Array Value) (p : Value × Nat) => cs.setIfInBounds (off + p.2) p.1) cs = yQ cs off (ρ x).cells.toList := by
              rw [← Array.foldl_toList, Array.toList_zipIdx]
              exact wO _ cs off 0
            obtain ⟨cs', m3, m4⟩ := run_fillSV ps qs (yQ cs off (ρ x).cells.toList) X' Y (fun i x j hj => h i x (j + 1) (by simpa using hj)) (by simpa using hl)
              (by rw [yi _ _ _ (by simpa using m2)]; exact m1) hb
            refine ⟨cs', ?_, m4⟩
            simp only [List.map_cons, Instr.fill, hpl]
            rw [if_neg (by simp; omega)]
            rw [e]; exact m3
section
variable {C : Cx} {A : Nat → SV} {d : Nat} {ty : TypeId} {pos : String} {af : Array Edge} {gd : Option (Nat × Bool)} {x y : Operand} {T T' : TypeId}
theorem s_buildSV {fs : Array Field} {pl : List (Nat × Nat)} {parts : Array (Nat × Operand)} {X0 : AV} {Y : List SV} (hN : Nat.blt d C.N = true) (hz : yU C.P T X0) (hU : C.P.underlying T = some (.struct fs)) (hpl : xV C.P fs.toList = some pl)
    (hp : (opSv A parts.toList).all (fun p => p.2.slotty) = true) (hb : buildSV (pl[·]?) (opSv A parts.toList) (.imm X0) = some (.agg Y)) :
    zW C ⟨some d, .build T parts, ty, pos, af, gd⟩ (opPRs parts.toList) [] A [(d, .agg Y)] := by
  refine zW.value rfl hN fun A' G a w hR S => ?_
  rw [← opSv_congr hR] at hp hb
  obtain ⟨z, hz1, hz2⟩ := hz
  have hp' := List.all_eq_true.1 hp
  have h2 : ∀ i : Nat, ∀ x : Operand, ∀ j : Nat, parts.toList[j]? = some (i, x) → ∃ v, (opSv A' parts.toList)[j]? = some (i, v) ∧ ValS w G v (a.eval x) := by
    intro i x j hj
    refine ⟨opS A' x, by simp only [opSv, List.getElem?_map, hj, Option.map_some], ?_⟩
    have hs := hp' (i, opS A' x) (by simp only [opSv]; exact List.mem_map.2 ⟨(i, x), List.mem_of_getElem? hj, rfl⟩)
    exact wE hs (S.opS rfl (SV.slotty_res hs))
  obtain ⟨cs', h3, h4⟩ := run_fillSV (w := w) (G := G) (ρ := a.eval) parts.toList (opSv A' parts.toList) z.cells (.imm X0) (.agg Y) h2 (by simp [opSv]) (by simpa only [RepS] using xC X0 _ hz2) hb
  refine ⟨.agg cs', ?_, ⟨cs'.toList, h4, by simp [mkS, SV.isAgg]⟩⟩
  simp only [execOp, Instr.build, Sem.run_bind, yW hz1, Result.andThen_ok, zK hU, Sem.run_pure]
  rw [Array.mapM_eq_mapM_toList]
  simp only [Sem.run_map, run_places _ _ hpl, Result.andThen_ok]
  have e : (parts.map fun (p : Nat × Operand) => (p.1, a.eval p.2)).toList = parts.toList.map fun p => (p.1, a.eval p.2) := by simp
  simp only [e]
  have e2 : (fun (i : Nat) => (pl.toArray)[i]?) = (fun i => pl[i]?) := by funext i; simp
  simp only [e2, h3]
  rfl
theorem run_buildSlice1 {P : Program} {w : World} {T el : TypeId} {n : Nat} {z v : Value} (hT : P.underlying T = some (.slice el)) (hn : zq P el = some n) (hz : xT P el = some z) (hzn : z.cells.size = n) (h0 : 0 < n) (hb : n ≤ 16777216) (hv : v.cells.size = n) :
    (Instr.buildSlice T 1 #[(0, v)]).run P w = .ok (.slice (some ⟨w.heap.size, 0, none⟩) 1 1) (w.alloc (.cells v.cells el)) := by
  have hcs : ((Array.range (1 * n)).map (z.cells[· % z.cells.size]!)).size = n := by simp
  have hne : ¬ (1 * n = 0) := by omega
  simp only [Instr.buildSlice, Sem.run_bind, zK hT, Result.andThen_ok, zm hn]
  rw [if_neg (by omega)]
  simp only [Sem.run_bind, Sem.run_pure, Result.andThen_ok, hne, if_false, yW hz]
  have e : v.cells.zipIdx.foldl (fun (cs : Array Value) (p : Value × Nat) => cs.setIfInBounds (0 * n + p.2) p.1) ((Array.range (1 * n)).map (z.cells[· % z.cells.size]!)) = v.cells := by
    rw [← Array.foldl_toList, Array.toList_zipIdx, wO]
    apply Array.ext'
    rw [yi _ _ _ (by rw [hcs, Array.length_toList]; omega)]
    simp [hv]
  have hf : Instr.fill (fun i => some (i * n, n)) ((Array.range (1 * n)).map (z.cells[· % z.cells.size]!)) [(0, v)] = some v.cells := by
    simp only [Instr.fill]
    rw [if_neg (by rw [hv]; simp), e]
  simp only [hf]
  simp only [Sem.run_bind, newRow, run_newObj, Result.andThen_ok, Sem.run_pure]
  rfl
theorem s_buildOwn1 (g : Nat) {el : TypeId} {n : Nat} {X0 : AV} {Y : SV} (hgN : Nat.ble C.N g = true) (hgK : Nat.blt g C.K = true) (hN : Nat.blt d C.N = true) (hT : C.P.underlying T = some (.slice el)) (hn : zq C.P el = some n) (hz : yU C.P el X0) (hX : Nat.beq X0.width n = true)
    (h0 : Nat.blt 0 n = true) (hb : Nat.ble n 16777216 = true) (hy : opS A x = Y) (hs : Y.slotty = true) (hw : Nat.beq Y.width n = true) (hf : noG [g] Y = true) :
    zW C ⟨some d, .buildSlice T 1 #[(0, x)], ty, pos, af, gd⟩ (opR x) [g] A [(g, .box el Y), (d, .osl g 0 1 1)] := by
  intro A' a w hR hF ⟨G, S⟩
  have hN' : d < C.N := by simpa [Nat.blt_eq] using hN
  have hgd : g ≠ d := by have := Nat.le_of_ble_eq_true hgN; omega
  have hv : ValS w G Y (a.eval x) := wE hs (S.opS ((zz hR).trans hy) (SV.slotty_res hs))
  obtain ⟨z, hz1, hz2⟩ := hz
  have hzl : z.cells.size = n := by
    have := RepC.len X0 _ (xC (w := w) (I := G.I) X0 _ hz2)
    rw [← Array.length_toList, this]; exact Nat.eq_of_beq_eq_true hX
  have hvc := hv.cells
  have hvl : (a.eval x).cells.size = n := by
    have := RepS.len _ _ hvc
    rw [← Array.length_toList, this]; exact Nat.eq_of_beq_eq_true hw
  have k1 := run_buildSlice1 (w := w) hT hn hz1 hzl (by simpa [Nat.blt_eq] using h0) (Nat.le_of_ble_eq_true hb) hvl
  have hb1 := S.allocBox (T := el) (cs := (a.eval x).cells) hgd (by simpa [Nat.blt_eq] using hgK) hN' hvc hf (fun k hk => hF k (by simpa only [has] using hk))
  obtain ⟨G1, S1⟩ := hb1
  have hgA : G1.blk g = w.heap.size := by
    have h1 := S1.holds d
    have e : upd A' [(g, .box el Y), (d, .ptr g 0)] d = .ptr g 0 := by simp only [upd]; rw [zJ hgd]; simp
    rw [e] at h1
    obtain ⟨_, c, h2, h3⟩ := h1
    simp only [RepS] at h2
    rw [h2] at h3
    have e2 : (a.put (some d) (.pointer (some ⟨w.heap.size, 0, none⟩))).tmps.getD d Go.undef = .pointer (some ⟨w.heap.size, 0, none⟩) := by simp [Act.put, S.nts, hN']
    rw [e2] at h3
    simp only [mkS, SV.isAgg, Bool.false_eq_true, if_false, List.headD_cons, Value.pointer.injEq, Option.some.injEq, Addr.mk.injEq] at h3
    exact h3.1.symm
  unfold Oper.wp
  have hrun : (execOp a.eval ⟨some d, .buildSlice T 1 #[(0, x)], ty, pos, af, gd⟩).run C.P w = .ok (.value (.slice (some ⟨w.heap.size, 0, none⟩) 1 1)) (w.alloc (.cells (a.eval x).cells el)) := by
    simp only [execOp, Sem.run_bind]
    have e : (#[(0, x)] : Array (Nat × Operand)).map (fun (p : Nat × Operand) => (p.1, a.eval p.2)) = #[(0, a.eval x)] := by simp
    simp only [e, k1, Result.andThen_ok, Sem.run_pure]
  rw [hrun, Oper.upon_value]
  have S2 := S1.put (d := d) hN' (x := .osl g 0 1 1) (v := .slice (some ⟨w.heap.size, 0, none⟩) 1 1) ⟨[.slice (some ⟨w.heap.size, 0, none⟩) 1 1], by simp only [RepS, hgA], rfl⟩
  have hu : upd (upd A' [(g, .box el Y), (d, .ptr g 0)]) [(d, .osl g 0 1 1)] = upd A' [(g, .box el Y), (d, .osl g 0 1 1)] := by
    funext k
    simp only [upd]
    by_cases h1 : g = k
    · subst h1; rw [zJ (Ne.symm hgd), Nat.beq_refl]; rfl
    · rw [zJ h1]
      by_cases h2 : d = k
      · subst h2; rw [Nat.beq_refl]; rfl
      · rw [zJ h2]; rfl
  rw [hu, Act.put_put] at S2
  exact ⟨G1, S2⟩
end
end Go.Al
namespace Go.Al
open Go.RowKit
def resX (e : List AV) (b : Nat) : AV := .agg [.sl 7 e, .v (.slice (some ⟨b, 0, none⟩) 1 1)]
def wB (l : List AV) : List AV := l.map fun _ => .agg []
theorem repM_unitsA {w : World} {I : Nat → Nat → Prop} : ∀ (l : List AV) (b o : Nat), RepM w I 0 (wB l) b o
  | [], _, _ => by simp only [wB, List.map_nil, RepM]
  | x :: l, b, o => by
    simp only [wB, List.map_cons, RepM]
    exact ⟨⟨[], rfl, by simp only [RepC, y_], fun j hj => absurd hj (by simp)⟩, repM_unitsA l b (o + 0)⟩
def ZF (T : TypeId) (n b : Nat) : Nat → Value → Nat → HRes := fun _ _ _ =>
  { own := fun c => c = b
    ok := fun w I => ScOk T n w I b (.slice none 0 0) []
    keep := fun w I w' I' h hle ho => h.keep hle fun c hc => ho c (hc.elim id (fun h => by cases h))
    kind := fun w I c o h hc ho => by
      subst hc
      obtain ⟨_, ⟨fr, h2, _⟩, _⟩ := h
      rw [h2] at ho; cases ho; rfl }
def OutF (T : TypeId) (n : Nat) (rows e : List AV) : Nat → Value → Nat → HRes := fun blk cur len =>
  { own := fun c => c = blk ∨ c ∈ hdrB cur
    ok := fun w I => ScOk T n w I blk (.slice none 0 0) [] ∧ len = rows.length + 1 ∧ TokS w (fun _ => True) I w cur 2 (rows ++ [resX e blk]) ∧ blk ∉ hdrB cur
    keep := fun w I w' I' h hle ho => ⟨h.1.keep hle fun c hc => ho c (.inl (hc.elim id (fun h => by cases h))), h.2.1, h.2.2.1.keep hle fun c hc => ho c (.inr hc), h.2.2.2⟩
    kind := fun w I c o h hc ho => by
      rcases hc with rfl | hc
      · obtain ⟨_, ⟨fr, h2, _⟩, _⟩ := h.1
        rw [h2] at ho; cases ho; rfl
      · exact h.2.2.1.kind hc ho }
def zSc : AV := .agg [.v (.string .empty), .v (.string .empty), .v (.slice none 0 0)]
section
variable {C : Cx} {A : Nat → SV} {d : Nat} {ty : TypeId} {pos : String} {af : Array Edge} {gd : Option (Nat × Bool)} {T T' : TypeId}
theorem s_appendG (go' m : Nat) {kx ky go gz gx by_ : Nat} {rows e : List AV} {TS TR el T1 : TypeId} {z : Value}
    (hN : Nat.blt d C.N = true) (hkx : Nat.blt kx C.N = true) (hky : Nat.blt ky C.N = true) (hxy : Nat.beq kx ky = false) (hdy : Nat.beq d ky = false) (hgs : [go', go, gz, gx].all (Nat.ble C.N ·) = true) (hgK : Nat.blt go' C.K = true) (hdis : yI [go', go, gz, gx] = true)
    (hx : A kx = .slg go 2 rows) (hg : A go = .tok 2 rows) (hy : A ky = .osl gx 0 1 1) (hgx : A gx = .box TR (.agg [.imm (.sl 7 e), .osl gz 0 1 1])) (hgz : A gz = .box TS (.imm zSc))
    (hT : C.P.underlying T = some (.slice el)) (hT' : C.P.underlying T' = some (.slice T1)) (hn : zq C.P el = some 2) (hz : xT C.P el = some z) (hzn : z.cells.size = 2) (hb : (C.P.info? el).map (·.bytes) = some by_)
    (hB : (2 * (rows.length + 1) + 192) * by_ ≤ 281474976710656) (hL : rows.length + 1 < 9223372036854775808) :
    zW C ⟨some d, .call { callee := .builtin .append, args := #[.tmp kx, .tmp ky], argTypes := #[T, T'] }, ty, pos, af, gd⟩ [kx, ky, go, gz, gx] [go'] A
      [(go', .gen (OutF TS m rows e)), (d, .slg go' 0 (wB (rows ++ [.agg []]))), (go, .dead), (gz, .dead), (gx, .dead), (ky, .dead)] := by
  intro A' a w hR hF ⟨G, S⟩
  have hx : A' kx = _ := (hR kx (by simp)).trans hx
  have hg : A' go = _ := (hR go (by simp)).trans hg
  have hy : A' ky = _ := (hR ky (by simp)).trans hy
  have hgx : A' gx = _ := (hR gx (by simp)).trans hgx
  have hgz : A' gz = _ := (hR gz (by simp)).trans hgz
  simp only [List.all_cons, List.all_nil, Bool.and_eq_true, Bool.and_true] at hgs
  obtain ⟨n1, n2, n3, n4⟩ := hgs
  have n1 := Nat.le_of_ble_eq_true n1; have n2 := Nat.le_of_ble_eq_true n2; have n3 := Nat.le_of_ble_eq_true n3; have n4 := Nat.le_of_ble_eq_true n4
  have hdN : d < C.N := by simpa [Nat.blt_eq] using hN
  have hkxN : kx < C.N := by simpa [Nat.blt_eq] using hkx
  have hkyN : ky < C.N := by simpa [Nat.blt_eq] using hky
  have hg'K : go' < C.K := by simpa [Nat.blt_eq] using hgK
  have hxy' : kx ≠ ky := fun h => by rw [h, Nat.beq_refl] at hxy; cases hxy
  have hdy' : d ≠ ky := fun h => by rw [h, Nat.beq_refl] at hdy; cases hdy
  simp only [yI, List.elem_eq_mem, List.mem_cons, List.not_mem_nil, or_false, Bool.and_eq_true, Bool.not_eq_true', qb, not_or, not_false_eq_true, and_true, decide_false, Bool.not_false] at hdis
  obtain ⟨⟨d1, d2, d3⟩, ⟨d4, d5⟩, d6⟩ := hdis
  -- the row of one resource is shared
  have hbx := S.holds gx
  rw [hgx] at hbx
  simp only [Holds] at hbx
  obtain ⟨how, ⟨cs, fr, hb0, hrep, huf⟩, hni⟩ := hbx
  have hrepx := hrep
  simp only [RepS, yc] at hrep
  obtain ⟨c1, c2, hcs, hr1, c3, c4, hc34, hr3, hr4⟩ := hrep
  subst hr4 hr3
  have hc1l : c1.length = 1 := RepC.len _ _ hr1
  obtain ⟨S1, hle1, hcells⟩ := S.giveUp fr hgx hb0
  rw [setBlk_same hb0] at S1 hle1 hcells
  obtain ⟨I1, hI1⟩ : ∃ I1, I1 = fun b o => G.I b o ∨ (b = G.blk gx ∧ o < cs.size) := ⟨_, rfl⟩
  rw [← hI1] at S1 hle1 hcells
  have hcsl : cs.toList.length = 2 := by rw [hcs, hc34]; simp [hc1l]
  have hX : RepC w I1 (resX e (G.blk gz)) cs.toList := by
    simp only [resX, RepC, y_]
    exact ⟨c1, c2, hcs, RepC.mono hle1 _ _ hr1, c2, [], by simp, by rw [hc34]; simp [Value.cells, plain], rfl⟩
  let G1 : Gh := { G with I := I1 }
  let A2 : Nat → SV := upd A' [(ky, .imm (.sl 2 [resX e (G.blk gz)])), (gz, .gen (ZF TS m (G.blk gz))), (gx, .dead)]
  have hA2 : ∀ k, k ≠ ky → k ≠ gz → k ≠ gx → A2 k = A' k := fun k h1 h2 h3 => xq (by simp [yl, h1, h2, h3])
  have hA2y : A2 ky = .imm (.sl 2 [resX e (G.blk gz)]) := by simp [A2, upd]
  have hA2z : A2 gz = .gen (ZF TS m (G.blk gz)) := by simp [A2, upd, zJ (show ky ≠ gz by omega)]
  have hA2x : A2 gx = .dead := by simp [A2, upd, zJ (show ky ≠ gx by omega), zJ d6]
  have hbz := S1.holds gz
  rw [xq (by simpa [yl] using d6), hgz] at hbz
  simp only [Holds, BoxS] at hbz
  obtain ⟨zow, ⟨zcs, zfr, zb, zrep, zuf⟩, zni⟩ := hbz
  have hzcs : zcs = #[.string .empty, .string .empty, .slice none 0 0] := by
    simp only [RepS, zSc, RepC, y_] at zrep
    obtain ⟨z1, z2, e1, ⟨e2, _⟩, z3, z4, e3, ⟨e4, _⟩, z5, z6, e5, ⟨e6, _⟩, e7⟩ := zrep
    apply Array.ext'
    rw [e1, e2, e3, e4, e5, e6, e7]; rfl
  subst hzcs
  have S2 : SimG C A2 G1 a w := by
    refine S1.tellKs [ky, gz] [] (Le.refl _ _) (GRel.refl _) (fun g _ => ⟨rfl, .inl ⟨rfl, rfl⟩⟩) (fun k hk => ⟨?_, rfl, rfl, rfl⟩) (fun k _ => yu.1 _) (fun b o h => .inl h) ?_ ?_ ?_
    · simp only [List.mem_cons, List.not_mem_nil, or_false, not_or] at hk
      by_cases h : k = gx
      · subst h; rw [hA2x]; simp [upd]
      · rw [hA2 k hk.1 hk.2 h, xq (by simpa [yl] using h)]
    · intro k hk b hb
      simp only [List.mem_cons, List.not_mem_nil, or_false] at hk
      rcases hk with rfl | rfl
      · rw [hA2y] at hb; simp only [zN] at hb
      · rw [hA2z] at hb
        simp only [zN, ZF] at hb
        refine ⟨k, by simp, ?_⟩
        rw [xq (by simpa [yl] using d6), hgz]; exact hb.symm
    · intro k hk
      simp only [List.mem_cons, List.not_mem_nil, or_false] at hk
      rcases hk with rfl | rfl
      · rw [hA2y]
        have hs := S1.holds k
        rw [xq (by simp [yl]; omega), hy] at hs
        simp only [Holds] at hs ⊢
        refine ⟨hs.1, ?_⟩
        obtain ⟨c, q1, q2⟩ := hs.2
        simp only [RepS] at q1
        rw [q2, q1]
        refine ⟨_, ?_, rfl⟩
        simp only [RepS, RepC]
        refine ⟨_, rfl, .inr ⟨G.blk gx, 0, 1, rfl, Nat.le_refl _, by unfold maxLen; omega, ?_⟩⟩
        simp only [RepM]
        exact ⟨⟨cs.toList, hcsl, hX, hcells⟩, trivial⟩
      · rw [hA2z]
        simp only [Holds, ZF]
        refine ⟨fun b hb => by subst hb; exact zow, zow.2, ⟨zfr, zb, zuf⟩, zni, .inl ⟨rfl, rfl⟩⟩
    · intro k j b hk hj hkj h1 h2
      simp only [List.mem_cons, List.not_mem_nil, or_false] at hk hj
      rcases hk with rfl | rfl
      · rw [hA2y] at h1; simp only [zN] at h1
      · rcases hj with rfl | rfl
        · rw [hA2y] at h2; simp only [zN] at h2
        · exact hkj rfl
  have step := yH (C := C) (A := A2) (d := d) (x := .tmp kx) (y := .tmp ky) (T := T) (T' := T') (ty := ty) (pos := pos) (af := af) (gd := gd) (g := go) (n := 2) (l := rows) (m := [resX e (G.blk gz)]) (z := z) (Nat.ble_eq_true_of_le n2) hN
    (by simp only [opS]; rw [hA2 kx hxy' (by omega) (by omega)]; exact hx) (by rw [hA2 go (by omega) d4 d5]; exact hg) (by simp only [opV, opS]; rw [hA2y]) hT hT' hn hz hzn (by decide) hb (by simpa using hB) (by simpa using hL)
  refine Oper.wp_mono (fun a' w' h => ?_) (step A2 a w (fun k _ => rfl) (fun k _ => yu.1 _) ⟨_, S2⟩)
  obtain ⟨G2, S3⟩ := h
  obtain ⟨b, hbdef⟩ : ∃ b, b = G.blk gz := ⟨_, rfl⟩
  rw [← hbdef] at S3 hA2z hA2y
  obtain ⟨A3, hA3⟩ : ∃ A3, A3 = upd A2 [(go, .tok 2 (rows ++ [resX e b])), (d, .slg go 2 (rows ++ [resX e b]))] := ⟨_, rfl⟩
  rw [← hA3] at S3
  have h3o : A3 go = .tok 2 (rows ++ [resX e b]) := by rw [hA3]; simp [upd]
  have h3d : A3 d = .slg go 2 (rows ++ [resX e b]) := by rw [hA3]; simp [upd, zJ (show go ≠ d by omega)]
  have h3z : A3 gz = .gen (ZF TS m b) := by rw [hA3, xq (by simp [yl]; omega)]; exact hA2z
  have h3 : ∀ k, k ∉ [go', d, go, gz, gx, ky] → A3 k = A' k := by
    intro k hk
    simp only [List.mem_cons, List.not_mem_nil, or_false, not_or] at hk
    rw [hA3, xq (by simp [yl, hk.2.1, hk.2.2.1]), hA2 k hk.2.2.2.2.2 hk.2.2.2.1 hk.2.2.2.2.1]
  have hto := S3.holds go
  rw [h3o] at hto
  simp only [Holds] at hto
  have htz := S3.holds gz
  rw [h3z] at htz
  simp only [Holds, ZF] at htz
  have htd := S3.holds d
  rw [h3d] at htd
  simp only [Holds] at htd
  obtain ⟨hto1, hto2⟩ := hto
  obtain ⟨hs1, hs2⟩ := hto2.own
  have hsep : b ∉ hdrB (G2.cur go) := fun h => by
    obtain ⟨ad, n', c, e1, e2⟩ := hdrB_mem h
    exact S3.apart gz go b (Ne.symm d4) (by rw [h3z]; rfl) (by rw [h3o]; exact ⟨ad, n', c, e1, e2⟩)
  let G3 : Gh := { G2 with blk := fun k => if k = go' then b else G2.blk k, cur := fun k => if k = go' then G2.cur go else G2.cur k, len := fun k => if k = go' then G2.len go else G2.len k }
  have hP : ∀ k, k ∉ [go', d, go, gz, gx, ky] → upd A' [(go', .gen (OutF TS m rows e)), (d, .slg go' 0 (wB (rows ++ [.agg []]))), (go, .dead), (gz, .dead), (gx, .dead), (ky, .dead)] k = A' k := fun k hk => xq (by simpa [yl] using hk)
  have p1 : upd A' [(go', .gen (OutF TS m rows e)), (d, .slg go' 0 (wB (rows ++ [.agg []]))), (go, .dead), (gz, .dead), (gx, .dead), (ky, .dead)] go' = .gen (OutF TS m rows e) := by simp [upd]
  have p2 : upd A' [(go', .gen (OutF TS m rows e)), (d, .slg go' 0 (wB (rows ++ [.agg []]))), (go, .dead), (gz, .dead), (gx, .dead), (ky, .dead)] d = .slg go' 0 (wB (rows ++ [.agg []])) := by simp [upd, zJ (show go' ≠ d by omega)]
  have p3 : ∀ k, k ∈ [go, gz, gx, ky] → upd A' [(go', .gen (OutF TS m rows e)), (d, .slg go' 0 (wB (rows ++ [.agg []]))), (go, .dead), (gz, .dead), (gx, .dead), (ky, .dead)] k = .dead := by
    intro k hk
    simp only [List.mem_cons, List.not_mem_nil, or_false] at hk
    have hq1 : go' ≠ k := by rcases hk with rfl | rfl | rfl | rfl <;> first | assumption | omega
    have hq2 : d ≠ k := by rcases hk with rfl | rfl | rfl | rfl <;> first | assumption | omega
    simp only [upd, zJ hq1, zJ hq2, cond_false]
    by_cases e1 : go = k
    · subst e1; simp
    rw [zJ e1]
    by_cases e2 : gz = k
    · subst e2; simp
    rw [zJ e2]
    by_cases e3 : gx = k
    · subst e3; simp
    rw [zJ e3]
    have e4 : ky = k := by rcases hk with h | h | h | h <;> first | exact h.symm | exact absurd h.symm (by assumption)
    subst e4; simp
  have hs3 : ∀ k, k ∈ [go', d, go, gz, gx, ky] → k = go' ∨ k = d ∨ k ∈ [go, gz, gx, ky] := fun k hk => by
    simp only [List.mem_cons, List.not_mem_nil, or_false] at hk ⊢; omega
  have own3 : ∀ k, k ∈ [go', d, go, gz, gx, ky] → ∀ c, zN G3 k c (upd A' [(go', .gen (OutF TS m rows e)), (d, .slg go' 0 (wB (rows ++ [.agg []]))), (go, .dead), (gz, .dead), (gx, .dead), (ky, .dead)] k) → k = go' ∧ (c = b ∨ c ∈ hdrB (G2.cur go)) := by
    intro k hk c hc
    rcases hs3 k hk with rfl | rfl | h
    · rw [p1] at hc
      simp only [zN, OutF, G3, if_true] at hc
      exact ⟨rfl, hc⟩
    · rw [p2] at hc; simp only [zN] at hc
    · rw [p3 k h] at hc; simp only [zN] at hc
  refine ⟨G3, S3.tellKs [go', d, go, gz, gx, ky] [go'] (Le.refl _ _) (fun k hk => ?_) (fun g hgK => ?_) (fun k hk => ?_) (fun k hk => ?_) (fun _ _ h => .inl h) ?_ ?_ ?_⟩
  · have : k ≠ go' := by simpa using hk
    exact ⟨by simp only [G3, if_neg this], .inl ⟨by simp only [G3, if_neg this], by simp only [G3, if_neg this]⟩⟩
  · have : g ≠ go' := by omega
    exact ⟨by simp only [G3, if_neg this], .inl ⟨by simp only [G3, if_neg this], by simp only [G3, if_neg this]⟩⟩
  · have : k ≠ go' := fun h => hk (by simp [h])
    exact ⟨by rw [hP k hk, h3 k hk], by simp only [G3, if_neg this], by simp only [G3, if_neg this], by simp only [G3, if_neg this]⟩
  · rw [h3 k hk]
    exact hF k (has_off (by simpa [yl] using hk))
  · intro k hk c hc
    obtain ⟨rfl, h | h⟩ := own3 k hk c hc
    · exact ⟨gz, by simp, by rw [h3z]; exact h⟩
    · exact ⟨go, by simp, by rw [h3o]; exact hdrB_mem h⟩
  · intro k hk
    rcases hs3 k hk with rfl | rfl | h
    · rw [p1]
      simp only [Holds, OutF, G3, if_true]
      refine ⟨fun c hc => ?_, htz.2, by rw [hto1]; simp, hs1, hsep⟩
      rcases hc with rfl | hc
      · exact htz.1 _ rfl
      · exact hs2 c hc
    · rw [p2]
      simp only [Holds]
      refine ⟨htd.1, ?_⟩
      obtain ⟨c, ⟨v, rfl, q1, q2, q3⟩, q4⟩ := htd.2
      have hlen : (wB (rows ++ [AV.agg []])).length = (rows ++ [resX e b]).length := by simp [wB]
      refine ⟨[v], ?_, q4⟩
      simp only [RepS]
      refine ⟨v, rfl, ?_, by rw [hlen]; simpa only [G3, if_true] using q2, by rw [hlen]; simpa only [G3, if_true] using q3⟩
      simp only [RepC] at q1 ⊢
      obtain ⟨v', e0, q1⟩ := q1
      cases e0
      rcases q1 with ⟨p, cap, _, h, _⟩ | ⟨bb, o, cap, e1, e2, e3, _⟩
      · exact absurd h (by simp)
      · exact ⟨_, rfl, .inr ⟨bb, o, cap, by rw [hlen]; exact e1, by rw [hlen]; exact e2, e3, repM_unitsA _ _ _⟩⟩
    · rw [p3 k h]; simp only [Holds]
  · intro k j c hk hj hkj h1 h2
    exact hkj ((own3 k hk c h1).1.trans (own3 j hj c h2).1.symm)
end
end Go.Al
namespace Go.Al
open Go.RowKit
theorem lt_keep {w w' : World} {b : Nat} (h : w'.heap[b]? = w.heap[b]?) (hb : b < w.heap.size) : b < w'.heap.size := by
  rw [Array.getElem?_eq_getElem hb] at h
  exact (Array.getElem?_eq_some_iff.1 h).1
theorem Holds.keepT {G G' : Gh} {w w' : World} {k : Nat} {x : SV} (hx : x.res = true) (h : Holds w (fun _ => True) G act0 w k x)
    (hle : Le w G.I w' G'.I) (hg : GRel [] G G') (hk : G'.blk k = G.blk k ∧ G'.cur k = G.cur k ∧ G'.len k = G.len k)
    (ho : ∀ b, zN G k b x → w'.heap[b]? = w.heap[b]? ∧ ∀ o, G'.I b o → G.I b o) : Holds w' (fun _ => True) G' act0 w' k x := by
  obtain ⟨e1, e2, e3⟩ := hk
  cases x <;> first | cases hx | skip
  all_goals simp only [Holds] at h ⊢
  case box T x =>
    obtain ⟨h1, ⟨cs, fr, h2, h3, h4⟩, h5⟩ := h
    obtain ⟨k2, k3⟩ := ho (G.blk k) (by simp [zN])
    rw [e1]
    exact ⟨⟨.inr trivial, lt_keep k2 h1.2⟩, ⟨cs, fr, by rw [k2]; exact h2, RepS.mono hle hg _ _ (yu.1 _) h3, h4⟩, fun o hi => h5 o (k3 o hi)⟩
  case tok n l =>
    rw [e2, e3]
    refine ⟨h.1, ?_⟩
    rcases h.2 with h' | ⟨b, cap, h1, h2, h3, h4, h5, ⟨cs, T, fr, h6, h7, h8⟩, h9⟩
    · exact .inl h'
    · obtain ⟨e4, e5⟩ := ho b ⟨⟨b, 0, none⟩, _, _, h1, rfl⟩
      exact .inr ⟨b, cap, h1, h2, h3, RepM.mono hle n l b 0 h4, ⟨.inr trivial, lt_keep e4 h5.2⟩, ⟨cs, T, fr, by rw [e4]; exact h6, h7, h8⟩, fun o ho' hi => h9 o ho' (e5 o hi)⟩
  case row l =>
    rw [e2, e3]
    refine ⟨h.1, ?_⟩
    rcases h.2 with h' | ⟨b, cap, h1, h2, h3, h4, ⟨cs, T, h5, h6, h7⟩, h8⟩
    · exact .inl h'
    · obtain ⟨e4, e5⟩ := ho b ⟨⟨b, 0, none⟩, _, _, h1, rfl⟩
      exact .inr ⟨b, cap, h1, h2, h3, ⟨.inr trivial, lt_keep e4 h4.2⟩, ⟨cs, T, by rw [e4]; exact h5, h6, h7⟩, fun o hi => h8 o (e5 o hi)⟩
  case mpr ks vs =>
    obtain ⟨h1, ⟨es, h2, h3, h4, h5⟩, h6⟩ := h
    obtain ⟨k2, k3⟩ := ho (G.blk k) (by simp [zN])
    rw [e1]
    exact ⟨⟨.inr trivial, lt_keep k2 h1.2⟩, ⟨es, by rw [k2]; exact h2, h3, zx.mono hle _ _ h4, zx.mono hle _ _ h5⟩, fun o hi => h6 o (k3 o hi)⟩
  case gen R =>
    rw [e1, e2, e3]
    exact ⟨fun b hb => ⟨.inr trivial, lt_keep (ho b (by simpa only [zN] using hb)).1 (h.1 b hb).2⟩, (R _ _ _).keep _ _ _ _ h.2 hle fun b hb => ho b (by simpa only [zN] using hb)⟩
  case itr m n seen =>
    obtain ⟨h1, h2, h3⟩ := h
    obtain ⟨k2, k3⟩ := ho (G.blk k) (by simp [zN])
    have e4 := (hg m (by simp)).1
    rw [e1, e4]
    exact ⟨⟨.inr trivial, lt_keep k2 h1.2⟩, by rw [k2]; exact h2, fun o hi => h3 o (k3 o hi)⟩
def decB : Value → Nat
  | .pointer (some a) => a.block
  | _ => 0
def decN : Value → Nat
  | .int _ n => n.toNat
  | _ => 0
def vAt (v : Value) (i : Nat) : Value := (tupV v).getD i Go.undef
def gBs (cur : Value) : List Nat := (tupV (vAt cur 4)).map decB
def gGh (I : Nat → Nat → Prop) (blk : Nat) (cur : Value) : Gh :=
  ⟨I, fun k => if k = 0 then blk else decB (vAt cur 0), fun k => if k = 2 then vAt cur 1 else vAt cur 2, fun _ => decN (vAt cur 3)⟩
def xX (es : List (List AV)) (bs : List Nat) : List AV := List.zipWith resX es bs
def gSt (TG TS n : Nat) (keys : List ByteArray) (nums : List AV) (es ls : List (List AV)) (bs : List Nat) : Nat → SV
  | 0 => .box TG (.agg [.mref 1, .slg 2 2 (xX es bs)])
  | 1 => .mpr (strs keys) nums
  | 2 => .tok 2 (xX es bs)
  | _ => .gen (ScF TS n bs ls bs.length)
theorem gSt_res {TG TS n : Nat} {keys : List ByteArray} {nums : List AV} {es ls : List (List AV)} {bs : List Nat} (k : Nat) : (gSt TG TS n keys nums es ls bs k).res = true := by
  unfold gSt; split <;> rfl
theorem owns_gGh {I I' : Nat → Nat → Prop} {blk : Nat} {cur : Value} {k b : Nat} {x : SV} : zN (gGh I blk cur) k b x ↔ zN (gGh I' blk cur) k b x := by
  cases x <;> exact Iff.rfl
def GrpF (TG TS n : Nat) (keys : List ByteArray) (nums : List AV) (es ls : List (List AV)) : Nat → Value → Nat → HRes := fun blk cur _ =>
  { own := fun b => ∃ k, k < 4 ∧ zN (gGh (fun _ _ => False) blk cur) k b (gSt TG TS n keys nums es ls (gBs cur) k)
    ok := fun w I => (gBs cur).length = es.length ∧ (∀ k, k < 4 → Holds w (fun _ => True) (gGh I blk cur) act0 w k (gSt TG TS n keys nums es ls (gBs cur) k)) ∧
      ∀ k j b, k < 4 → j < 4 → k ≠ j → zN (gGh (fun _ _ => False) blk cur) k b (gSt TG TS n keys nums es ls (gBs cur) k) → zN (gGh (fun _ _ => False) blk cur) j b (gSt TG TS n keys nums es ls (gBs cur) j) → False
    keep := fun w I w' I' h hle ho => ⟨h.1, fun k hk => (h.2.1 k hk).keepT (G' := gGh I' blk cur) (gSt_res k) hle (fun _ _ => ⟨rfl, .inl ⟨rfl, rfl⟩⟩) ⟨rfl, rfl, rfl⟩ fun b hb => ho b ⟨k, hk, owns_gGh.1 hb⟩, h.2.2⟩
    kind := fun w I b o h ⟨k, hk, hb⟩ ho => (h.2.1 k hk).kind (owns_gGh.1 hb) ho }
theorem lt4 {k : Nat} (h : k < 4) : k = 0 ∨ k = 1 ∨ k = 2 ∨ k = 3 := by omega
section
variable {C : Cx} {c : Code} {st : St} {Q : Exit → St → Prop}
theorem aw_newSc (gs T n : Nat) (hgN : Nat.ble C.N gs = true) (hgK : Nat.blt gs C.K = true) (hf : xz [gs] st = true) (h : AW C c ((gs, .gen (ScF T n [] [] 0)) :: st) Q) : AW C c st Q := by
  intro a w ⟨G, S⟩
  have hK : gs < C.K := by simpa [Nat.blt_eq] using hgK
  let G' : Gh := { G with cur := fun k => if k = gs then .tuple #[] else G.cur k }
  have hoff : ∀ k, k ≠ gs → G'.blk k = G.blk k ∧ G'.cur k = G.cur k ∧ G'.len k = G.len k := fun k hk => ⟨rfl, by simp only [G', if_neg hk], rfl⟩
  have hu : upd (look st) [(gs, .gen (ScF T n [] [] 0))] gs = .gen (ScF T n [] [] 0) := by simp [upd]
  have hno : ∀ b, ¬ zN G' gs b (.gen (ScF T n [] [] 0)) := by
    rintro b ⟨j, c, v, h1, _⟩
    simp at h1
  have S' : SimG C (upd (look st) [(gs, .gen (ScF T n [] [] 0))]) G' a w := by
    refine S.tellKs [gs] [gs] (Le.refl _ _) (fun k hk => ?_) (fun g hg => ?_) (fun k hk => ?_) (fun k hk => xJ st hf k) (fun _ _ h => .inl h) ?_ ?_ ?_
    · obtain ⟨e1, e2, e3⟩ := hoff k (by simpa using hk)
      exact ⟨e1, .inl ⟨e2, e3⟩⟩
    · obtain ⟨e1, e2, e3⟩ := hoff g (by omega)
      exact ⟨e1, .inl ⟨e2, e3⟩⟩
    · exact ⟨xq (by simpa [yl] using hk), hoff k (by simpa using hk)⟩
    · intro k hk b hb
      rw [List.mem_singleton.1 hk, hu] at hb
      exact absurd hb (hno b)
    · intro k hk
      rw [List.mem_singleton.1 hk, hu]
      simp only [Holds]
      refine ⟨fun b hb => absurd hb (hno b), ?_⟩
      simp only [ScF, G', if_true]
      exact ⟨rfl, rfl, fun j c v l _ h => by simp at h, fun c h => by simp at h, fun j k c c' v v' b _ h => by simp at h, fun j c v _ h => by simp at h⟩
    · intro k j b hk hj hkj
      exact absurd ((List.mem_singleton.1 hk).trans (List.mem_singleton.1 hj).symm) hkj
  rw [xY] at S'
  exact h a w ⟨G', S'⟩
end
end Go.Al
namespace Go.Al
open Go.RowKit
def gNames (g gm go gs : Nat) : Nat → Nat
  | 0 => g
  | 1 => gm
  | 2 => go
  | _ => gs
def gPut (TG TS n : Nat) (keys : List ByteArray) (nums : List AV) (es ls : List (List AV)) (bs : List Nat) (g gm go gs : Nat) : St :=
  [(g, .box TG (.agg [.mref gm, .slg go 2 (xX es bs)])), (gm, .mpr (strs keys) nums), (go, .tok 2 (xX es bs)), (gs, .gen (ScF TS n bs ls bs.length))]
def dis4 (g gm go gs : Nat) : Bool := yI [g, gm, go, gs]
theorem dis4_ne {g gm go gs : Nat} (h : dis4 g gm go gs = true) : (g ≠ gm ∧ g ≠ go ∧ g ≠ gs) ∧ (gm ≠ go ∧ gm ≠ gs) ∧ go ≠ gs := by
  unfold dis4 at h
  simp only [yI, List.elem_eq_mem, List.mem_cons, List.not_mem_nil, or_false, Bool.and_eq_true, Bool.not_eq_true', qb, not_or, not_false_eq_true, and_true, decide_false, Bool.not_false] at h
  exact h
section
variable {C : Cx} {c : Code} {st : St} {Q : Exit → St → Prop} {TG TS n : Nat} {keys : List ByteArray} {nums : List AV} {es ls : List (List AV)}
theorem SimG.openG {A : Nat → SV} {G : Gh} {a : Act} {w : World} (S : SimG C A G a w) (g gm go gs : Nat) (hd : dis4 g gm go gs = true) (hK : gm < C.K ∧ go < C.K ∧ gs < C.K)
    (hg : A g = .gen (GrpF TG TS n keys nums es ls)) (hf : ∀ k, k ∉ [g, gm, go, gs] → noG [gm, go, gs] (A k) = true) :
    ∃ bs G', bs.length = es.length ∧ ls.length = bs.length ∧ SimG C (upd A (gPut TG TS n keys nums es ls bs g gm go gs)) G' a w := by
  obtain ⟨⟨d1, d2, d3⟩, ⟨d4, d5⟩, d6⟩ := dis4_ne hd
  have hh := S.holds g
  rw [hg] at hh
  simp only [Holds] at hh
  obtain ⟨hown, hbl, hok, hap⟩ := hh
  obtain ⟨cur, hcur⟩ : ∃ cur, cur = G.cur g := ⟨_, rfl⟩
  rw [← hcur] at hown hbl hok hap
  obtain ⟨bs, hbs⟩ : ∃ bs, bs = gBs cur := ⟨_, rfl⟩
  rw [← hbs] at hbl hok hap
  let B : Nat → Nat → Prop := fun k b => zN (gGh (fun _ _ => False) (G.blk g) cur) k b (gSt TG TS n keys nums es ls bs k)
  have hownB : ∀ k b, k < 4 → B k b → Owned C.w0 C.E w b := fun k b hk hb => hown b ⟨k, hk, by rw [← hbs]; exact hb⟩
  have hownG : ∀ k b, k < 4 → B k b → zN G g b (A g) := fun k b hk hb => by
    rw [hg]; exact ⟨k, hk, by rw [← hcur, ← hbs]; exact hb⟩
  let G' : Gh := { G with blk := fun k => if k = gm then decB (vAt cur 0) else G.blk k, cur := fun k => if k = go then vAt cur 1 else if k = gs then vAt cur 2 else G.cur k, len := fun k => if k = go then decN (vAt cur 3) else G.len k }
  have hoff : ∀ k, k ∉ [gm, go, gs] → G'.blk k = G.blk k ∧ G'.cur k = G.cur k ∧ G'.len k = G.len k := fun k hk => by
    simp only [List.mem_cons, List.not_mem_nil, or_false, not_or] at hk
    exact ⟨by simp only [G', if_neg hk.1], by simp only [G', if_neg hk.2.1, if_neg hk.2.2], by simp only [G', if_neg hk.2.1]⟩
  have p0 : upd A (gPut TG TS n keys nums es ls bs g gm go gs) g = .box TG (.agg [.mref gm, .slg go 2 (xX es bs)]) := by simp [upd, gPut]
  have p1 : upd A (gPut TG TS n keys nums es ls bs g gm go gs) gm = .mpr (strs keys) nums := by simp [upd, gPut, zJ d1]
  have p2 : upd A (gPut TG TS n keys nums es ls bs g gm go gs) go = .tok 2 (xX es bs) := by simp [upd, gPut, zJ d2, zJ d4]
  have p3 : upd A (gPut TG TS n keys nums es ls bs g gm go gs) gs = .gen (ScF TS n bs ls bs.length) := by simp [upd, gPut, zJ d3, zJ d5, zJ d6]
  have own' : ∀ k b, k ∈ [g, gm, go, gs] → zN G' k b (upd A (gPut TG TS n keys nums es ls bs g gm go gs) k) → ∃ i, i < 4 ∧ gNames g gm go gs i = k ∧ B i b := by
    intro k b hk hb
    simp only [List.mem_cons, List.not_mem_nil, or_false] at hk
    rcases hk with rfl | rfl | rfl | rfl
    · rw [p0] at hb
      refine ⟨0, by omega, rfl, ?_⟩
      simp only [zN, G', if_neg d1] at hb
      simpa only [B, gSt, zN, gGh, if_true] using hb
    · rw [p1] at hb
      refine ⟨1, by omega, rfl, ?_⟩
      simp only [zN, G', if_true] at hb
      simpa [B, gSt, zN, gGh] using hb
    · rw [p2] at hb
      refine ⟨2, by omega, rfl, ?_⟩
      simp only [zN, G', if_true] at hb
      simpa only [B, gSt, zN, gGh, if_true] using hb
    · rw [p3] at hb
      refine ⟨3, by omega, rfl, ?_⟩
      simp only [zN, G', if_neg (Ne.symm d6), if_true] at hb
      exact hb
  have h0 := hok 0 (by omega); have h1 := hok 1 (by omega); have h2 := hok 2 (by omega); have h3 := hok 3 (by omega)
  refine ⟨bs, G', hbl, ?_, S.tellKs [g, gm, go, gs] [gm, go, gs] (Le.refl _ _) (fun k hk => ?_) (fun k hk => ?_) (fun k hk => ?_) hf (fun _ _ h => .inl h) ?_ ?_ ?_⟩
  · simp only [gSt, Holds, ScF] at h3
    exact h3.2.2.1
  · obtain ⟨e1, e2, e3⟩ := hoff k hk
    exact ⟨e1, .inl ⟨e2, e3⟩⟩
  · obtain ⟨e1, e2, e3⟩ := hoff k (by simp; omega)
    exact ⟨e1, .inl ⟨e2, e3⟩⟩
  · exact ⟨xq (by simpa [gPut, yl] using hk), hoff k (fun h => hk (List.mem_cons_of_mem _ h))⟩
  · intro k hk b hb
    obtain ⟨i, hi, _, hB⟩ := own' k b hk hb
    exact ⟨g, by simp, hownG i b hi hB⟩
  · intro k hk
    simp only [List.mem_cons, List.not_mem_nil, or_false] at hk
    rcases hk with rfl | rfl | rfl | rfl
    · rw [p0]
      simp only [gSt, Holds, BoxS] at h0 ⊢
      obtain ⟨q1, ⟨cs, fr, q2, q3, q4⟩, q5⟩ := h0
      have eb : G'.blk k = G.blk k := by simp only [G', if_neg d1]
      rw [eb]
      have eg : (gGh G.I (G.blk k) cur).blk 0 = G.blk k := rfl
      rw [eg] at q1 q2 q5
      refine ⟨hownB 0 _ (by omega) rfl, ⟨cs, fr, q2, ?_, q4⟩, q5⟩
      simp only [RepS, yc] at q3 ⊢
      obtain ⟨c1, c2, e1, e2, c3, c4, e3, e4, e5⟩ := q3
      refine ⟨c1, c2, e1, ?_, c3, c4, e3, ?_, e5⟩
      · rw [e2]; simp [G', gGh]
      · simpa [G', gGh] using e4
    · rw [p1]
      simp only [gSt, Holds, MprS] at h1 ⊢
      have eb : G'.blk k = decB (vAt cur 0) := by simp only [G', if_true]
      rw [eb]
      have eg : (gGh G.I (G.blk g) cur).blk 1 = decB (vAt cur 0) := rfl
      rw [eg] at h1
      exact ⟨hownB 1 _ (by omega) rfl, h1.2⟩
    · rw [p2]
      simp only [gSt, Holds] at h2 ⊢
      have ec : G'.cur k = vAt cur 1 := by simp only [G', if_true]
      have el : G'.len k = decN (vAt cur 3) := by simp only [G', if_true]
      rw [ec, el]
      obtain ⟨q1, q2⟩ := h2
      refine ⟨q1, ?_⟩
      rcases q2 with q2 | ⟨b, cap, e1, e2, e3, e4, e5, e6, e7⟩
      · exact .inl q2
      · exact .inr ⟨b, cap, e1, e2, e3, e4, hownB 2 b (by omega) ⟨⟨b, 0, none⟩, _, _, e1, rfl⟩, e6, e7⟩
    · rw [p3]
      simp only [gSt, Holds] at h3 ⊢
      have ec : G'.cur k = vAt cur 2 := by simp only [G', if_neg (Ne.symm d6), if_true]
      rw [ec]
      exact ⟨fun b hb => hownB 3 b (by omega) hb, h3.2⟩
  · intro k j b hk hj hkj hb1 hb2
    obtain ⟨i1, l1, e1, hB1⟩ := own' k b hk hb1
    obtain ⟨i2, l2, e2, hB2⟩ := own' j b hj hb2
    exact hap i1 i2 b l1 l2 (by rintro rfl; exact hkj (e1.symm.trans e2)) hB1 hB2
theorem aw_openG (g gm go gs : Nat) (hd : dis4 g gm go gs = true) (hK : (Nat.blt gm C.K && Nat.blt go C.K && Nat.blt gs C.K) = true) (hg : look st g = .gen (GrpF TG TS n keys nums es ls)) (hf : xz [gm, go, gs] st = true)
    (h : ∀ bs : List Nat, bs.length = es.length → ls.length = bs.length → AW C c (gPut TG TS n keys nums es ls bs g gm go gs ++ st) Q) : AW C c st Q := by
  intro a w ⟨G, S⟩
  simp only [Bool.and_eq_true, Nat.blt_eq] at hK
  obtain ⟨bs, G', h1, h2, S'⟩ := S.openG g gm go gs hd ⟨hK.1.1, hK.1.2, hK.2⟩ hg (fun k _ => xJ st hf k)
  rw [xY] at S'
  exact h bs h1 h2 a w ⟨G', S'⟩
theorem SimG.closeG {A : Nat → SV} {G : Gh} {a : Act} {w : World} (S : SimG C A G a w) (g gm go gs : Nat) {bs : List Nat} (hd : dis4 g gm go gs = true) (hbl : bs.length = es.length)
    (h0 : A g = .box TG (.agg [.mref gm, .slg go 2 (xX es bs)])) (h1 : A gm = .mpr (strs keys) nums) (h2 : A go = .tok 2 (xX es bs)) (h3 : A gs = .gen (ScF TS n bs ls bs.length)) :
    ∃ G', SimG C (upd A [(g, .gen (GrpF TG TS n keys nums es ls)), (gm, .dead), (go, .dead), (gs, .dead)]) G' a w := by
  obtain ⟨⟨d1, d2, d3⟩, ⟨d4, d5⟩, d6⟩ := dis4_ne hd
  obtain ⟨cur, hcur⟩ : ∃ cur : Value, cur = .tuple #[.pointer (some ⟨G.blk gm, 0, none⟩), G.cur go, G.cur gs, .int .i64 (G.len go), .tuple (bs.map fun b => Value.pointer (some ⟨b, 0, none⟩)).toArray] := ⟨_, rfl⟩
  have v0 : decB (vAt cur 0) = G.blk gm := by subst hcur; rfl
  have v1 : vAt cur 1 = G.cur go := by subst hcur; rfl
  have v2 : vAt cur 2 = G.cur gs := by subst hcur; rfl
  have v3 : decN (vAt cur 3) = G.len go := by subst hcur; rfl
  have v4 : gBs cur = bs := by
    subst hcur
    show (tupV (.tuple (bs.map fun b => Value.pointer (some ⟨b, 0, none⟩)).toArray)).map decB = bs
    simp only [tupV, List.map_map]
    have : (decB ∘ fun b => Value.pointer (some ⟨b, 0, none⟩)) = id := rfl
    rw [this, List.map_id]
  let G' : Gh := { G with cur := fun k => if k = g then cur else G.cur k, len := fun k => if k = g then G.len g + 1 else G.len k }
  have hoff : ∀ k, k ≠ g → G'.blk k = G.blk k ∧ G'.cur k = G.cur k ∧ G'.len k = G.len k := fun k hk => ⟨rfl, by simp only [G', if_neg hk], by simp only [G', if_neg hk]⟩
  have p0 : upd A [(g, .gen (GrpF TG TS n keys nums es ls)), (gm, .dead), (go, .dead), (gs, .dead)] g = .gen (GrpF TG TS n keys nums es ls) := by simp [upd]
  have pd : ∀ k, k ∈ [gm, go, gs] → upd A [(g, .gen (GrpF TG TS n keys nums es ls)), (gm, .dead), (go, .dead), (gs, .dead)] k = .dead := by
    intro k hk
    simp only [List.mem_cons, List.not_mem_nil, or_false] at hk
    rcases hk with rfl | rfl | rfl
    · simp [upd, zJ d1]
    · simp [upd, zJ d2, zJ d4]
    · simp [upd, zJ d3, zJ d5, zJ d6]
  let nm := gNames g gm go gs
  have own : ∀ k b, k < 4 → zN (gGh (fun _ _ => False) (G.blk g) cur) k b (gSt TG TS n keys nums es ls bs k) → zN G (nm k) b (A (nm k)) := by
    intro k b hk hb
    rcases lt4 hk with rfl | rfl | rfl | rfl
    · simp only [nm, gNames, h0]; exact hb
    · simp only [nm, gNames, h1]
      simp only [gSt, zN] at hb ⊢
      rw [← v0]; exact hb
    · simp only [nm, gNames, h2]
      simp only [gSt, zN] at hb ⊢
      rw [← v1]; exact hb
    · simp only [nm, gNames, h3]
      simp only [gSt, zN] at hb ⊢
      rw [← v2]; exact hb
  have hinj : ∀ {i j : Nat}, i < 4 → j < 4 → i ≠ j → nm i ≠ nm j := by
    intro i j hi hj hij
    rcases lt4 hi with rfl | rfl | rfl | rfl <;> rcases lt4 hj with rfl | rfl | rfl | rfl <;> simp only [nm, gNames] <;> first | exact absurd rfl hij | assumption | (apply Ne.symm; assumption)
  have hmem : ∀ k, k < 4 → nm k ∈ [g, gm, go, gs] := by
    intro k hk
    rcases lt4 hk with rfl | rfl | rfl | rfl <;> simp [nm, gNames]
  have own' : ∀ k b, k ∈ [g, gm, go, gs] → zN G' k b (upd A [(g, .gen (GrpF TG TS n keys nums es ls)), (gm, .dead), (go, .dead), (gs, .dead)] k) → k = g ∧ ∃ i, i < 4 ∧ zN G (nm i) b (A (nm i)) := by
    intro k b hk hb
    by_cases e : k = g
    · subst e
      rw [p0] at hb
      simp only [zN, GrpF, G', if_true, v4] at hb
      obtain ⟨i, hi, hb⟩ := hb
      exact ⟨rfl, i, hi, own i b hi hb⟩
    · rw [pd k (by simpa [e] using hk)] at hb
      simp only [zN] at hb
  refine ⟨G', S.tellKs [g, gm, go, gs] [] (Le.refl _ _) (fun k _ => ?_) (fun k _ => ?_) (fun k hk => ?_) (fun k _ => yu.1 _) (fun _ _ h => .inl h) ?_ ?_ ?_⟩
  · refine ⟨rfl, ?_⟩
    by_cases e : k = g
    · subst e; right; simp only [G', if_true]; omega
    · left; exact (hoff k e).2
  · refine ⟨rfl, ?_⟩
    by_cases e : k = g
    · subst e; right; simp only [G', if_true]; omega
    · left; exact (hoff k e).2
  · exact ⟨xq (by simpa [yl] using hk), hoff k (by rintro rfl; exact hk (by simp))⟩
  · intro k hk b hb
    obtain ⟨_, i, hi, hb⟩ := own' k b hk hb
    exact ⟨nm i, hmem i hi, hb⟩
  · intro k hk
    by_cases e : k = g
    · subst e
      rw [p0]
      simp only [Holds, GrpF, G', if_true, v4]
      refine ⟨fun b ⟨i, hi, hb⟩ => (S.holds (nm i)).owned (own i b hi hb), hbl, fun i hi => ?_, fun i j b hi hj hij hb1 hb2 => S.apart (nm i) (nm j) b (hinj hi hj hij) (own i b hi hb1) (own j b hj hb2)⟩
      rcases lt4 hi with rfl | rfl | rfl | rfl
      · have q := S.holds k
        rw [h0] at q
        simp only [gSt, Holds, BoxS] at q ⊢
        obtain ⟨q1, ⟨cs, fr, q2, q3, q4⟩, q5⟩ := q
        refine ⟨⟨.inr trivial, q1.2⟩, ⟨cs, fr, q2, ?_, q4⟩, q5⟩
        simp only [RepS, yc] at q3 ⊢
        obtain ⟨c1, c2, e1, e2, c3, c4, e3, e4, e5⟩ := q3
        refine ⟨c1, c2, e1, ?_, c3, c4, e3, ?_, e5⟩
        · rw [e2]; simp [gGh, v0]
        · simpa [gGh, v1, v3] using e4
      · have q := S.holds gm
        rw [h1] at q
        simp only [gSt, Holds, MprS] at q ⊢
        have eb : (gGh G.I (G.blk k) cur).blk 1 = G.blk gm := v0
        rw [eb]
        exact ⟨⟨.inr trivial, q.1.2⟩, q.2⟩
      · have q := S.holds go
        rw [h2] at q
        simp only [gSt, Holds] at q ⊢
        have ec : (gGh G.I (G.blk k) cur).cur 2 = G.cur go := v1
        have el : (gGh G.I (G.blk k) cur).len 2 = G.len go := v3
        rw [ec, el]
        exact ⟨q.1, q.2.own.1⟩
      · have q := S.holds gs
        rw [h3] at q
        simp only [gSt, Holds] at q ⊢
        have ec : (gGh G.I (G.blk k) cur).cur 3 = G.cur gs := v2
        rw [ec]
        exact ⟨fun b hb => ⟨.inr trivial, (q.1 b hb).2⟩, q.2⟩
    · rw [pd k (by simpa [e] using hk)]
      simp only [Holds]
  · intro k j b hk hj hkj hb1 hb2
    exact hkj ((own' k b hk hb1).1.trans (own' j b hj hb2).1.symm)
theorem aw_closeG (g gm go gs : Nat) (bs : List Nat) (TG TS n : Nat) (keys : List ByteArray) (nums : List AV) (es ls : List (List AV)) (hd : dis4 g gm go gs = true) (hbl : bs.length = es.length)
    (h0 : look st g = .box TG (.agg [.mref gm, .slg go 2 (xX es bs)])) (h1 : look st gm = .mpr (strs keys) nums) (h2 : look st go = .tok 2 (xX es bs)) (h3 : look st gs = .gen (ScF TS n bs ls bs.length))
    (h : AW C c ((g, .gen (GrpF TG TS n keys nums es ls)) :: (gm, .dead) :: (go, .dead) :: (gs, .dead) :: st) Q) : AW C c st Q := by
  intro a w ⟨G, S⟩
  obtain ⟨G', S'⟩ := S.closeG g gm go gs hd hbl h0 h1 h2 h3
  rw [xY] at S'
  exact h a w ⟨G', S'⟩
end
end Go.Al
namespace Go.Al
open Go.RowKit
theorem snoc_get {α : Type} {l : List α} {x y : α} {j : Nat} (h : (l ++ [x])[j]? = some y) : (j < l.length ∧ l[j]? = some y) ∨ (j = l.length ∧ y = x) := by
  by_cases hj : j < l.length
  · rw [List.getElem?_append_left hj] at h; exact .inl ⟨hj, h⟩
  · rw [List.getElem?_append_right (by omega)] at h
    have hlt := (List.getElem?_eq_some_iff.1 h).1
    have : j - l.length = 0 := by simp at hlt; omega
    rw [this] at h
    exact .inr ⟨by omega, by simpa using h.symm⟩
section
variable {C : Cx} {c : Code} {st : St} {Q : Exit → St → Prop} {TG TS n : Nat}
theorem SimG.openOut {A : Nat → SV} {G : Gh} {a : Act} {w : World} (S : SimG C A G a w) (g gm go gs : Nat) {bs : List Nat} {ls : List (List AV)} {rows e : List AV} (hd : yI [g, go, gs] = true) (hK : gs < C.K)
    (ho : A go = .gen (OutF TS n rows e)) (hg : A g = .box TG (.agg [.mref gm, .slg go 0 (wB (rows ++ [.agg []]))])) (hs : A gs = .gen (ScF TS n bs ls bs.length)) :
    ∃ b G', SimG C (upd A [(g, .box TG (.agg [.mref gm, .slg go 2 (rows ++ [resX e b])])), (go, .tok 2 (rows ++ [resX e b])), (gs, .gen (ScF TS n (bs ++ [b]) (ls ++ [[]]) (bs ++ [b]).length))]) G' a w := by
  simp only [yI, List.elem_eq_mem, List.mem_cons, List.not_mem_nil, or_false, Bool.and_eq_true, Bool.not_eq_true', qb, not_or, not_false_eq_true, and_true, decide_false, Bool.not_false] at hd
  obtain ⟨⟨d1, d2⟩, d3⟩ := hd
  have h1 := S.holds go
  rw [ho] at h1
  simp only [Holds, OutF] at h1
  obtain ⟨how, hsc, hlen, htok, hself⟩ := h1
  obtain ⟨b, hb⟩ : ∃ b, b = G.blk go := ⟨_, rfl⟩
  rw [← hb] at how hsc htok hself
  have h3 := S.holds gs
  rw [hs] at h3
  simp only [Holds, ScF] at h3
  obtain ⟨sow, sl1, sl2, sok, _, sap, sself⟩ := h3
  have hex : ∀ {j : Nat} {c : Nat}, bs[j]? = some c → j ≠ bs.length := fun hc => by have := (List.getElem?_eq_some_iff.1 hc).1; omega
  let G' : Gh := { G with cur := fun k => if k = gs then .tuple (tupV (G.cur gs) ++ [Value.slice none 0 0]).toArray else G.cur k, len := fun k => if k = gs then G.len gs + 1 else G.len k }
  have hoff : ∀ k, k ≠ gs → G'.blk k = G.blk k ∧ G'.cur k = G.cur k ∧ G'.len k = G.len k := fun k hk => ⟨rfl, by simp only [G', if_neg hk], by simp only [G', if_neg hk]⟩
  have hcur : tupV (G'.cur gs) = tupV (G.cur gs) ++ [Value.slice none 0 0] := by simp only [G', if_true, tupV]
  have ownO : ∀ c, (c = b ∨ c ∈ hdrB (G.cur go)) → zN G go c (A go) := fun c hc => by rw [ho]; simp only [zN, OutF]; rw [← hb]; exact hc
  have ownS : ∀ {j c : Nat} {v : Value} {x : Nat}, bs[j]? = some c → (tupV (G.cur gs))[j]? = some v → (x = c ∨ x ∈ hdrB v) → zN G gs x (A gs) := fun h1 h2 h3 => by
    rw [hs]; exact ⟨_, _, _, h1, h2, h3.imp_right fun h => ⟨hex h1, h⟩⟩
  have part : ∀ {j c : Nat} {v : Value}, (bs ++ [b])[j]? = some c → (tupV (G.cur gs) ++ [Value.slice none 0 0])[j]? = some v → (j < bs.length ∧ bs[j]? = some c ∧ (tupV (G.cur gs))[j]? = some v) ∨ (j = bs.length ∧ c = b ∧ v = .slice none 0 0) := by
    intro j c v h1 h2
    rcases snoc_get h1 with ⟨q1, q2⟩ | ⟨q1, q2⟩ <;> rcases snoc_get h2 with ⟨r1, r2⟩ | ⟨r1, r2⟩
    · exact .inl ⟨q1, q2, r2⟩
    · omega
    · omega
    · exact .inr ⟨q1, q2, r2⟩
  have hnn : ∀ x, x ∉ hdrB (.slice none 0 0) := fun x h => by cases h
  have p1 : upd A [(g, .box TG (.agg [.mref gm, .slg go 2 (rows ++ [resX e b])])), (go, .tok 2 (rows ++ [resX e b])), (gs, .gen (ScF TS n (bs ++ [b]) (ls ++ [[]]) (bs ++ [b]).length))] g = .box TG (.agg [.mref gm, .slg go 2 (rows ++ [resX e b])]) := by simp [upd]
  have p2 : upd A [(g, .box TG (.agg [.mref gm, .slg go 2 (rows ++ [resX e b])])), (go, .tok 2 (rows ++ [resX e b])), (gs, .gen (ScF TS n (bs ++ [b]) (ls ++ [[]]) (bs ++ [b]).length))] go = .tok 2 (rows ++ [resX e b]) := by simp [upd, zJ d1]
  have p3 : upd A [(g, .box TG (.agg [.mref gm, .slg go 2 (rows ++ [resX e b])])), (go, .tok 2 (rows ++ [resX e b])), (gs, .gen (ScF TS n (bs ++ [b]) (ls ++ [[]]) (bs ++ [b]).length))] gs = .gen (ScF TS n (bs ++ [b]) (ls ++ [[]]) (bs ++ [b]).length) := by simp [upd, zJ d2, zJ d3]
  have own' : ∀ k x, k ∈ [g, go, gs] → zN G' k x (upd A [(g, .box TG (.agg [.mref gm, .slg go 2 (rows ++ [resX e b])])), (go, .tok 2 (rows ++ [resX e b])), (gs, .gen (ScF TS n (bs ++ [b]) (ls ++ [[]]) (bs ++ [b]).length))] k) →
      (k = g ∧ zN G g x (A g)) ∨ (k = go ∧ x ∈ hdrB (G.cur go)) ∨ (k = gs ∧ (zN G gs x (A gs) ∨ x = b)) := by
    intro k x hk hx
    simp only [List.mem_cons, List.not_mem_nil, or_false] at hk
    rcases hk with rfl | rfl | rfl
    · rw [p1] at hx
      exact .inl ⟨rfl, by rw [hg]; exact hx⟩
    · rw [p2] at hx
      simp only [zN, G', if_neg d3] at hx
      obtain ⟨ad, m, cp, e1, e2⟩ := hx
      exact .inr (.inl ⟨rfl, by rw [e1, ← e2]; exact List.mem_singleton.2 rfl⟩)
    · rw [p3] at hx
      simp only [zN, ScF] at hx
      rw [hcur] at hx
      obtain ⟨j, c, v, h1, h2, h3⟩ := hx
      replace h3 : x = c ∨ x ∈ hdrB v := h3.imp_right And.right
      rcases part h1 h2 with ⟨_, q2, q3⟩ | ⟨_, rfl, rfl⟩
      · exact .inr (.inr ⟨rfl, .inl (ownS q2 q3 h3)⟩)
      · exact .inr (.inr ⟨rfl, .inr (h3.elim id fun h => absurd h (hnn x))⟩)
  have sepS : ∀ x, zN G gs x (A gs) → x ≠ b := fun x hx e => S.apart gs go x (Ne.symm d3) hx (ownO x (.inl e))
  refine ⟨b, G', S.tellKs [g, go, gs] [] (Le.refl _ _) (fun k _ => ?_) (fun k hk => ?_) (fun k hk => ?_) (fun k _ => yu.1 _) (fun _ _ h => .inl h) ?_ ?_ ?_⟩
  · refine ⟨rfl, ?_⟩
    by_cases h : k = gs
    · subst h; right; simp only [G', if_true]; omega
    · left; exact (hoff k h).2
  · refine ⟨rfl, .inl (hoff k (by omega)).2⟩
  · exact ⟨xq (by simpa [yl] using hk), hoff k (by rintro rfl; exact hk (by simp))⟩
  · intro k hk x hx
    rcases own' k x hk hx with ⟨_, h⟩ | ⟨_, h⟩ | ⟨_, h | h⟩
    · exact ⟨g, by simp, h⟩
    · exact ⟨go, by simp, ownO x (.inr h)⟩
    · exact ⟨gs, by simp, h⟩
    · exact ⟨go, by simp, ownO x (.inl h)⟩
  · intro k hk
    simp only [List.mem_cons, List.not_mem_nil, or_false] at hk
    rcases hk with rfl | rfl | rfl
    · rw [p1]
      have q := S.holds k
      rw [hg] at q
      simp only [Holds, BoxS] at q ⊢
      obtain ⟨q1, ⟨cs, fr, q2, q3, q4⟩, q5⟩ := q
      refine ⟨q1, ⟨cs, fr, q2, ?_, q4⟩, q5⟩
      simp only [RepS, yc] at q3 ⊢
      obtain ⟨c1, c2, e1, e2, c3, c4, e3, ⟨v, e4, e5, e6, e7⟩, e8⟩ := q3
      have hul : (wB (rows ++ [AV.agg []])).length = rows.length + 1 := by simp [wB]
      have hv : v = G.cur go := e7 (by rw [hul]; exact hlen.symm)
      refine ⟨c1, c2, e1, e2, c3, c4, e3, ⟨v, e4, ?_, by simp only [G', if_neg d3, List.length_append, List.length_singleton]; omega, fun _ => by simp only [G', if_neg d3]; exact hv⟩, e8⟩
      simp only [RepC]
      rcases htok with ⟨_, h⟩ | ⟨b', cap, t1, t2, t3, t4, _⟩
      · simp at h
      · exact ⟨v, rfl, .inr ⟨b', 0, cap, by rw [hv]; exact t1, t2, t3, t4⟩⟩
    · rw [p2]
      simp only [Holds, G', if_neg d3]
      refine ⟨by rw [hlen]; simp, ?_⟩
      rcases htok with h | ⟨b', cap, t1, t2, t3, t4, t5, t6, t7⟩
      · exact .inl h
      · exact .inr ⟨b', cap, t1, t2, t3, t4, how b' (.inr (by rw [t1]; exact List.mem_singleton.2 rfl)), t6, t7⟩
    · rw [p3]
      simp only [Holds, ScF]
      rw [hcur]
      refine ⟨?_, by simp [sl1], by simp [sl2], ?_, ?_, ?_, ?_⟩
      · rintro x ⟨j, c, v, h1, h2, h3⟩
        replace h3 : x = c ∨ x ∈ hdrB v := h3.imp_right And.right
        rcases part h1 h2 with ⟨_, q2, q3⟩ | ⟨_, rfl, rfl⟩
        · exact (S.holds k).owned (ownS q2 q3 h3)
        · exact how x (.inl (h3.elim id fun h => absurd h (hnn x)))
      · intro j c v l _ h1 h2 h4
        rcases part h1 h2 with ⟨q1, q2, q3⟩ | ⟨q1, rfl, rfl⟩
        · rw [List.getElem?_append_left (by omega)] at h4
          exact sok j c v l (hex q2) q2 q3 h4
        · have : l = [] := by
            rcases snoc_get h4 with ⟨r1, _⟩ | ⟨_, r2⟩
            · omega
            · exact r2
          subst this; exact hsc
      · intro c hc
        rw [List.getElem?_eq_none (Nat.le_refl _)] at hc; cases hc
      · intro j j' c c' v v' x hjj h1 h1' h2 h2' h4 h5
        replace h4 : x = c ∨ x ∈ hdrB v := h4.imp_right And.right
        replace h5 : x = c' ∨ x ∈ hdrB v' := h5.imp_right And.right
        rcases part h1 h2 with ⟨q1, q2, q3⟩ | ⟨q1, rfl, rfl⟩ <;> rcases part h1' h2' with ⟨r1, r2, r3⟩ | ⟨r1, rfl, rfl⟩
        · exact sap j j' c c' v v' x hjj q2 r2 q3 r3 (h4.imp_right fun h => ⟨hex q2, h⟩) (h5.imp_right fun h => ⟨hex r2, h⟩)
        · have hx : x = c' := h5.elim id fun h => absurd h (hnn x)
          exact sepS x (ownS q2 q3 h4) hx
        · have hx : x = c := h4.elim id fun h => absurd h (hnn x)
          exact sepS x (ownS r2 r3 h5) hx
        · omega
      · intro j c v _ h1 h2
        rcases part h1 h2 with ⟨q1, q2, q3⟩ | ⟨q1, rfl, rfl⟩
        · exact sself j c v (hex q2) q2 q3
        · exact hnn c
  · intro k j x hk hj hkj h1 h2
    rcases own' k x hk h1 with ⟨rfl, p⟩ | ⟨rfl, p⟩ | ⟨rfl, p⟩ <;> rcases own' j x hj h2 with ⟨rfl, q⟩ | ⟨rfl, q⟩ | ⟨rfl, q⟩
    · exact hkj rfl
    · exact S.apart k j x hkj p (ownO x (.inr q))
    · rcases q with q | q
      · exact S.apart k j x hkj p q
      · exact S.apart k go x d1 p (ownO x (.inl q))
    · exact S.apart j k x (Ne.symm hkj) q (ownO x (.inr p))
    · exact hkj rfl
    · rcases q with q | q
      · exact S.apart k j x hkj (ownO x (.inr p)) q
      · subst q; exact hself p
    · rcases p with p | p
      · exact S.apart k j x hkj p q
      · exact S.apart go j x (Ne.symm d1) (ownO x (.inl p)) q
    · rcases p with p | p
      · exact S.apart k j x hkj p (ownO x (.inr q))
      · subst p; exact hself q
    · exact hkj rfl
theorem aw_openOut (g gm go gs : Nat) (bs : List Nat) (ls : List (List AV)) (rows e : List AV) (TG TS n : Nat) (hd : yI [g, go, gs] = true) (hK : Nat.blt gs C.K = true)
    (ho : look st go = .gen (OutF TS n rows e)) (hg : look st g = .box TG (.agg [.mref gm, .slg go 0 (wB (rows ++ [.agg []]))])) (hs : look st gs = .gen (ScF TS n bs ls bs.length))
    (h : ∀ b : Nat, AW C c ((g, .box TG (.agg [.mref gm, .slg go 2 (rows ++ [resX e b])])) :: (go, .tok 2 (rows ++ [resX e b])) :: (gs, .gen (ScF TS n (bs ++ [b]) (ls ++ [[]]) (bs ++ [b]).length)) :: st) Q) : AW C c st Q := by
  intro a w ⟨G, S⟩
  obtain ⟨b, G', S'⟩ := S.openOut g gm go gs hd (by simpa [Nat.blt_eq] using hK) ho hg hs
  rw [xY] at S'
  exact h b a w ⟨G', S'⟩
def resA (n : Nat) (e l : List AV) : AV := .agg [.sl 7 e, .sl 3 [.agg [.v (.string .empty), .v (.string .empty), .sl n l]]]
theorem repM_res {w : World} {I I' : Nat → Nat → Prop} {T n : Nat} (hle : Le w I w I') : ∀ (es ls : List (List AV)) (bs : List Nat) (b o : Nat), es.length = bs.length → ls.length = bs.length →
    (∀ (j b : Nat) (l : List AV), bs[j]? = some b → ls[j]? = some l → (∀ o, I' b o) ∧ ∃ v, ScOk T n w I b v l) → RepM w I 2 (xX es bs) b o → RepM w I' 2 (List.zipWith (resA n) es ls) b o
  | [], [], [], _, _, _, _, _, _ => by simp only [List.zipWith_nil_left, RepM]
  | e :: es, l :: ls, c :: bs, b, o, h1, h2, h, r => by
    simp only [xX, List.zipWith_cons_cons, RepM] at r ⊢
    obtain ⟨⟨cs, k1, k2, k3⟩, k4⟩ := r
    refine ⟨⟨cs, k1, ?_, k3.mono hle⟩, repM_res hle es ls bs b (o + 2) (by simpa using h1) (by simpa using h2) (fun j => h (j + 1)) k4⟩
    obtain ⟨hI, v, hs⟩ := h 0 c l rfl rfl
    obtain ⟨s1, ⟨fr, s2, s3⟩, s4, s5⟩ := hs
    simp only [resX, resA, RepC, y_] at k2 ⊢
    obtain ⟨c1, c2, q1, q2, c3, c4, q3, ⟨q4, _⟩, q5⟩ := k2
    refine ⟨c1, c2, q1, RepC.mono hle (.sl 7 e) c1 (by simpa only [RepC] using q2), c3, c4, q3, ?_, q5⟩
    have q4' : c3 = [Value.slice (some ⟨c, 0, none⟩) 1 1] := by rw [q4]; rfl
    refine ⟨_, q4', .inr ⟨c, 0, 1, rfl, Nat.le_refl _, by unfold maxLen; omega, ?_⟩⟩
    simp only [RepM, RepC, y_]
    refine ⟨⟨[.string .empty, .string .empty, v], rfl, ⟨[.string .empty], [.string .empty, v], rfl, ⟨rfl, rfl⟩, [.string .empty], [v], rfl, ⟨rfl, rfl⟩, [v], [], rfl, ⟨v, rfl, ?_⟩, rfl⟩, fun j hj => ⟨?_, hI _⟩⟩, trivial⟩
    · rcases s5 with ⟨rfl, rfl⟩ | ⟨b', cap, t1, t2, t3, t4, _⟩
      · exact .inl (nil_sl n)
      · exact .inr ⟨b', 0, cap, t1, t2, t3, RepM.mono hle _ _ _ _ t4⟩
    · rw [wN s2, Nat.zero_add, Array.getElem?_eq_getElem (by simpa using hj)]
      have : ∀ (j : Nat) (h1 : j < 3), (#[Value.string .empty, .string .empty, v] : Array Value)[j]'(by simpa using h1) = [Value.string .empty, .string .empty, v][j]'(by simpa using h1) := by
        intro j h1
        simp
      rw [this j (by simpa using hj)]
  | [], l :: ls, _, _, _, h1, h2, _, _ => by simp at h1 h2; omega
  | e :: es, [], _, _, _, h1, h2, _, _ => by simp at h1 h2; omega
  | [], [], c :: bs, _, _, h1, _, _, _ => by simp at h1
  | e :: es, l :: ls, [], _, _, h1, _, _, _ => by simp at h1
theorem SimG.finalG {A : Nat → SV} {G : Gh} {a : Act} {w : World} (S : SimG C A G a w) (g gm go gs : Nat) {bs : List Nat} {es ls : List (List AV)} (hd : yI [g, go, gs] = true) (h1 : es.length = bs.length) (h2 : ls.length = bs.length)
    (hg : A g = .box TG (.agg [.mref gm, .slg go 2 (xX es bs)])) (ho : A go = .tok 2 (xX es bs)) (hs : A gs = .gen (ScF TS n bs ls bs.length)) :
    ∃ G', SimG C (upd A [(g, .box TG (.agg [.mref gm, .imm (.sl 2 (List.zipWith (resA n) es ls))])), (go, .dead), (gs, .dead)]) G' a w := by
  simp only [yI, List.elem_eq_mem, List.mem_cons, List.not_mem_nil, or_false, Bool.and_eq_true, Bool.not_eq_true', qb, not_or, not_false_eq_true, and_true, decide_false, Bool.not_false] at hd
  obtain ⟨⟨d1, d2⟩, d3⟩ := hd
  have h3 := S.holds gs
  rw [hs] at h3
  simp only [Holds, ScF] at h3
  obtain ⟨sow, sl1, sl2, sok, _, sap, sself⟩ := h3
  have hex : ∀ {j : Nat} {c : Nat}, bs[j]? = some c → j ≠ bs.length := fun hc => by have := (List.getElem?_eq_some_iff.1 hc).1; omega
  let G' : Gh := { G with I := fun b o => G.I b o ∨ b ∈ bs }
  have hle : Le w G.I w G'.I := fun b o h => ⟨.inl h, rfl, fun _ _ h => h⟩
  have ownS : ∀ b, b ∈ bs → zN G gs b (A gs) := fun b hb => by
    obtain ⟨j, hj⟩ := List.getElem?_of_mem hb
    have hlt := (List.getElem?_eq_some_iff.1 hj).1
    rw [hs]
    exact ⟨j, b, (tupV (G.cur gs))[j]'(by omega), hj, List.getElem?_eq_getElem _, .inl rfl⟩
  have p1 : upd A [(g, .box TG (.agg [.mref gm, .imm (.sl 2 (List.zipWith (resA n) es ls))])), (go, .dead), (gs, .dead)] g = .box TG (.agg [.mref gm, .imm (.sl 2 (List.zipWith (resA n) es ls))]) := by simp [upd]
  have pd : ∀ k, k ∈ [go, gs] → upd A [(g, .box TG (.agg [.mref gm, .imm (.sl 2 (List.zipWith (resA n) es ls))])), (go, .dead), (gs, .dead)] k = .dead := by
    intro k hk
    simp only [List.mem_cons, List.not_mem_nil, or_false] at hk
    rcases hk with rfl | rfl
    · simp [upd, zJ d1]
    · simp [upd, zJ d2, zJ d3]
  have own' : ∀ k x, k ∈ [g, go, gs] → zN G' k x (upd A [(g, .box TG (.agg [.mref gm, .imm (.sl 2 (List.zipWith (resA n) es ls))])), (go, .dead), (gs, .dead)] k) → k = g ∧ zN G g x (A g) := by
    intro k x hk hx
    by_cases e : k = g
    · subst e
      rw [p1] at hx
      exact ⟨rfl, by rw [hg]; exact hx⟩
    · rw [pd k (by simpa [e] using hk)] at hx
      simp only [zN] at hx
  refine ⟨G', S.tellKs [g, go, gs] [] hle (fun k _ => ⟨rfl, .inl ⟨rfl, rfl⟩⟩) (fun k _ => ⟨rfl, .inl ⟨rfl, rfl⟩⟩) (fun k hk => ⟨xq (by simpa [yl] using hk), rfl, rfl, rfl⟩) (fun k _ => yu.1 _) (fun b o h => h.imp_right fun h => ⟨gs, by simp, ownS b h⟩) ?_ ?_ ?_⟩
  · intro k hk x hx
    exact ⟨g, by simp, (own' k x hk hx).2⟩
  · intro k hk
    by_cases e : k = g
    · subst e
      rw [p1]
      have q := S.holds k
      rw [hg] at q
      simp only [Holds, BoxS] at q ⊢
      obtain ⟨q1, ⟨cs, fr, q2, q3, q4⟩, q5⟩ := q
      refine ⟨q1, ⟨cs, fr, q2, ?_, q4⟩, fun o h => ?_⟩
      · simp only [RepS, yc] at q3 ⊢
        obtain ⟨c1, c2, e1, e2, c3, c4, e3, ⟨v, e4, e5, _, _⟩, e8⟩ := q3
        refine ⟨c1, c2, e1, e2, c3, c4, e3, ?_, e8⟩
        have hzl : (List.zipWith (resA n) es ls).length = (xX es bs).length := by simp only [xX, List.length_zipWith]; omega
        simp only [RepC] at e5 ⊢
        obtain ⟨v', r0, r1⟩ := e5
        cases r0
        refine ⟨v, e4, ?_⟩
        rcases r1 with ⟨p, cap, r2, r3, r4⟩ | ⟨b', o', cap, r2, r3, r4, r5⟩
        · refine .inl ⟨p, cap, r2, ?_, r4⟩
          rw [r3] at hzl
          exact List.eq_nil_of_length_eq_zero hzl
        · refine .inr ⟨b', o', cap, by rw [hzl]; exact r2, by rw [hzl]; exact r3, r4, ?_⟩
          refine repM_res (T := TS) hle es ls bs b' o' h1 h2 (fun j b l hj hl => ?_) r5
          have hlt := (List.getElem?_eq_some_iff.1 hj).1
          obtain ⟨v, hv⟩ : ∃ v, (tupV (G.cur gs))[j]? = some v := ⟨_, List.getElem?_eq_getElem (by omega)⟩
          exact ⟨fun o => .inr (List.mem_of_getElem? hj), v, sok j b v l (hex hj) hj hv hl⟩
      · rcases h with h | h
        · exact q5 o h
        · exact S.apart k gs _ d2 (by rw [hg]; rfl) (ownS _ h)
    · rw [pd k (by simpa [e] using hk)]
      simp only [Holds]
  · intro k j x hk hj hkj h1 h2
    exact hkj ((own' k x hk h1).1.trans (own' j x hj h2).1.symm)
theorem aw_finalG (g gm go gs : Nat) (bs : List Nat) (es ls : List (List AV)) (TG TS n : Nat) (hd : yI [g, go, gs] = true) (h1 : es.length = bs.length) (h2 : ls.length = bs.length)
    (hg : look st g = .box TG (.agg [.mref gm, .slg go 2 (xX es bs)])) (ho : look st go = .tok 2 (xX es bs)) (hs : look st gs = .gen (ScF TS n bs ls bs.length))
    (h : AW C c ((g, .box TG (.agg [.mref gm, .imm (.sl 2 (List.zipWith (resA n) es ls))])) :: (go, .dead) :: (gs, .dead) :: st) Q) : AW C c st Q := by
  intro a w ⟨G, S⟩
  obtain ⟨G', S'⟩ := S.finalG g gm go gs hd h1 h2 hg ho hs
  rw [xY] at S'
  exact h a w ⟨G', S'⟩
end
end Go.Al
namespace Go.Al
open Go.RowKit
section
variable {C : Cx} {c : Code} {st : St} {Q : Exit → St → Prop} {TG TS n : Nat} {keys : List ByteArray} {nums : List AV} {es ls : List (List AV)}
theorem aw_openG' (g gm go gs : Nat) (hd : dis4 g gm go gs = true) (hK : (Nat.blt gm C.K && Nat.blt go C.K && Nat.blt gs C.K) = true) (hg : look st g = .gen (GrpF TG TS n keys nums es ls)) (hf : xz [gm, go, gs] st = true)
    (h : ∀ bs : List Nat, bs.length = es.length → ls.length = bs.length → AW C c ((g, .box TG (.agg [.mref gm, .slg go 2 (xX es bs)])) :: (gm, .mpr (strs keys) nums) :: (go, .tok 2 (xX es bs)) :: (gs, .gen (ScF TS n bs ls bs.length)) :: st) Q) : AW C c st Q :=
  aw_openG g gm go gs hd hK hg hf h
theorem aw_endG (g gm go gs : Nat) (bs : List Nat) (TG TS n : Nat) (keys : List ByteArray) (nums : List AV) (es ls : List (List AV)) (hd : dis4 g gm go gs = true) (hbl : bs.length = es.length)
    (h : AW C c st (thn (fun st' => look st' g = .box TG (.agg [.mref gm, .slg go 2 (xX es bs)]) ∧ look st' gm = .mpr (strs keys) nums ∧ look st' go = .tok 2 (xX es bs) ∧ look st' gs = .gen (ScF TS n bs ls bs.length) ∧
      Q .normal ((g, .gen (GrpF TG TS n keys nums es ls)) :: (gm, .dead) :: (go, .dead) :: (gs, .dead) :: st')) Q)) : AW C c st Q := by
  intro a w S n
  refine wpIn_mono (h a w S n) ?_
  rintro e a' w' ⟨st', q, S'⟩
  cases e with
  | normal =>
    obtain ⟨h0, h1, h2, h3, q⟩ := q
    obtain ⟨G, S'⟩ := S'
    obtain ⟨G', S2⟩ := S'.closeG g gm go gs hd hbl h0 h1 h2 h3
    rw [xY] at S2
    exact ⟨_, q, G', S2⟩
  | exit id => exact ⟨st', q, S'⟩
  | goto l => exact ⟨st', q, S'⟩
  | ret => exact ⟨st', q, S'⟩
  | panic c => exact ⟨st', q, S'⟩
  | outgrown => exact ⟨st', q, S'⟩
end
theorem rowsX_len {es : List (List AV)} {bs : List Nat} (h : bs.length = es.length) : (xX es bs).length = es.length := by
  simp only [xX, List.length_zipWith]; omega
theorem rowsX_snoc : ∀ {es : List (List AV)} {bs : List Nat} (e : List AV) (b : Nat), bs.length = es.length → xX es bs ++ [resX e b] = xX (es ++ [e]) (bs ++ [b])
  | [], [], e, b, _ => rfl
  | e0 :: es, b0 :: bs, e, b, h => by
    have := rowsX_snoc (es := es) (bs := bs) e b (by simpa using h)
    simp only [xX, List.zipWith_cons_cons, List.cons_append, List.cons.injEq, true_and] at this ⊢
    exact this
  | [], _ :: _, _, _, h => by simp at h
  | _ :: _, [], _, _, h => by simp at h
theorem rowsX_get : ∀ {es : List (List AV)} {bs : List Nat} {i : Nat} {e : List AV} {b : Nat}, es[i]? = some e → bs[i]? = some b → (xX es bs)[i]? = some (resX e b)
  | _ :: _, _ :: _, 0, e, b, h1, h2 => by simp at h1 h2; subst h1 h2; rfl
  | _ :: es, _ :: bs, i + 1, e, b, h1, h2 => by
    simp only [List.getElem?_cons_succ] at h1 h2
    simpa [xX] using rowsX_get h1 h2
  | [], _, _, _, _, h, _ => by simp at h
  | _ :: _, [], _, _, _, _, h => by simp at h
theorem get_nth {α : Type} {l : List α} {i n : Nat} (h : l.length = n) (hi : i < n) : ∃ x, l[i]? = some x := ⟨_, List.getElem?_eq_getElem (by omega)⟩
end Go.Al
namespace Go.Proofs
open Go Go.Al
def numsG (n : Nat) : List AV := (List.range n).map fun i : Nat => iv (i : Int)
theorem numsG_snoc (n : Nat) : numsG n ++ [iv (n : Int)] = numsG (n + 1) := by simp [numsG, List.range_succ]
theorem numsG_get {i n : Nat} (h : i < n) : (numsG n)[i]? = some (iv (i : Int)) := by simp [numsG, h]
def atG (k : ByteArray) : List AV := (wC [] k).map avA
def esG (g : Gp) : List (List AV) := g.map fun x => atG x.1
def lsG (g : Gp) : List (List AV) := g.map fun x => x.2.map GSpan.av
theorem esG_len (g : Gp) : (esG g).length = g.length := by simp [esG]
theorem lsG_len (g : Gp) : (lsG g).length = g.length := by simp [lsG]
theorem gput_none : ∀ {g : Gp} {k : ByteArray} {i : Nat} (s : GSpan), x9 (yq g) k i = none → gput g k s = g ++ [(k, [s])]
  | [], k, i, s, _ => rfl
  | (k', l) :: g, k, i, s, h => by
    simp only [yq, List.map_cons, x9] at h
    split at h
    · cases h
    · rename_i hne
      rw [gput, if_neg (Ne.symm hne), gput_none (g := g) s h]; rfl
theorem gput_some : ∀ {g : Gp} {k : ByteArray} {i j : Nat} (s : GSpan), x9 (yq g) k i = some j → ∃ l, g[j - i]? = some (k, l) ∧ gput g k s = g.set (j - i) (k, l ++ [s])
  | [], k, i, j, s, h => by simp [yq, x9] at h
  | (k', l) :: g, k, i, j, s, h => by
    simp only [yq, List.map_cons, x9] at h
    split at h
    · rename_i e; cases h; subst e
      refine ⟨l, by simp, ?_⟩
      rw [gput, if_pos rfl]; simp
    · rename_i hne
      have hlt := (mfind_lt h).1
      obtain ⟨l', h1, h2⟩ := gput_some (g := g) s h
      refine ⟨l', ?_, ?_⟩
      · rw [show j - i = (j - (i + 1)) + 1 by omega, List.getElem?_cons_succ]; exact h1
      · rw [gput, if_neg (Ne.symm hne), h2, show j - i = (j - (i + 1)) + 1 by omega]; rfl
theorem gput_len (g : Gp) (k : ByteArray) (s : GSpan) : (gput g k s).length ≤ g.length + 1 := by
  cases h : x9 (yq g) k 0 with
  | none => rw [gput_none s h]; simp
  | some j => obtain ⟨l, _, h2⟩ := gput_some s h; rw [h2]; simp
theorem grpF_len : ∀ (l : List (ByteArray × GSpan)) (g : Gp), (grpF g l).length ≤ g.length + l.length
  | [], g => by simp [grpF]
  | x :: l, g => by
    have h := grpF_len l (gput g x.1 x.2)
    have h2 := gput_len g x.1 x.2
    show (grpF (gput g x.1 x.2) l).length ≤ _
    simp only [List.length_cons]; omega
theorem grp_len (l : List (ByteArray × GSpan)) : (grp l).length ≤ l.length := by have := grpF_len l []; simpa [grp] using this
theorem grp_row {l : List (ByteArray × GSpan)} {x : ByteArray × List GSpan} (h : x ∈ grp l) : x.2.length ≤ l.length := by
  have h1 := (grp_perm l).length_eq
  rw [List.length_map] at h1
  have h2 : x.2.length ≤ ((grp l).flatMap (·.2)).length := by
    generalize grp l = g at h
    induction g with
    | nil => cases h
    | cons y g ih =>
      rw [List.flatMap_cons, List.length_append]
      rcases List.mem_cons.1 h with rfl | h
      · omega
      · have := ih h; omega
  omega
theorem zip_res : ∀ (g : Gp), List.zipWith (resA 42) (esG g) (lsG g) = (g.map resG).map GRes.av
  | [] => rfl
  | x :: g => by
    have := zip_res g
    simp only [esG, lsG, List.map_cons, List.zipWith_cons_cons] at this ⊢
    rw [this]; rfl
def GF (TG TS : Nat) (g : Gp) : Nat → Value → Nat → HRes := GrpF TG TS 42 (yq g) (numsG g.length) (esG g) (lsG g)
theorem GF_none {TG TS : Nat} {g : Gp} {k : ByteArray} (s : GSpan) (h : x9 (yq g) k 0 = none) : GF TG TS (gput g k s) = GrpF TG TS 42 (yq g ++ [k]) (numsG (g.length + 1)) (esG g ++ [atG k]) (lsG g ++ [[s.av]]) := by
  unfold GF
  rw [gput_none s h]
  simp [yq, esG, lsG]
theorem GF_some {TG TS : Nat} {g : Gp} {k : ByteArray} {i : Nat} {l : List GSpan} (s : GSpan) (hg : g[i]? = some (k, l)) : GF TG TS (g.set i (k, l ++ [s])) = GrpF TG TS 42 (yq g) (numsG g.length) (esG g) ((lsG g).set i (l.map GSpan.av ++ [s.av])) := by
  have hi := (List.getElem?_eq_some_iff.1 hg).1
  have set_id : ∀ {α β : Type} (f : α → β) (l : List α) (i : Nat) (x y : α), l[i]? = some x → f y = f x → (l.set i y).map f = l.map f := by
    intro α β f l
    induction l with
    | nil => intro i x y h _; simp at h
    | cons z l ih =>
      intro i x y h hf
      cases i with
      | zero => simp at h; subst h; simp [hf]
      | succ i => simp only [List.set_cons_succ, List.map_cons]; rw [ih i x y (by simpa using h) hf]
  unfold GF
  have e1 : yq (g.set i (k, l ++ [s])) = yq g := set_id _ g i (k, l) _ hg rfl
  have e2 : esG (g.set i (k, l ++ [s])) = esG g := set_id _ g i (k, l) _ hg rfl
  have e3 : lsG (g.set i (k, l ++ [s])) = (lsG g).set i (l.map GSpan.av ++ [s.av]) := by
    unfold lsG; rw [List.map_set]; simp
  rw [e1, e2, e3, List.length_set]
theorem get_snoc {α : Type} {l : List α} (x : α) {n : Nat} (h : l.length = n) : (l ++ [x])[n]? = some x := by subst h; simp
theorem set_snoc {α : Type} {l : List α} (x y : α) {n : Nat} (h : l.length = n) : (l ++ [x]).set n y = l ++ [y] := by subst h; simp
theorem grp_take {ks : List ByteArray} {ss : List GSpan} {i : Nat} (hi : i < (ks.zip ss).length) : grp ((ks.zip ss).take (i + 1)) = gput (grp ((ks.zip ss).take i)) (nth ks i ⟨#[]⟩) (nth ss i gs0) := by
  have e : nth (ks.zip ss) i rq0 = (nth ks i ⟨#[]⟩, nth ss i gs0) := zip_nth hi
  rw [yG (yr (d := rq0) hi), e, grp_snoc]
theorem look_gen {st : Al.St} {k : Nat} {F F' : Nat → Value → Nat → HRes} (h : Al.look st k = .gen F) (e : F = F') : Al.look st k = .gen F' := by rw [h, e]
end Go.Proofs
namespace Go.Proofs
open Go Go.Al
set_option maxRecDepth 10000
set_option maxHeartbeats 8000000 in
theorem addNew_c (g : Gp) (k : ByteArray) (x : GSpan) (hm : x9 (yq g) k 0 = none) (hg : g.length ≤ 9000000) : wV Tryd.prog Γ0 40 [.ptr 100001 0, .imm (sv k), .imm x.av] [(100001, .gen (GF 94 64 g))] (.tup []) [(100001, .gen (GF 94 64 (gput g k x)))] := by
  rw [GF_none x hm]
  refine x_ (rs := []) Tryd.func40 rfl Tryd.ntmps40 (by kernel_rfl) rfl rfl rfl rfl rfl fun w0 I0 G0 E => ?_
  refine zD <| zB <| g_uG (zd 1005 rfl rfl rfl rfl) rfl <| zG <| zA <| zD ?_
  refine aw_openG' 100001 1090 3091 1092 rfl rfl rfl rfl (fun bs hb1 hb2 => ?_)
  have hb3 : bs.length = g.length := hb1.trans (esG_len g)
  have hrl : (xX (esG g) bs).length = g.length := by rw [rowsX_len hb1, esG_len]
  refine zB <| g_u (xu rfl rfl) <| g_u (yX rfl rfl) <| g_u (zF rfl rfl fa94_0 rfl) <| g_u (wF rfl rfl rfl tA92 tS92 rfl rfl rfl) <| g_u (zC rfl rfl) <| g_u (s_lookupNo rfl rfl rfl rfl Tryd.underlying92 Tryd.underlying9 hm zv3 rfl) <| g_u (xN rfl rfl) <| g_u (zP rfl rfl rfl rfl) <| g_u (zP rfl rfl rfl rfl) <| g_u (zE rfl rfl) <| g_u (zE rfl rfl) <| zG <| zA <| zD <| zD <| zB <| g_u (zC rfl rfl) <| g_u (wv rfl rfl) <| zG <| zA <| zl rfl <| zD <| zB <| g_u (xu rfl rfl) <| g_u (yX rfl rfl) <| g_u (zF rfl rfl fa94_1 rfl) <| g_u (yy rfl rfl rfl tA22 tS22 rfl rfl) <| g_u (yB rfl rfl Tryd.underlying22) <| g_u (zE rfl rfl) <| zG <| zA <| zD <| zB <| g_u (xu rfl rfl) <| g_u (yX rfl rfl) <| g_u (zF rfl rfl fa94_0 rfl) <| g_u (wF rfl rfl rfl tA92 tS92 rfl rfl rfl) <| g_u (zC rfl rfl) <| g_u (zC rfl rfl) <| g_u (s_mapUpdate rfl rfl rfl rfl Tryd.underlying92 Tryd.underlying9) <| zG <| zA ?_
  rw [hrl]
  rw [show mputK (yq g) k = yq g ++ [k] from by simp only [mputK, hm], show mputV (yq g) (numsG g.length) k (iv (g.length : Int)) = numsG (g.length + 1) from by simp only [mputV, hm]; exact numsG_snoc _]
  refine y3 wn <| g_u (xu rfl rfl) <| g_u (xu rfl rfl) <| g_u (yX rfl rfl) <| g_u (zF rfl rfl fa94_1 rfl) <| g_u (yy rfl rfl rfl tA22 tS22 rfl rfl) <| g_u (zC rfl rfl) ?_
  refine g_u (zS (nil1 (n := 7) (named_c [] k trivial (by decide))) rfl rfl) ?_
  refine g_u (yh rfl tZ64 us64 pl64 rfl rfl rfl rfl) <| g_uG (s_buildOwn1 1039 (X0 := z64) rfl rfl rfl Tryd.underlying59 tS64 tZ64 rfl rfl rfl rfl rfl rfl rfl) rfl <| g_u (s_buildSV rfl tZ61 us61 pl61 rfl rfl) <| g_uG (s_buildOwn1 1041 (X0 := z61) rfl rfl rfl Tryd.underlying22 tS61 tZ61 rfl rfl rfl rfl rfl rfl rfl) rfl ?_
  refine g_uG (s_appendG 3093 42 rfl rfl rfl rfl rfl rfl rfl rfl rfl rfl rfl rfl rfl Tryd.underlying22 Tryd.underlying22 tS61 zv61 rfl by61 (by rw [hrl]; omega) (by rw [hrl]; omega)) rfl ?_
  refine g_u (yX rfl rfl) <| g_u (zF rfl rfl fa94_1 rfl) <| g_u (wZ rfl rfl rfl rfl tS22 rfl rfl) ?_
  refine zG ⟨by kernel_rfl, ?_⟩
  refine zA ?_
  refine aw_openOut 100001 1090 3093 1092 bs (lsG g) (xX (esG g) bs) (atG k) 94 64 42 rfl rfl rfl rfl rfl (fun b => ?_)
  rw [rowsX_snoc (atG k) b hb1]
  refine zD ?_
  have hr := rowsX_get (get_snoc (atG k) (esG_len g)) (get_snoc b hb3)
  refine zB <| g_u (xu rfl rfl) <| g_u (yX rfl rfl) <| g_u (zF rfl rfl fa94_1 rfl) <| g_u (yy rfl rfl rfl tA22 tS22 rfl rfl) <| g_u (zC rfl rfl) ?_
  refine g_u (zf rfl rfl rfl Tryd.underlying22 tS61 (by omega) hr) ?_
  refine g_u (s_fieldAddr_cp rfl rfl fa61_1 rfl rfl) <| g_u (zk rfl rfl tA59 tS59 rfl rfl) ?_
  refine g_u (s_ixRaw rfl rfl rfl Tryd.underlying59 tS64 (by decide)) ?_
  refine g_u (zE rfl rfl) <| zG <| zA ?_
  refine aw_endG 100001 1090 3093 1092 (bs ++ [b]) 94 64 42 (yq g ++ [k]) (numsG (g.length + 1)) (esG g ++ [atG k]) (lsG g ++ [[x.av]]) rfl (by simp only [List.length_append, hb1]; rfl) ?_
  refine y3 wn <| g_u (zC rfl rfl) <| g_u (zC rfl rfl) <| g_u (s_nilRaw rfl rfl) <| g_u (s_fieldRaw rfl rfl fa64_2 rfl) <| g_uG (s_loadSc 1092 3094 g.length rfl rfl rfl rfl rfl rfl rfl (get_snoc b hb3) (get_snoc [] (lsG_len g)) tA44 tS44) rfl ?_
  refine g_u (zH rfl rfl rfl tA36 tS36 rfl (by first | exact xn (GSpan.width _) rfl | rfl)) ?_
  refine g_u (z_ (X0 := z36) rfl Tryd.underlying44 tS36 tZ36 rfl rfl rfl rfl rfl rfl rfl rfl) ?_
  refine g_u (yH rfl rfl rfl rfl rfl Tryd.underlying44 Tryd.underlying44 tS36 zv36 rfl (by decide) by36 (by (try dsimp only); simp only [List.length_append, List.length_cons, List.length_nil, List.length_map]; omega) (by (try dsimp only); simp only [List.length_append, List.length_cons, List.length_nil, List.length_map]; omega)) ?_
  refine g_u (s_nilRaw rfl rfl) <| g_u (s_fieldRaw rfl rfl fa64_2 rfl) <| g_u (s_storeSc 1092 3094 g.length rfl rfl rfl rfl rfl rfl (get_snoc b hb3) tS44) ?_
  refine zG ⟨by kernel_rfl, ?_⟩
  refine zA ?_
  refine ⟨rfl, rfl, rfl, (by rw [← set_snoc (x := []) (y := [x.av]) (lsG_len g)]; rfl), ?_⟩
  exact ⟨trivial, ⟨rfl, trivial⟩⟩
set_option maxHeartbeats 8000000 in
theorem addOld_c (g : Gp) (k : ByteArray) (x : GSpan) (i : Nat) (l : List GSpan) (hm : x9 (yq g) k 0 = some i) (hgi : g[i]? = some (k, l)) (hl : l.length ≤ 9000000) : wV Tryd.prog Γ0 40 [.ptr 100001 0, .imm (sv k), .imm x.av] [(100001, .gen (GF 94 64 g))] (.tup []) [(100001, .gen (GF 94 64 (g.set i (k, l ++ [x]))))] := by
  rw [GF_some x hgi]
  have hi : i < g.length := (List.getElem?_eq_some_iff.1 hgi).1
  have hls : (lsG g)[i]? = some (l.map GSpan.av) := by simp [lsG, hgi]
  refine x_ (rs := []) Tryd.func40 rfl Tryd.ntmps40 (by kernel_rfl) rfl rfl rfl rfl rfl fun w0 I0 G0 E => ?_
  refine zD <| zB <| g_uG (zd 1005 rfl rfl rfl rfl) rfl <| zG <| zA <| zD ?_
  refine aw_openG' 100001 1090 3091 1092 rfl rfl rfl rfl (fun bs hb1 hb2 => ?_)
  have hb3 : bs.length = g.length := hb1.trans (esG_len g)
  have hrl : (xX (esG g) bs).length = g.length := by rw [rowsX_len hb1, esG_len]
  refine zB <| g_u (xu rfl rfl) <| g_u (yX rfl rfl) <| g_u (zF rfl rfl fa94_0 rfl) <| g_u (wF rfl rfl rfl tA92 tS92 rfl rfl rfl) <| g_u (zC rfl rfl) <| g_u (s_lookupYes rfl rfl rfl rfl Tryd.underlying92 Tryd.underlying9 hm (numsG_get hi)) <| g_u (xN rfl rfl) <| g_u (zP rfl rfl rfl rfl) <| g_u (zP rfl rfl rfl rfl) <| g_u (zE rfl rfl) <| g_u (zE rfl rfl) <| zG <| zA <| zD <| zD <| zB <| g_u (zC rfl rfl) <| g_u (wv rfl rfl) <| zG <| zA <| yL rfl <| za <| zA <| zD ?_
  obtain ⟨b, hb⟩ := get_nth hb3 hi
  have hr := rowsX_get (show (esG g)[i]? = some (atG k) by simp [esG, hgi]) hb
  refine zB <| g_u (xu rfl rfl) <| g_u (yX rfl rfl) <| g_u (zF rfl rfl fa94_1 rfl) <| g_u (yy rfl rfl rfl tA22 tS22 rfl rfl) <| g_u (zC rfl rfl) ?_
  refine g_u (zf rfl rfl rfl Tryd.underlying22 tS61 (by omega) hr) ?_
  refine g_u (s_fieldAddr_cp rfl rfl fa61_1 rfl rfl) <| g_u (zk rfl rfl tA59 tS59 rfl rfl) ?_
  refine g_u (s_ixRaw rfl rfl rfl Tryd.underlying59 tS64 (by decide)) ?_
  refine g_u (zE rfl rfl) <| zG <| zA <| aw_endG 100001 1090 3091 1092 bs 94 64 42 (yq g) (numsG g.length) (esG g) ((lsG g).set i (l.map GSpan.av ++ [x.av])) rfl hb1 <| y3 wn <| g_u (zC rfl rfl) <| g_u (zC rfl rfl) <| g_u (s_nilRaw rfl rfl) <| g_u (s_fieldRaw rfl rfl fa64_2 rfl) <| g_uG (s_loadSc 1092 3094 i rfl rfl rfl rfl rfl rfl rfl hb hls tA44 tS44) rfl ?_
  refine g_u (zH rfl rfl rfl tA36 tS36 rfl (by first | exact xn (GSpan.width _) rfl | rfl)) ?_
  refine g_u (z_ (X0 := z36) rfl Tryd.underlying44 tS36 tZ36 rfl rfl rfl rfl rfl rfl rfl rfl) ?_
  refine g_u (yH rfl rfl rfl rfl rfl Tryd.underlying44 Tryd.underlying44 tS36 zv36 rfl (by decide) by36 (by (try dsimp only); simp only [List.length_append, List.length_cons, List.length_nil, List.length_map]; omega) (by (try dsimp only); simp only [List.length_append, List.length_cons, List.length_nil, List.length_map]; omega)) ?_
  refine g_u (s_nilRaw rfl rfl) <| g_u (s_fieldRaw rfl rfl fa64_2 rfl) <| g_u (s_storeSc 1092 3094 i rfl rfl rfl rfl rfl rfl hb tS44) ?_
  refine zG ⟨by kernel_rfl, ?_⟩
  refine zA ?_
  refine ⟨rfl, rfl, rfl, rfl, ?_⟩
  exact ⟨trivial, ⟨rfl, trivial⟩⟩
theorem add_c (g : Gp) (k : ByteArray) (x : GSpan) (hg : g.length ≤ 9000000) (hl : ∀ y ∈ g, y.2.length ≤ 9000000) : wV Tryd.prog Γ0 40 [.ptr 100001 0, .imm (sv k), .imm x.av] [(100001, .gen (GF 94 64 g))] (.tup []) [(100001, .gen (GF 94 64 (gput g k x)))] := by
  cases h : x9 (yq g) k 0 with
  | none => exact addNew_c g k x h hg
  | some i =>
    obtain ⟨l, h1, h2⟩ := gput_some x h
    rw [h2, Nat.sub_zero]
    rw [Nat.sub_zero] at h1
    exact addOld_c g k x i l h h1 (hl _ (List.mem_of_getElem? h1))
end Go.Proofs
namespace Go.Proofs
open Go Go.Al
set_option maxRecDepth 10000
set_option maxHeartbeats 8000000 in
theorem group_c (ks : List ByteArray) (ss : List GSpan) (hk : ks.length ≤ 9000000) (hs : ss.length ≤ 9000000) : zi Tryd.prog Γ0 18 [.sl 1 (ks.map fun x => sv x), .sl 42 (ss.map GSpan.av)] [yd (groupM (ks.zip ss))] := by
  have qz := zip_len ks ss
  refine zO Tryd.func18 rfl Tryd.ntmps18 (by kernel_rfl) rfl fun w0 I0 G0 => ?_
  refine zD <| zB <| g_uG (zg 1004 rfl rfl rfl tZ24) rfl <| zG <| zA <| zD <| zB <| g_uG (s_makeMap 1007 rfl rfl rfl) rfl <| g_u (s_buildSV rfl tZ94 us94 pl94 rfl rfl) <| g_uG (s_box 1009 rfl rfl rfl rfl rfl rfl) rfl <| g_u (s_as_ptr rfl rfl) <| zG <| zA <| xf 3009 1009 2 1 rfl rfl rfl rfl rfl rfl rfl <| aw_newSc 1092 64 42 rfl rfl rfl <| aw_closeG 1009 1007 3009 1092 [] 94 64 42 [] [] [] [] rfl rfl rfl rfl rfl rfl <| zD <| zD <| zB <| g_u (zC rfl rfl) <| g_u (yB rfl rfl Tryd.underlying37) <| g_u (zC rfl rfl) <| g_u (yB rfl rfl Tryd.underlying44) <| g_u (s_min rfl rfl rfl) <| g_u (zC rfl rfl) <| zG <| zA <| zQ ?_
  refine yA (fun i : Nat => [(0, .imm (.sl 1 (ks.map fun x => sv x))), (1, .imm (.sl 42 (ss.map GSpan.av))), (4, .ptr 1004 0), (1004, .box 24 (.imm z24)), (5, .ptr 1009 0), (1009, .gen (GF 94 64 (grp ((ks.zip ss).take i)))), (14, .imm (iv ((ks.zip ss).length : Int))), (15, .imm (iv (i : Int)))]) (fun i => i ≤ (ks.zip ss).length) (fun i => (ks.zip ss).length - i) (0) ?_ ⟨rfl, rfl, rfl, rfl, rfl, rfl, zX rfl (by simp only [List.length_map]; omega), rfl, trivial⟩ ?_
  · exact Nat.zero_le _
  · rintro i h1; have h1 : i ≤ (ks.zip ss).length := h1
    refine zD <| zB <| g_u (xS rfl rfl rfl) <| zG <| zA <| zD ?_
    refine zT rfl (fun hb1 => ?_) (fun hb1 => ?_)
    · have hi : i < (ks.zip ss).length := by have := of_decide_eq_true hb1; (try simp only [List.length_map] at this); omega
      have hik : i < ks.length := by omega
      have his : i < ss.length := by omega
      have hgl := grp_len ((ks.zip ss).take i)
      have hgt : ((ks.zip ss).take i).length ≤ (ks.zip ss).length := by rw [List.length_take]; omega
      refine za <| zA <| zD <| zQ <| zD <| zB <| g_u (zC rfl rfl) <| g_u (zE rfl rfl) <| zG <| zA <| y3 wn <| g_u (xu rfl rfl) <| g_u (zC rfl rfl) <| g_u (zC rfl rfl) ?_
      refine g_u (zf rfl rfl rfl Tryd.underlying37 tS9 (by omega) (ixStr hik)) ?_
      refine g_u (zk rfl rfl tA9 tS9 rfl rfl) <| g_u (zC rfl rfl) <| g_u (zC rfl rfl) ?_
      refine g_u (zf rfl rfl rfl Tryd.underlying44 tS36 (by omega) (ixS his)) ?_
      refine g_u (zk rfl rfl tA36 tS36 rfl (by first | exact xn (GSpan.width _) rfl | rfl)) ?_
      refine g_uG (xp [(100001, 1009)] (add_c (grp ((ks.zip ss).take i)) (nth ks i ⟨#[]⟩) (nth ss i gs0) (by omega) (fun y hy => by have := grp_row hy; omega)) rfl rfl ⟨.inl rfl, .inl rfl, .inl rfl, trivial⟩ ⟨rfl, trivial⟩ rfl rfl rfl) rfl ?_
      refine zG ⟨by kernel_rfl, ?_⟩
      refine zU <| zA <| zB <| g_u (yZ rfl rfl rfl) <| g_u (zC rfl rfl) <| zG <| zA ?_
      refine ⟨i + 1, hi, ⟨rfl, rfl, rfl, rfl, rfl, look_gen rfl (by rw [grp_take hi]), rfl, zX rfl (by rw [zj (by omega) (by omega)]; rfl), trivial⟩, by (try dsimp only); omega⟩
    · have hin : i = (ks.zip ss).length := by have := of_decide_eq_false hb1; omega
      subst hin
      refine yM <| ze <| ze <| z8 <| zA <| zD ?_
      refine aw_openG' 1009 1090 3091 1092 rfl rfl rfl rfl (fun bs hb1 hb2 => ?_)
      refine aw_finalG 1009 1090 3091 1092 bs _ _ 94 64 42 rfl hb1.symm hb2 rfl rfl rfl <| zB <| g_u (xu rfl rfl) <| g_u (yX rfl rfl) <| g_u (zF rfl rfl fa94_1 rfl) <| g_u (zH rfl rfl rfl tA22 tS22 rfl rfl) <| g_u (yh rfl tU24 us24 pl24 rfl rfl rfl rfl) <| g_u (zL rfl rfl rfl tS24 rfl rfl) <| zG <| zA <| zM ?_
      exact ⟨⟨_, _, _, _, _, _, _, rfl, rfl, tA24, tS24, rfl, rfl, (rfl : toAV _ = some _).trans (congrArg some (by (rw [zip_res, List.take_length]; rfl)))⟩, trivial⟩
theorem nzB_c (b : List GRes) (ho : okB b) (hw : wtB b ≤ 9000000) (hr : ∀ r ∈ b, risA none r.attrs) : zi Tryd.prog Γ0 13 [yd b] [yd (nzB b)] := nzB0_c group_c b ho hw hr
end Go.Proofs
namespace Go.Proofs
open Go Go.Al
theorem plainsZ_wt (ks : List Int) : ∀ l : List GA, wtAs (l.map (yo ks)) ≤ 151 * wtAs l
  | [] => by simp [wtAs]
  | x :: l => by simp only [List.map_cons, wtAs]; have := keptA_wt.plainA_wt' ks x; have := plainsZ_wt ks l; omega
theorem keptZ_wt (l : List GA) : wtAs (keptZ l) ≤ 151 * wtAs l := Nat.le_trans (dropA_wt kZ _) (plainsZ_wt nZ l)
theorem nzS_wt (s : GSpan) : (nzS s).wt ≤ 151 * s.wt := by
  have h1 := keptZ_wt s.attrs
  have h2 := y7 (f := nzE) (g := GE.wt) 1 (fun e => by
    have q : e.wt = 1 + e.name.size + wtAs e.attrs := rfl
    have q2 : (nzE e).wt = 1 + e.name.size + 0 := rfl
    omega) s.events
  have q1 : (nzS s).wt = 1 + 0 + s.name.size + (if s.code = 2 then s.note else ⟨#[]⟩ : ByteArray).size + wtAs (keptZ s.attrs) + zv GE.wt (s.events.map nzE) + 0 := rfl
  have q2 : s.wt = 1 + s.state.size + s.name.size + s.note.size + wtAs s.attrs + zv GE.wt s.events + zv GL.wt s.links := rfl
  have q3 : (if s.code = 2 then s.note else ⟨#[]⟩ : ByteArray).size ≤ s.note.size := by split; exact Nat.le_refl _; exact Nat.zero_le _
  omega
theorem keptZ_ok {l : List GA} (ho : ∀ a ∈ l, a.ok) (hw : wtAs l ≤ 1000000) : ∀ a ∈ keptZ l, a.ok := fun a h => by
  obtain ⟨x, hx, rfl⟩ := List.mem_map.1 (x5 h).1
  exact plainA_ok (ho x hx) (Nat.le_trans (xt hx) hw)
theorem nzS_ok {s : GSpan} (h : s.ok) (hw : s.wt ≤ 1000000) : (nzS s).ok := by
  have qw : s.wt = 1 + s.state.size + s.name.size + s.note.size + wtAs s.attrs + zv GE.wt s.events + zv GL.wt s.links := rfl
  have hr := ofR_rg (BegunM ⟨s.start, s.fin⟩) (LastsM ⟨s.start, s.fin⟩)
  refine ⟨h.1, ⟨e0_ok, h.2.1.2.1, ?_⟩, ⟨?_, hr.1, hr.2, h.2.2.1.2.2.2⟩, keptZ_ok h.2.2.2.1 (by omega), fun e he => ?_, fun e he => by cases he⟩
  · show (if s.code = 2 then s.note else ⟨#[]⟩ : ByteArray).size ≤ maxLen
    split
    · exact h.2.1.2.2
    · exact e0_ok
  · show i64 (if s.kind = 1 then 0 else s.kind)
    split
    · unfold i64; decide
    · exact h.2.2.1.1
  · obtain ⟨x, hx, rfl⟩ := List.mem_map.1 he
    exact ⟨wholeN_rg _, (h.2.2.2.2.1 x hx).2.1, fun a ha => by cases ha⟩
theorem sumBy_perm {α : Type} (f : α → Nat) {l m : List α} (h : l.Perm m) : zv f l = zv f m := by
  induction h with
  | nil => rfl
  | cons x _ ih => simp only [zv, ih]
  | swap x y l => simp only [zv]; omega
  | trans _ _ h1 h2 => exact h1.trans h2
def hK (k : ByteArray) : Nat := 15 + k.size
theorem groups_wt : ∀ g : Gp, wtB (g.map resG) ≤ zv hK (yq g) + zv GSpan.wt (g.flatMap (·.2))
  | [] => Nat.le_refl _
  | x :: g => by
    have ih := groups_wt g
    have h1 := namedM_wt [] x.1
    have q1 : (resG x).wt = 1 + wtAs (wC [] x.1) + (1 + 0 + 0 + zv GSpan.wt x.2 + 0) := rfl
    have q2 : wtB ((x :: g).map resG) = (resG x).wt + wtB (g.map resG) := rfl
    have q3 : zv hK (yq (x :: g)) = hK x.1 + zv hK (yq g) := rfl
    rw [q2, q3, List.flatMap_cons, x7]
    have : wtAs ([] : List GA) = 0 := rfl
    unfold hK at *
    omega
theorem keys_wt : ∀ (b : List GRes) (g : Gp), zv hK (yq (grpF g (yn b))) ≤ zv hK (yq g) + zv (fun r => hK (yO r)) b
  | [], g => by simp [yn, grpF, zv]
  | r :: b, g => by
    have e : yn (r :: b) = (zh r.scopes).map (fun s => (yO r, nzS s)) ++ yn b := List.flatMap_cons
    rw [e, grpF_append]
    have ih := keys_wt b (grpF g ((zh r.scopes).map fun s => (yO r, nzS s)))
    have h1 := keys_one g (rows_one r)
    rw [zv]
    have : zv hK (yq (grpF g ((zh r.scopes).map fun s => (yO r, nzS s)))) ≤ zv hK (yq g) + hK (yO r) := by
      rw [h1]; split
      · omega
      · rw [x7, zv, zv]; omega
    omega
theorem allS_wt : ∀ b : List GRes, zv GSpan.wt (allS b) ≤ zv (fun r => zv GScope.wt r.scopes) b
  | [] => Nat.le_refl _
  | r :: b => by
    have e : allS (r :: b) = zh r.scopes ++ allS b := List.flatMap_cons
    rw [e, x7, zv]
    have := spansOf_wt r.scopes
    have := allS_wt b
    omega
theorem nzB_wt (b : List GRes) : wtB (nzB b) ≤ 400 * wtB b := by
  have h1 := groups_wt (grp (yn b))
  have h2 := keys_wt b []
  have h3 := sumBy_perm GSpan.wt (grp_perm (yn b))
  rw [h3, rowsZ_spans] at h1
  have h4 := y7 (f := nzS) (g := GSpan.wt) 151 nzS_wt (allS b)
  have h5 := allS_wt b
  have h6 : zv (fun r => hK (yO r)) b + 151 * zv (fun r => zv GScope.wt r.scopes) b ≤ 400 * wtB b := by
    clear h1 h2 h3 h4 h5
    induction b with
    | nil => exact Nat.zero_le _
    | cons r b ih =>
      have := serviceM_le r
      have q2 : r.wt = 1 + wtAs r.attrs + zv GScope.wt r.scopes := rfl
      have q3 : wtB (r :: b) = r.wt + wtB b := rfl
      rw [q3, zv, zv]
      unfold hK at *
      omega
  have q0 : zv hK (yq ([] : Gp)) = 0 := rfl
  unfold nzB groupM
  unfold grp at h1 ⊢
  omega
theorem groupM_ok {l : List (ByteArray × GSpan)} (hk : ∀ x ∈ l, x.1.size ≤ maxLen) (hs : ∀ x ∈ l, x.2.ok) : okB (groupM l) := fun r hr => by
  obtain ⟨x, hx, rfl⟩ := List.mem_map.1 hr
  refine ⟨namedM_ok (fun a ha => by cases ha) ?_, fun c hc => ?_⟩
  · rcases keysMem l [] x.1 (List.mem_map.2 ⟨x, hx, rfl⟩) with h | ⟨y, hy, e⟩
    · cases h
    · rw [← e]; exact hk y hy
  · cases List.mem_singleton.1 hc
    refine ⟨e0_ok, e0_ok, fun s hs' => ?_⟩
    have h1 : s ∈ (grp l).flatMap (·.2) := List.mem_flatMap.2 ⟨x, hx, hs'⟩
    have h2 := (grp_perm l).mem_iff.1 h1
    obtain ⟨y, hy, rfl⟩ := List.mem_map.1 h2
    exact hs y hy
theorem nzB_ok {b : List GRes} (h : okB b) (hw : wtB b ≤ 1000000) : okB (nzB b) := by
  refine groupM_ok (fun x hx => ?_) fun x hx => ?_
  · obtain ⟨r, hr, e, _⟩ := rowsZ_mem hx
    have h1 := serviceM_le r
    have h2 := yE GRes.wt hr
    rw [e]
    unfold wtB at hw
    unfold maxLen; omega
  · obtain ⟨r, hr, _, c, hc, s, hs, e⟩ := rowsZ_mem hx
    rw [e]
    have h2 := yE GRes.wt hr
    have q2 : r.wt = 1 + wtAs r.attrs + zv GScope.wt r.scopes := rfl
    have h3 := yE GScope.wt hc
    have q3 : c.wt = 1 + c.name.size + c.version.size + zv GSpan.wt c.spans := rfl
    have h4 := yE GSpan.wt hs
    unfold wtB at hw
    exact nzS_ok (((h r hr).2 c hc).2.2 s hs) (by omega)
theorem groupM_ris (l : List (ByteArray × GSpan)) : ∀ r ∈ groupM l, risA none r.attrs := fun r hr => by
  obtain ⟨x, _, rfl⟩ := List.mem_map.1 hr
  exact ris_named (l := []) trivial x.1
theorem nzB_ris (b : List GRes) : ∀ r ∈ nzB b, risA none r.attrs := groupM_ris _
end Go.Proofs
namespace Go.Proofs
open Go Go.Al
set_option maxRecDepth 10000
end Go.Proofs
namespace Go.Proofs
open Go Go.Al
end Go.Proofs
namespace Go.Proofs
open Go Go.Al
end Go.Proofs
namespace Go.Proofs
open Go Go.Al
def nkM (f : Int) (b : List GRes) : List GRes := if f = 2 then njB b else if f = 3 then nzB b else b
theorem nk_ok {f : Int} {b : List GRes} (h : okB b) (hw : wtB b ≤ 1000000) : okB (nkM f b) := by
  unfold nkM; split
  · exact njB_ok h hw
  · split
    · exact nzB_ok h hw
    · exact h
theorem nk_wt (f : Int) (b : List GRes) : wtB (nkM f b) ≤ 400 * wtB b := by
  have h1 := njB_wt b; have h2 := nzB_wt b
  unfold nkM; split
  · exact h1
  · split
    · exact h2
    · omega
theorem nk_ris {f : Int} {b : List GRes} (h : ∀ r ∈ b, risA none r.attrs) : ∀ r ∈ nkM f b, risA none r.attrs := by
  unfold nkM; split
  · exact njB_ris h
  · split
    · exact nzB_ris b
    · exact h
def kOtlp : ByteArray := ⟨#[111, 116, 108, 112]⟩
def kJaeger : ByteArray := ⟨#[106, 97, 101, 103, 101, 114]⟩
def kZipkin : ByteArray := ⟨#[122, 105, 112, 107, 105, 110]⟩
def xa (f : Int) : ByteArray := if f = 1 then kOtlp else if f = 2 then kJaeger else if f = 3 then kZipkin else ⟨#[]⟩
def findM (w : ByteArray) : Int := if xa 1 = w then 1 else if xa 2 = w then 2 else if xa 3 = w then 3 else 0
def fmtM (f : Int) : Bool := decide (1 ≤ f) && decide (f ≤ 3)
theorem w1 {f : Int} (h : f = 1) : xa f = kOtlp := by subst h; rfl
theorem w2 {f : Int} (h : f = 2) : xa f = kJaeger := by subst h; rfl
theorem w3 {f : Int} (h : f = 3) : xa f = kZipkin := by subst h; rfl
theorem w4 {f : Int} (h1 : ¬ f = 1) (h2 : ¬ f = 2) (h3 : ¬ f = 3) : xa f = ⟨#[]⟩ := by unfold xa; rw [if_neg h1, if_neg h2, if_neg h3]
theorem nk2 {f : Int} (b : List GRes) (h : f = 2) : nkM f b = njB b := by subst h; rfl
theorem nk3 {f : Int} (b : List GRes) (h : f = 3) : nkM f b = nzB b := by subst h; rfl
theorem nk1 {f : Int} (b : List GRes) (h2 : ¬ f = 2) (h3 : ¬ f = 3) : nkM f b = b := by unfold nkM; rw [if_neg h2, if_neg h3]
theorem fmt_t {f : Int} (h : 1 ≤ f) : fmtM f = decide (f ≤ 3) := by unfold fmtM; rw [decide_eq_true h]; rfl
theorem fmt_f {f : Int} (h : ¬ 1 ≤ f) : fmtM f = false := by unfold fmtM; rw [decide_eq_false h]; rfl
theorem find_at {w : ByteArray} {i : Nat} (h : ∀ j : Nat, 1 ≤ j → j ≤ i → xa j ≠ w) (q : xa ((i : Int) + 1) = w) (hi : i < 3) : findM w = (i : Int) + 1 := by
  unfold findM
  rcases (show i = 0 ∨ i = 1 ∨ i = 2 by omega) with rfl | rfl | rfl
  · rw [if_pos (show xa 1 = w from q)]; rfl
  · rw [if_neg (show ¬ xa 1 = w from h 1 (by omega) (by omega)), if_pos (show xa 2 = w from q)]; rfl
  · rw [if_neg (show ¬ xa 1 = w from h 1 (by omega) (by omega)), if_neg (show ¬ xa 2 = w from h 2 (by omega) (by omega)), if_pos (show xa 3 = w from q)]; rfl
theorem find_no {w : ByteArray} (h : ∀ j : Nat, 1 ≤ j → j ≤ 3 → xa j ≠ w) : findM w = 0 := by
  unfold findM
  rw [if_neg (show ¬ xa 1 = w from h 1 (by omega) (by omega)), if_neg (show ¬ xa 2 = w from h 2 (by omega) (by omega)), if_neg (show ¬ xa 3 = w from h 3 (by omega) (by omega))]
theorem find_step {w : ByteArray} {i : Nat} (h : ∀ j : Nat, 1 ≤ j → j ≤ i → xa j ≠ w) (q : ¬ xa ((i : Int) + 1) = w) : ∀ j : Nat, 1 ≤ j → j ≤ i + 1 → xa j ≠ w := fun j h1 h2 => by
  rcases Nat.lt_or_ge i j with h3 | h3
  · rw [show j = i + 1 by omega]; exact q
  · exact h j h1 h3
theorem find_ne {i : Nat} : (((i : Int) + 1) != 0) = true := bne_iff_ne.2 (by omega)
end Go.Proofs
namespace Go.Proofs
open Go Go.Al
set_option maxRecDepth 10000
theorem fis_c (f : Int) : zi Tryd.prog Γ0 42 [iv f] [bv (fmtM f)] := by
  refine zO Tryd.func42 rfl Tryd.ntmps42 (by kernel_rfl) rfl fun w0 I0 G0 => ?_
  refine zD <| zB <| g_u (zE rfl rfl) <| zG <| zA <| zD <| zB <| g_u (zC rfl rfl) <| g_u (s_geI rfl rfl rfl) <| g_u (zC rfl rfl) <| yP (t := 5) rfl ?_
  rintro (hb1 | hb1)
  · rw [hb1]
    have q5 : 1 ≤ f := of_decide_eq_true hb1
    refine zZ rfl rfl (zC rfl rfl) <| zZ rfl rfl (s_leI rfl rfl rfl) <| g_u (zR rfl rfl rfl) <| g_u (zE rfl rfl) <| zG <| zA <| zM ?_
    exact ⟨⟨(rfl : toAV (Al.look _ _) = some _).trans (congrArg some (by (first | rw [fmt_t q5] | rw [fmt_f q5]))), rfl⟩, trivial⟩
  · rw [hb1]
    have q5 : ¬ 1 ≤ f := of_decide_eq_false hb1
    refine zI rfl rfl rfl <| zI rfl rfl rfl <| g_u (zp rfl rfl rfl) <| g_u (zE rfl rfl) <| zG <| zA <| zM ?_
    exact ⟨⟨(rfl : toAV (Al.look _ _) = some _).trans (congrArg some (by (first | rw [fmt_t q5] | rw [fmt_f q5]))), rfl⟩, trivial⟩
theorem fword_c (f : Int) : zi Tryd.prog Γ0 43 [iv f] [sv (xa f)] := by
  refine zO Tryd.func43 rfl Tryd.ntmps43 (by kernel_rfl) rfl fun w0 I0 G0 => ?_
  refine zD <| zB <| g_u (zE rfl rfl) <| zG <| zA <| zD <| zD <| zB <| g_u (zC rfl rfl) <| zG <| zA <| zQ <| zD <| zB <| g_u (xx rfl rfl rfl) <| g_u (zE rfl rfl) <| zG <| zA ?_
  refine zT rfl (fun hb1 => ?_) (fun hb1 => ?_)
  · have q1 : f = 1 := beq_iff_eq.1 hb1
    refine zD <| zB <| g_u (zE rfl rfl) <| zG <| zA <| zM <| z7 <| zV ?_
    exact ⟨⟨(rfl : toAV (Al.look _ _) = some _).trans (congrArg some (by (first | (rw [w1 q1]; rfl) | (rw [w2 q2]; rfl) | (rw [w3 q3]; rfl) | (rw [w4 q1 q2 q3])))), rfl⟩, trivial⟩
  · have q1 : ¬ f = 1 := qe.1 hb1
    refine zD <| zB <| g_u (xx rfl rfl rfl) <| g_u (zE rfl rfl) <| zG <| zA ?_
    refine zT rfl (fun hb2 => ?_) (fun hb2 => ?_)
    · have q2 : f = 2 := beq_iff_eq.1 hb2
      refine zD <| zB <| g_u (zE rfl rfl) <| zG <| zA <| zM <| z7 <| zV ?_
      exact ⟨⟨(rfl : toAV (Al.look _ _) = some _).trans (congrArg some (by (first | (rw [w1 q1]; rfl) | (rw [w2 q2]; rfl) | (rw [w3 q3]; rfl) | (rw [w4 q1 q2 q3])))), rfl⟩, trivial⟩
    · have q2 : ¬ f = 2 := qe.1 hb2
      refine zD <| zB <| g_u (xx rfl rfl rfl) <| g_u (zE rfl rfl) <| zG <| zA ?_
      refine zT rfl (fun hb3 => ?_) (fun hb3 => ?_)
      · have q3 : f = 3 := beq_iff_eq.1 hb3
        refine zD <| zB <| g_u (zE rfl rfl) <| zG <| zA <| zM <| z7 <| zV ?_
        exact ⟨⟨(rfl : toAV (Al.look _ _) = some _).trans (congrArg some (by (first | (rw [w1 q1]; rfl) | (rw [w2 q2]; rfl) | (rw [w3 q3]; rfl) | (rw [w4 q1 q2 q3])))), rfl⟩, trivial⟩
      · have q3 : ¬ f = 3 := qe.1 hb3
        refine za <| zU <| zA <| zD <| zB <| g_u (zE rfl rfl) <| zG <| zA <| zM ?_
        exact ⟨⟨(rfl : toAV (Al.look _ _) = some _).trans (congrArg some (by (first | (rw [w1 q1]; rfl) | (rw [w2 q2]; rfl) | (rw [w3 q3]; rfl) | (rw [w4 q1 q2 q3])))), rfl⟩, trivial⟩
theorem rfword_c (f : Int) : zi Tryd.prog Γ0 44 [iv f] [sv (xa f)] := by
  refine zO Tryd.func44 rfl Tryd.ntmps44 (by kernel_rfl) rfl fun w0 I0 G0 => ?_
  refine zD <| zB <| g_u (zE rfl rfl) <| zG <| zA <| zD <| zD <| zB <| g_u (zC rfl rfl) <| g_u (xx rfl rfl rfl) <| zG <| zA ?_
  refine zT rfl (fun hb1 => ?_) (fun hb1 => ?_)
  · have q1 : f = 1 := beq_iff_eq.1 hb1
    refine zD <| zB <| g_u (zE rfl rfl) <| zG <| zA <| zM <| zV ?_
    exact ⟨⟨(rfl : toAV (Al.look _ _) = some _).trans (congrArg some (by (first | (rw [w1 q1]; rfl) | (rw [w2 q2]; rfl) | (rw [w3 q3]; rfl) | (rw [w4 q1 q2 q3])))), rfl⟩, trivial⟩
  · have q1 : ¬ f = 1 := qe.1 hb1
    refine za <| zA <| zD <| zD <| zB <| g_u (zC rfl rfl) <| g_u (xx rfl rfl rfl) <| zG <| zA ?_
    refine zT rfl (fun hb2 => ?_) (fun hb2 => ?_)
    · have q2 : f = 2 := beq_iff_eq.1 hb2
      refine zD <| zB <| g_u (zE rfl rfl) <| zG <| zA <| zM <| zV ?_
      exact ⟨⟨(rfl : toAV (Al.look _ _) = some _).trans (congrArg some (by (first | (rw [w1 q1]; rfl) | (rw [w2 q2]; rfl) | (rw [w3 q3]; rfl) | (rw [w4 q1 q2 q3])))), rfl⟩, trivial⟩
    · have q2 : ¬ f = 2 := qe.1 hb2
      refine za <| zA <| zD <| zD <| zB <| g_u (zC rfl rfl) <| g_u (xx rfl rfl rfl) <| zG <| zA ?_
      refine zT rfl (fun hb3 => ?_) (fun hb3 => ?_)
      · have q3 : f = 3 := beq_iff_eq.1 hb3
        refine zD <| zB <| g_u (zE rfl rfl) <| zG <| zA <| zM <| zV ?_
        exact ⟨⟨(rfl : toAV (Al.look _ _) = some _).trans (congrArg some (by (first | (rw [w1 q1]; rfl) | (rw [w2 q2]; rfl) | (rw [w3 q3]; rfl) | (rw [w4 q1 q2 q3])))), rfl⟩, trivial⟩
      · have q3 : ¬ f = 3 := qe.1 hb3
        refine za <| zA <| zD <| zB <| g_u (zE rfl rfl) <| zG <| zA <| zM ?_
        exact ⟨⟨(rfl : toAV (Al.look _ _) = some _).trans (congrArg some (by (first | (rw [w1 q1]; rfl) | (rw [w2 q2]; rfl) | (rw [w3 q3]; rfl) | (rw [w4 q1 q2 q3])))), rfl⟩, trivial⟩
theorem ffind_c (w : ByteArray) : zi Tryd.prog Γ0 20 [sv w] [iv (findM w), bv (findM w != 0)] := by
  refine zO Tryd.func20 rfl Tryd.ntmps20 (by kernel_rfl) rfl fun w0 I0 G0 => ?_
  refine zD <| zB <| g_u (zE rfl rfl) <| g_u (zE rfl rfl) <| zG <| zA <| zD <| zD <| zB <| g_u (zE rfl rfl) <| zG <| zA <| zQ ?_
  refine yA (fun i : Nat => [(0, .imm (sv w)), (4, .imm (iv ((i : Int) + 1)))]) (fun i => (i ≤ 3 ∧ ∀ j : Nat, 1 ≤ j → j ≤ i → xa j ≠ w)) (fun i => 3 - i) (0) ?_ ⟨rfl, rfl, trivial⟩ ?_
  · exact ⟨Nat.zero_le _, fun j h1 h2 => absurd h1 (by omega)⟩
  · rintro i ⟨h1, h2⟩; (try dsimp only at h1 h2)
    refine zD <| zD <| zB <| g_u (zC rfl rfl) <| g_u (zS (fis_c _) rfl rfl) <| zG <| zA ?_
    refine zT rfl (fun hb1 => ?_) (fun hb1 => ?_)
    · have hi : i < 3 := by have e := hb1; rw [fmt_t (by omega)] at e; have := of_decide_eq_true e; omega
      refine za <| zA <| zD <| zQ <| zD <| zB <| g_u (zC rfl rfl) <| g_u (zS (fword_c _) rfl rfl) <| g_u (zC rfl rfl) <| g_u (s_eqS rfl rfl rfl) <| zG <| zA ?_
      refine zT rfl (fun hb2 => ?_) (fun hb2 => ?_)
      · have q : xa ((i : Int) + 1) = w := by have e := hb2; rw [yY] at e; exact of_decide_eq_true e
        refine zD <| zB <| g_u (zC rfl rfl) <| g_u (zE rfl rfl) <| g_u (zE rfl rfl) <| zG <| zA <| zM <| z7 <| zV <| zV <| z7 <| zV ?_
        exact ⟨⟨(rfl : toAV (Al.look _ _) = some _).trans (congrArg some (by (first | (rw [find_at h2 q hi]; first | done | rw [find_ne]) | (rw [find_no (fun j h3 h4 => h2 j h3 (by omega))]; first | done | rfl)))), rfl⟩, ⟨(rfl : toAV (Al.look _ _) = some _).trans (congrArg some (by (first | (rw [find_at h2 q hi]; first | done | rw [find_ne]) | (rw [find_no (fun j h3 h4 => h2 j h3 (by omega))]; first | done | rfl)))), rfl⟩, trivial⟩
      · have q : ¬ xa ((i : Int) + 1) = w := by have e := hb2; rw [yY] at e; exact of_decide_eq_false e
        refine za <| zU <| zA <| zB <| g_u (zC rfl rfl) <| g_u (yZ rfl rfl rfl) <| g_u (zE rfl rfl) <| zG <| zA ?_
        refine ⟨i + 1, ⟨by (try dsimp only); omega, find_step h2 q⟩, ⟨rfl, zX rfl (by rw [zj (by omega) (by omega)]; rfl), trivial⟩, by (try dsimp only); omega⟩
    · have hn : ¬ i < 3 := fun h => by have e := hb1; rw [fmt_t (by omega), decide_eq_true (by omega)] at e; cases e
      refine yM <| ze <| ze <| z8 <| zA <| zD <| zB <| g_u (zE rfl rfl) <| g_u (zE rfl rfl) <| zG <| zA <| zM ?_
      exact ⟨⟨(rfl : toAV (Al.look _ _) = some _).trans (congrArg some (by (first | (rw [find_at h2 q hi]; first | done | rw [find_ne]) | (rw [find_no (fun j h3 h4 => h2 j h3 (by omega))]; first | done | rfl)))), rfl⟩, ⟨(rfl : toAV (Al.look _ _) = some _).trans (congrArg some (by (first | (rw [find_at h2 q hi]; first | done | rw [find_ne]) | (rw [find_no (fun j h3 h4 => h2 j h3 (by omega))]; first | done | rfl)))), rfl⟩, trivial⟩
theorem rffind_c (w : ByteArray) : zi Tryd.prog Γ0 21 [sv w] [iv (findM w)] := by
  refine zO Tryd.func21 rfl Tryd.ntmps21 (by kernel_rfl) rfl fun w0 I0 G0 => ?_
  refine zD <| zB <| g_u (zE rfl rfl) <| zG <| zA <| zD <| zD <| zB <| g_u (zE rfl rfl) <| zG <| zA <| zQ ?_
  refine yA (fun i : Nat => [(0, .imm (sv w)), (3, .imm (iv ((i : Int) + 1)))]) (fun i => (i ≤ 3 ∧ ∀ j : Nat, 1 ≤ j → j ≤ i → xa j ≠ w)) (fun i => 3 - i) (0) ?_ ⟨rfl, rfl, trivial⟩ ?_
  · exact ⟨Nat.zero_le _, fun j h1 h2 => absurd h1 (by omega)⟩
  · rintro i ⟨h1, h2⟩; (try dsimp only at h1 h2)
    refine zD <| zD <| zB <| g_u (zC rfl rfl) <| g_u (s_leI rfl rfl rfl) <| zG <| zA ?_
    refine zT rfl (fun hb1 => ?_) (fun hb1 => ?_)
    · have hi : i < 3 := by have := of_decide_eq_true hb1; omega
      refine za <| zA <| zD <| zQ <| zD <| zB <| g_u (zC rfl rfl) <| g_u (zS (rfword_c _) rfl rfl) <| g_u (zC rfl rfl) <| g_u (s_eqS rfl rfl rfl) <| zG <| zA ?_
      refine zT rfl (fun hb2 => ?_) (fun hb2 => ?_)
      · have q : xa ((i : Int) + 1) = w := by have e := hb2; rw [yY] at e; exact of_decide_eq_true e
        refine zD <| zB <| g_u (zC rfl rfl) <| g_u (zE rfl rfl) <| zG <| zA <| zM <| z7 <| zV <| zV <| z7 <| zV ?_
        exact ⟨⟨(rfl : toAV (Al.look _ _) = some _).trans (congrArg some (by (first | (rw [find_at h2 q hi]; first | done | rw [find_ne]) | (rw [find_no (fun j h3 h4 => h2 j h3 (by omega))]; first | done | rfl)))), rfl⟩, trivial⟩
      · have q : ¬ xa ((i : Int) + 1) = w := by have e := hb2; rw [yY] at e; exact of_decide_eq_false e
        refine za <| zU <| zA <| zB <| g_u (zC rfl rfl) <| g_u (yZ rfl rfl rfl) <| g_u (zE rfl rfl) <| zG <| zA ?_
        refine ⟨i + 1, ⟨by (try dsimp only); omega, find_step h2 q⟩, ⟨rfl, zX rfl (by rw [zj (by omega) (by omega)]; rfl), trivial⟩, by (try dsimp only); omega⟩
    · have hn : ¬ i < 3 := by have := of_decide_eq_false hb1; omega
      refine yM <| ze <| ze <| z8 <| zA <| zD <| zB <| g_u (zE rfl rfl) <| zG <| zA <| zM ?_
      exact ⟨⟨(rfl : toAV (Al.look _ _) = some _).trans (congrArg some (by (first | (rw [find_at h2 q hi]; first | done | rw [find_ne]) | (rw [find_no (fun j h3 h4 => h2 j h3 (by omega))]; first | done | rfl)))), rfl⟩, trivial⟩
theorem fsame_c (b : List GRes) : zi Tryd.prog Γ0 72 [yd b] [yd b] := by
  refine zO Tryd.func72 rfl Tryd.ntmps72 (by kernel_rfl) rfl fun w0 I0 G0 => ?_
  refine zD <| zB <| g_uG (zd 1001 rfl rfl rfl rfl) rfl <| g_uG (zg 1002 rfl rfl rfl tZ24) rfl <| zG <| zA <| zD <| zB <| g_u (zH rfl rfl rfl tA24 tS24 rfl rfl) <| g_u (zL rfl rfl rfl tS24 rfl rfl) <| zG <| zA <| zM ?_
  exact ⟨⟨_, _, _, _, _, _, _, rfl, rfl, tA24, tS24, rfl, rfl, (rfl : toAV _ = some _).trans (congrArg some (by rfl))⟩, trivial⟩
theorem fkof_c (f : Int) (b : List GRes) (ho : okB b) (hw : wtB b ≤ 9000000) (hr : ∀ r ∈ b, risA none r.attrs) : zi Tryd.prog Γ0 46 [iv f, yd b] [yd (nkM f b)] := by
  refine zO Tryd.func46 rfl Tryd.ntmps46 (by kernel_rfl) rfl fun w0 I0 G0 => ?_
  refine zD <| zB <| g_uG (zd 1003 rfl rfl rfl rfl) rfl <| g_uG (zg 1004 rfl rfl rfl tZ24) rfl <| zG <| zA <| zD <| zB <| g_u (zE rfl rfl) <| zG <| zA <| zD <| zD <| zB <| g_u (zC rfl rfl) <| zG <| zA <| zQ <| zD <| zB <| g_u (xx rfl rfl rfl) <| g_u (zE rfl rfl) <| zG <| zA ?_
  refine zT rfl (fun hb1 => ?_) (fun hb1 => ?_)
  · have q2 : f = 2 := beq_iff_eq.1 hb1
    refine zB <| g_u (zE rfl rfl) <| zG <| zU <| zA <| zD <| zB <| g_u (zC rfl rfl) <| g_u (zH rfl rfl rfl tA24 tS24 rfl rfl) ?_
    refine g_u (xF ((by first | exact njB_c b ho hw hr | exact nzB_c b ho hw hr | exact fsame_c b)) rfl rfl rfl) ?_
    refine g_u (zL rfl rfl rfl tS24 rfl rfl) <| zG <| zA <| zM ?_
    exact ⟨⟨_, _, _, _, _, _, _, rfl, rfl, tA24, tS24, rfl, rfl, (rfl : toAV _ = some _).trans (congrArg some (by (first | rw [nk2 b q2] | rw [nk3 b q3] | rw [nk1 b q2 q3])))⟩, trivial⟩
  · have q2 : ¬ f = 2 := qe.1 hb1
    refine zD <| zB <| g_u (xx rfl rfl rfl) <| g_u (zE rfl rfl) <| zG <| zA ?_
    refine zT rfl (fun hb2 => ?_) (fun hb2 => ?_)
    · have q3 : f = 3 := beq_iff_eq.1 hb2
      refine zB <| g_u (zE rfl rfl) <| zG <| zU <| zA <| zD <| zB <| g_u (zC rfl rfl) <| g_u (zH rfl rfl rfl tA24 tS24 rfl rfl) ?_
      refine g_u (xF ((by first | exact njB_c b ho hw hr | exact nzB_c b ho hw hr | exact fsame_c b)) rfl rfl rfl) ?_
      refine g_u (zL rfl rfl rfl tS24 rfl rfl) <| zG <| zA <| zM ?_
      exact ⟨⟨_, _, _, _, _, _, _, rfl, rfl, tA24, tS24, rfl, rfl, (rfl : toAV _ = some _).trans (congrArg some (by (first | rw [nk2 b q2] | rw [nk3 b q3] | rw [nk1 b q2 q3])))⟩, trivial⟩
    · have q3 : ¬ f = 3 := qe.1 hb2
      refine za <| zU <| zA <| zD <| zB <| g_u (zC rfl rfl) <| g_u (zH rfl rfl rfl tA24 tS24 rfl rfl) ?_
      refine g_u (xF ((by first | exact njB_c b ho hw hr | exact nzB_c b ho hw hr | exact fsame_c b)) rfl rfl rfl) ?_
      refine g_u (zL rfl rfl rfl tS24 rfl rfl) <| zG <| zA <| zM ?_
      exact ⟨⟨_, _, _, _, _, _, _, rfl, rfl, tA24, tS24, rfl, rfl, (rfl : toAV _ = some _).trans (congrArg some (by (first | rw [nk2 b q2] | rw [nk3 b q3] | rw [nk1 b q2 q3])))⟩, trivial⟩
theorem fkept_c (f : Int) (b : List GRes) (ho : okB b) (hw : wtB b ≤ 2400000) (hr : ∀ r ∈ b, risA none r.attrs) : zi Tryd.prog Γ0 71 [.fn (.func 46) [iv f] [], yd b] [bv (decide (nkM f b = b))] := by
  refine zO Tryd.func71 rfl Tryd.ntmps71 (by kernel_rfl) rfl fun w0 I0 G0 => ?_
  refine zD <| zB <| g_uG (zd 1003 rfl rfl rfl rfl) rfl <| g_u (zE rfl rfl) <| zG <| zA <| zD <| y3 wn <| g_u (zC rfl rfl) <| g_u (zH rfl rfl rfl tA24 tS24 rfl rfl) ?_
  refine g_u (xF (fkof_c f b ho (by omega) hr) rfl rfl rfl) ?_
  refine g_u (zH rfl rfl rfl tA24 tS24 rfl rfl) ?_
  refine g_u (zS (psameB_c (nkM f b) b (by have := nk_wt f b; omega)) rfl rfl) ?_
  refine g_u (zE rfl rfl) ?_
  refine zG ⟨by kernel_rfl, ?_⟩
  refine zA <| zM ?_
  exact ⟨⟨(rfl : toAV (Al.look _ _) = some _).trans (congrArg some (by rfl)), rfl⟩, trivial⟩
theorem fall_c (f : Int) (b : List GRes) (ho : okB b) (hw : wtB b ≤ 2400000) (hr : ∀ r ∈ b, risA none r.attrs) : zi Tryd.prog Γ0 45 [iv f, yd b] [bv (decide (nkM f b = b))] := by
  refine zO Tryd.func45 rfl Tryd.ntmps45 (by kernel_rfl) rfl fun w0 I0 G0 => ?_
  refine zD <| zB <| g_uG (zd 1003 rfl rfl rfl rfl) rfl <| g_u (zE rfl rfl) <| zG <| zA <| zD <| zB <| g_u (zC rfl rfl) <| g_u (s_makeFunc rfl rfl rfl) <| g_u (zH rfl rfl rfl tA24 tS24 rfl rfl) <| g_u (zS (fkept_c _ _ ho hw hr) rfl rfl) <| g_u (zE rfl rfl) <| zG <| zA <| zM ?_
  exact ⟨⟨(rfl : toAV (Al.look _ _) = some _).trans (congrArg some (by rfl)), rfl⟩, trivial⟩
theorem fboth_c (f k : Int) (b : List GRes) (ho : okB b) (hw : wtB b ≤ 2400000) (hr : ∀ r ∈ b, risA none r.attrs) : zi Tryd.prog Γ0 47 [iv f, iv k, yd b] [bv (decide (nkM f b = nkM k b))] := by
  refine zO Tryd.func47 rfl Tryd.ntmps47 (by kernel_rfl) rfl fun w0 I0 G0 => ?_
  refine zD <| zB <| g_uG (zd 1005 rfl rfl rfl rfl) rfl <| g_u (zE rfl rfl) <| zG <| zA <| zD <| y3 wn <| g_u (zC rfl rfl) <| g_u (zH rfl rfl rfl tA24 tS24 rfl rfl) ?_
  refine g_u (zS (fkof_c _ b ho (by omega) hr) rfl rfl) ?_
  refine g_u (zC rfl rfl) <| g_u (zH rfl rfl rfl tA24 tS24 rfl rfl) ?_
  refine g_u (zS (fkof_c _ b ho (by omega) hr) rfl rfl) ?_
  refine g_u (zS (psameB_c (nkM f b) (nkM k b) (by have := nk_wt f b; omega)) rfl rfl) ?_
  refine g_u (zE rfl rfl) ?_
  refine zG ⟨by kernel_rfl, ?_⟩
  refine zA <| zM ?_
  exact ⟨⟨(rfl : toAV (Al.look _ _) = some _).trans (congrArg some (by rfl)), rfl⟩, trivial⟩
def kKV34 : ByteArray := ⟨#[107, 61, 118]⟩
def gS34 : GSpan := ⟨1 :: List.replicate 15 0, 2 :: List.replicate 7 0, List.replicate 8 0, kKV34, ⟨#[]⟩, 0, 0, 0, [], [], [], 0, ⟨#[]⟩⟩
theorem gS34_ok : gS34.ok := ⟨⟨by decide, by decide, by decide⟩, ⟨by decide, by decide, by decide⟩, ⟨by unfold i64; decide, by unfold u64; decide, by unfold u64; decide, by unfold i64; decide⟩, (fun a h => by cases h), (fun a h => by cases h), (fun a h => by cases h)⟩
def b34 : List GRes := [⟨[], [⟨⟨#[]⟩, ⟨#[]⟩, [gS34]⟩]⟩]
theorem b34_ok : okB b34 := fun r hr => by
  cases List.mem_singleton.1 hr
  refine ⟨fun a h => (by cases h), fun c hc => ?_⟩
  cases List.mem_singleton.1 hc
  exact ⟨by decide, by decide, fun s hs => by cases List.mem_singleton.1 hs; exact gS34_ok⟩
theorem b34_ris : ∀ r ∈ b34, risA none r.attrs := fun r hr => by cases List.mem_singleton.1 hr; trivial
def sAv34 : AV := .agg [.agg (zY gS34.trace), .agg (zY gS34.id), .arr 8 gS34.parent, sv kKV34, sv ⟨#[]⟩, iv 0, uv 0, uv 0, .sl 7 [], .sl 3 [], .sl 26 [], .agg [iv 0, sv ⟨#[]⟩]]
theorem up34 : Up sAv34 gS34.av := Up.agg ⟨up_bytes rfl, up_bytes rfl, Up.refl _, Up.refl _, Up.refl _, Up.refl _, Up.refl _, Up.refl _, Up.refl _, Up.refl _, Up.refl _, Up.refl _, trivial⟩
def bAv34 : AV := .agg [.sl 2 [.agg [.sl 7 [], .sl 3 [.agg [sv ⟨#[]⟩, sv ⟨#[]⟩, .sl 42 [sAv34]]]]]]
theorem upb34 : Up bAv34 (yd b34) := Up.agg ⟨Up.sl ⟨Up.agg ⟨Up.refl _, Up.sl ⟨Up.agg ⟨Up.refl _, Up.refl _, Up.sl ⟨up34, trivial⟩, trivial⟩, trivial⟩, trivial⟩, trivial⟩, trivial⟩
theorem fall34 (f : Int) : zi Tryd.prog Γ0 45 [iv f, bAv34] [bv (decide (nkM f b34 = b34))] := (fall_c f b34 b34_ok (by decide) b34_ris).args ⟨Up.refl _, upb34, trivial⟩
theorem fkof34 (f : Int) : zi Tryd.prog Γ0 46 [iv f, bAv34] [yd (nkM f b34)] := (fkof_c f b34 b34_ok (by decide) b34_ris).args ⟨Up.refl _, upb34, trivial⟩
theorem fboth34 (f k : Int) : zi Tryd.prog Γ0 47 [iv f, iv k, bAv34] [bv (decide (nkM f b34 = nkM k b34))] := (fboth_c f k b34 b34_ok (by decide) b34_ris).args ⟨Up.refl _, Up.refl _, upb34, trivial⟩
theorem fall34b (f k : Int) : zi Tryd.prog Γ0 45 [iv f, yd (nkM k b34)] [bv (decide (nkM f (nkM k b34) = nkM k b34))] :=
  fall_c f _ (nk_ok b34_ok (by decide)) (Nat.le_trans (nk_wt k b34) (by decide)) (nk_ris b34_ris)
set_option maxRecDepth 100000 in
set_option maxHeartbeats 4000000 in
theorem works34_c : zi Tryd.prog Γ0 22 [] [bv true] := by
  refine zO Tryd.func22 rfl Tryd.ntmps22 (by kernel_rfl) rfl fun w0 I0 G0 => ?_
  refine zD <| zB <| g_u (zE rfl rfl) <| zG <| zA <| zD <| zB ?_
  refine g_u (wA ((by first | exact ffind_c kJaeger | exact ffind_c ⟨#[]⟩)) rfl rfl) ?_
  refine g_u (xN rfl rfl) <| g_u (zP rfl rfl rfl rfl) <| g_u (zP rfl rfl rfl rfl) <| g_u (zE rfl rfl) <| g_u (zE rfl rfl) <| zG <| zA <| zD <| zB ?_
  refine g_u (wA ((by first | exact ffind_c kJaeger | exact ffind_c ⟨#[]⟩)) rfl rfl) ?_
  refine g_u (xN rfl rfl) <| g_u (zP rfl rfl rfl rfl) <| g_u (zP rfl rfl rfl rfl) <| g_u (zE rfl rfl) <| g_u (zE rfl rfl) <| zG <| zA <| zD <| zB <| g_u (s_build_arr rfl tV26 Tryd.underlying26 tS5 rfl rfl rfl rfl) <| g_u (s_build_arr rfl tV28 Tryd.underlying28 tS5 rfl rfl rfl rfl) <| g_u (yh rfl tU36 us36 pl36 rfl rfl rfl rfl) <| g_uG (zg 1005 rfl rfl rfl tZ36) rfl ?_
  refine g_u (zL rfl rfl rfl tS36 (by first | exact beqW (GSpan.width _) | rfl) (by first | exact wl (z36_w.trans (GSpan.width _).symm) rfl | rfl)) ?_
  refine zG <| zA <| zD <| zB ?_
  refine g_u (zH rfl rfl rfl tA36 tS36 rfl (by first | exact xn (GSpan.width _) rfl | rfl)) ?_
  refine g_u (z_ (X0 := z36) rfl Tryd.underlying44 tS36 tZ36 rfl rfl rfl rfl rfl rfl rfl rfl) <| g_u (yh rfl tU64 us64 pl64 rfl rfl rfl rfl) <| g_u (z_ (X0 := z64) rfl Tryd.underlying59 tS64 tZ64 rfl rfl rfl rfl rfl rfl rfl rfl) <| g_u (yh rfl tU61 us61 pl61 rfl rfl rfl rfl) <| g_u (z_ (X0 := z61) rfl Tryd.underlying22 tS61 tZ61 rfl rfl rfl rfl rfl rfl rfl rfl) <| g_u (yh rfl tU24 us24 pl24 rfl rfl rfl rfl) <| g_uG (zg 1006 rfl rfl rfl tZ24) rfl <| g_u (zL rfl rfl rfl tS24 rfl rfl) <| zG <| zA <| zD <| zB <| g_u (zC rfl rfl) <| g_u (xx rfl rfl rfl) <| g_u (zC rfl rfl) <| yP (t := 27) rfl ?_
  rintro (hb1 | hb1)
  · rw [hb1]
    refine zZ rfl rfl (zC rfl rfl) <| g_u (zR rfl rfl rfl) <| g_u (zC rfl rfl) <| yP (t := 30) rfl ?_
    rintro (hb2 | hb2)
    · rw [hb2]
      refine zZ rfl rfl (zC rfl rfl) <| zZ rfl rfl (wv rfl rfl) <| g_u (zR rfl rfl rfl) <| g_u (zC rfl rfl) <| yP (t := 34) rfl ?_
      rintro (hb3 | hb3)
      · rw [hb3]
        refine zZ rfl rfl (zS (fword_c _) rfl rfl) <| zZ rfl rfl (s_eqS rfl rfl rfl) <| g_u (zR rfl rfl rfl) <| g_u (zC rfl rfl) <| yP (t := 38) rfl ?_
        rintro (hb4 | hb4)
        · rw [hb4]
          refine zZ rfl rfl (zn rfl rfl rfl tA24 tS24 rfl rfl) ?_
          refine zZ rfl rfl (zS ((by first | exact fall34 _ | exact fall34b _ _)) rfl rfl) ?_
          refine g_u (zR rfl rfl rfl) <| g_u (zC rfl rfl) <| yP (t := 42) rfl ?_
          rintro (hb5 | hb5)
          · rw [hb5]
            refine zZ rfl rfl (zC rfl rfl) <| zZ rfl rfl (zn rfl rfl rfl tA24 tS24 rfl rfl) ?_
            refine zZ rfl rfl (zS ((by first | exact fall34 _ | exact fall34b _ _)) rfl rfl) ?_
            refine zZ rfl rfl (wv rfl rfl) <| g_u (zR rfl rfl rfl) <| g_u (zC rfl rfl) <| yP (t := 48) rfl ?_
            rintro (hb6 | hb6)
            · rw [hb6]
              refine zZ rfl rfl (zC rfl rfl) <| zZ rfl rfl (zC rfl rfl) <| zZ rfl rfl (zn rfl rfl rfl tA24 tS24 rfl rfl) <| zZ rfl rfl (zS (fkof34 _) rfl rfl) ?_
              refine zZ rfl rfl (zS ((by first | exact fall34 _ | exact fall34b _ _)) rfl rfl) ?_
              refine g_u (zR rfl rfl rfl) <| g_u (zC rfl rfl) <| yP (t := 55) rfl ?_
              rintro (hb7 | hb7)
              · rw [hb7]
                refine zZ rfl rfl (zn rfl rfl rfl tA24 tS24 rfl rfl) <| zZ rfl rfl (zS (fboth34 _ _) rfl rfl) <| g_u (zR rfl rfl rfl) <| g_u (zC rfl rfl) <| yP (t := 59) rfl ?_
                rintro (hb8 | hb8)
                · rw [hb8]
                  refine zZ rfl rfl (zS (fis_c _) rfl rfl) <| zZ rfl rfl (wv rfl rfl) <| g_u (zR rfl rfl rfl) <| g_u (zE rfl rfl) <| zG <| zA <| zM ?_
                  exact ⟨⟨(rfl : toAV (Al.look _ _) = some _).trans (congrArg some (by rfl)), rfl⟩, trivial⟩
                · exact killT hb8 (by first | rfl | decide +kernel)
              · exact killT hb7 (by first | rfl | decide +kernel)
            · exact killT hb6 (by first | rfl | decide +kernel)
          · exact killT hb5 (by first | rfl | decide +kernel)
        · exact killT hb4 (by first | rfl | decide +kernel)
      · exact killT hb3 (by first | rfl | decide +kernel)
    · exact killT hb2 (by first | rfl | decide +kernel)
  · exact killT hb1 (by first | rfl | decide +kernel)
set_option maxHeartbeats 1000000 in
theorem normalFinds_c (w : ByteArray) : zi Tryd.prog Γ0 5 [sv w] [bv true] := by
  refine zO Tryd.func5 rfl Tryd.ntmps5 (by kernel_rfl) rfl fun w0 I0 G0 => ?_
  refine zD <| zB <| g_u (zE rfl rfl) <| zG <| zA <| zD <| zB <| g_u (zC rfl rfl) <| g_u (wA (ffind_c _) rfl rfl) <| g_u (xN rfl rfl) <| g_u (zP rfl rfl rfl rfl) <| g_u (zP rfl rfl rfl rfl) <| g_u (zE rfl rfl) <| g_u (zE rfl rfl) <| zG <| zA <| zD <| zB <| g_u (zC rfl rfl) <| g_u (zC rfl rfl) <| g_u (zS (rffind_c _) rfl rfl) <| g_u (xx rfl rfl rfl) <| g_u (zC rfl rfl) <| yP (t := 14) rfl ?_
  rintro (hb1 | hb1)
  · rw [hb1]
    refine zZ rfl rfl (zC rfl rfl) <| zZ rfl rfl (zC rfl rfl) <| zZ rfl rfl (ws rfl rfl rfl) <| zZ rfl rfl (s_eqB rfl rfl rfl Tryd.underlying4) <| g_u (zR rfl rfl rfl) <| g_u (zC rfl rfl) <| yP (t := 20) rfl ?_
    rintro (hb2 | hb2)
    · rw [hb2]
      refine zZ rfl rfl (zS (works34_c) rfl rfl) <| g_u (zR rfl rfl rfl) <| g_u (zE rfl rfl) <| zG <| zA <| zM ?_
      exact ⟨⟨(rfl : toAV (Al.look _ _) = some _).trans (congrArg some (by rfl)), rfl⟩, trivial⟩
    · exact killT hb2 ((by exact beq_self_eq_true _))
  · exact killT hb1 ((by exact beq_self_eq_true _))
end Go.Proofs
