/- Texts that the proofs of this claim share, part 6: the abstract logic, plain Lean on values and batches, and walks. No condition but those typed in each lemma. -/
import Derived.RangeFuncLeaves
import Derived.RangeFuncRecord
import Derived.RangeFuncSeq
import Derived.Test.YtilolbiefnbccaaGreatDoorR5
set_option linter.unusedSimpArgs false
set_option linter.unusedVariables false
set_option maxHeartbeats 400000
namespace Go.Proofs
open Go Go.Al
set_option maxRecDepth 10000
set_option maxHeartbeats 1000000 in
theorem eqfV_c (a b : List GV) (fn : FuncId) (hl : a.length ≤ 1000000000) (hf : ∀ x ∈ a, ∀ y : GV, zj Tryz.prog Γ0 fn ([] ++ [x.av, y.av] ++ []) [bv (sameV x y)]) : zj Tryz.prog Γ0 158 [(.sl 6 (a.map avV)), (.sl 6 (b.map avV)), .fn (.func fn) [] []] [bv (sameVs a b)] := by
  refine zb Tryz.func158 rfl Tryz.ntmps158 (by kernel_rfl) rfl fun w0 I0 G0 => ?_
  refine zD <| zB <| g_u (zE rfl rfl) <| zF <| zA <| zD <| zD <| zB <| g_u (zC rfl rfl) <| g_u (zx rfl rfl Tryz.underlying89) <| g_u (zC rfl rfl) <| g_u (zx rfl rfl Tryz.underlying89) <| g_u (xG rfl rfl rfl) <| zF <| zA ?_
  refine zN rfl (fun hb1 => ?_) (fun hb1 => ?_)
  · have q : ¬ a.length = b.length := by have e := qc.1 hb1; simp only [List.length_map] at e; omega
    refine zD <| zB <| g_u (zE rfl rfl) <| zF <| zA <| zJ <| zK ?_
    exact ⟨⟨(rfl : toAV (Al.look _ _) = some _).trans (congrArg some (by (exact congrArg bv (by first | exact (sameVs_ne (fun e => q (by rw [e]))).symm | exact ((we _ _).2 (xL v0 el (fun j hj => h2 j (by omega)))).symm)))), rfl⟩, trivial⟩
  · have el : a.length = b.length := by have e := qd.1 hb1; simp only [List.length_map] at e; omega
    refine zO <| zA <| zD <| zD <| zB <| g_u (zC rfl rfl) <| g_u (zx rfl rfl Tryz.underlying89) <| g_u (zC rfl rfl) <| zF <| zA <| zQ ?_
    refine zs (fun i : Nat => [(1, .imm (.sl 6 (b.map avV))), (2, .imm (.fn (.func fn) [] [])), (15, .imm (.sl 6 (a.map avV))), (16, .imm (iv (a.length : Int))), (17, .imm (iv (i : Int)))]) (fun i => i ≤ a.length ∧ ∀ j, j < i → nth a j v0 = nth b j v0) (fun i => a.length - i) (0) ?_ ⟨rfl, rfl, rfl, zV rfl (by rw [List.length_map]), rfl, trivial⟩ ?_
    · exact ⟨Nat.zero_le _, fun j h => absurd h (Nat.not_lt_zero _)⟩
    · rintro i ⟨h1, h2⟩; (try dsimp only at h1 h2)
      refine zD <| zB <| g_u (yU rfl rfl rfl) <| zF <| zA <| zD ?_
      refine zN rfl (fun hb2 => ?_) (fun hb2 => ?_)
      · have hi : i < a.length := by have := of_decide_eq_true hb2; (try simp only [List.length_map] at this); omega
        have hib : i < b.length := by omega
        refine zO <| zA <| zD <| zQ <| zD <| zB <| g_u (zC rfl rfl) ?_
        refine g_u (za rfl rfl rfl Tryz.underlying89 tS91 (by omega) (ixV hi)) ?_
        refine g_u (zW rfl rfl tA91 tS91 rfl rfl) <| g_uG (zo 1008 rfl rfl rfl tZ91) rfl <| g_u (zE rfl rfl) <| g_u (zL rfl rfl rfl tS91 rfl rfl) <| zF <| zA <| zD <| zB <| g_u (zC rfl rfl) <| g_u (zC rfl rfl) ?_
        refine g_u (za rfl rfl rfl Tryz.underlying89 tS91 (by omega) (ixV hib)) ?_
        refine g_u (zW rfl rfl tA91 tS91 rfl rfl) <| g_uG (zo 1009 rfl rfl rfl tZ91) rfl <| g_u (zL rfl rfl rfl tS91 rfl rfl) <| zF <| zA <| zD <| zB <| g_u (zC rfl rfl) <| g_u (zl rfl rfl rfl tA91 tS91 rfl rfl) <| g_u (zl rfl rfl rfl tA91 tS91 rfl rfl) <| g_u (xQ (hf _ (nthV_mem hi) _) rfl rfl rfl) <| g_u (s_not rfl rfl) <| zF <| zA ?_
        refine zN rfl (fun hb3 => ?_) (fun hb3 => ?_)
        · have q : ¬ nthV a i = nthV b i := fun h => by have e := hb3; rw [h, sameV_refl] at e; cases e
          refine zD <| zB <| g_u (zE rfl rfl) <| zF <| zA <| zJ <| ze <| zK <| zK <| ze <| zK ?_
          exact ⟨⟨(rfl : toAV (Al.look _ _) = some _).trans (congrArg some (by (exact congrArg bv (by first | exact (sameVs_ne (fun e => q (by rw [e]))).symm | exact ((we _ _).2 (xL v0 el (fun j hj => h2 j (by omega)))).symm)))), rfl⟩, trivial⟩
        · have ev : nthV a i = nthV b i := (ww _ _).1 (by have e := hb3; simpa using e)
          refine zO <| zM <| zA <| zB <| g_u (yB rfl rfl rfl) <| g_u (zC rfl rfl) <| zF <| zA ?_
          refine ⟨i + 1, ⟨hi, fun j hj => by rcases Nat.lt_or_ge j i with h | h; exact h2 j h; rw [show j = i by omega]; exact ev⟩, ⟨rfl, rfl, rfl, rfl, zV rfl (by rw [zZ (by omega) (by omega)]; rfl), trivial⟩, by (try dsimp only); omega⟩
      · have hin : i = a.length := by have := of_decide_eq_false hb2; (try simp only [List.length_map] at this); omega
        refine zv <| zU <| zU <| zp <| zA <| zD <| zB <| g_u (zE rfl rfl) <| zF <| zA <| zJ ?_
        exact ⟨⟨(rfl : toAV (Al.look _ _) = some _).trans (congrArg some (by (exact congrArg bv (by first | exact (sameVs_ne (fun e => q (by rw [e]))).symm | exact ((we _ _).2 (xL v0 el (fun j hj => h2 j (by omega)))).symm)))), rfl⟩, trivial⟩
set_option maxHeartbeats 1000000 in
theorem eqfA_c (a b : List GA) (fn : FuncId) (hl : a.length ≤ 1000000000) (hf : ∀ x ∈ a, ∀ y : GA, zj Tryz.prog Γ0 fn ([] ++ [x.av, y.av] ++ []) [bv (sameA x y)]) : zj Tryz.prog Γ0 106 [(.sl 7 (a.map avA)), (.sl 7 (b.map avA)), .fn (.func fn) [] []] [bv (sameAs a b)] := by
  refine zb Tryz.func106 rfl Tryz.ntmps106 (by kernel_rfl) rfl fun w0 I0 G0 => ?_
  refine zD <| zB <| g_u (zE rfl rfl) <| zF <| zA <| zD <| zD <| zB <| g_u (zC rfl rfl) <| g_u (zx rfl rfl Tryz.underlying46) <| g_u (zC rfl rfl) <| g_u (zx rfl rfl Tryz.underlying46) <| g_u (xG rfl rfl rfl) <| zF <| zA ?_
  refine zN rfl (fun hb1 => ?_) (fun hb1 => ?_)
  · have q : ¬ a.length = b.length := by have e := qc.1 hb1; simp only [List.length_map] at e; omega
    refine zD <| zB <| g_u (zE rfl rfl) <| zF <| zA <| zJ <| zK ?_
    exact ⟨⟨(rfl : toAV (Al.look _ _) = some _).trans (congrArg some (by (exact congrArg bv (by first | exact (sameAs_ne (fun e => q (by rw [e]))).symm | exact ((yb _ _).2 (xL a0 el (fun j hj => h2 j (by omega)))).symm)))), rfl⟩, trivial⟩
  · have el : a.length = b.length := by have e := qd.1 hb1; simp only [List.length_map] at e; omega
    refine zO <| zA <| zD <| zD <| zB <| g_u (zC rfl rfl) <| g_u (zx rfl rfl Tryz.underlying46) <| g_u (zC rfl rfl) <| zF <| zA <| zQ ?_
    refine zs (fun i : Nat => [(1, .imm (.sl 7 (b.map avA))), (2, .imm (.fn (.func fn) [] [])), (15, .imm (.sl 7 (a.map avA))), (16, .imm (iv (a.length : Int))), (17, .imm (iv (i : Int)))]) (fun i => i ≤ a.length ∧ ∀ j, j < i → nth a j a0 = nth b j a0) (fun i => a.length - i) (0) ?_ ⟨rfl, rfl, rfl, zV rfl (by rw [List.length_map]), rfl, trivial⟩ ?_
    · exact ⟨Nat.zero_le _, fun j h => absurd h (Nat.not_lt_zero _)⟩
    · rintro i ⟨h1, h2⟩; (try dsimp only at h1 h2)
      refine zD <| zB <| g_u (yU rfl rfl rfl) <| zF <| zA <| zD ?_
      refine zN rfl (fun hb2 => ?_) (fun hb2 => ?_)
      · have hi : i < a.length := by have := of_decide_eq_true hb2; (try simp only [List.length_map] at this); omega
        have hib : i < b.length := by omega
        refine zO <| zA <| zD <| zQ <| zD <| zB <| g_u (zC rfl rfl) ?_
        refine g_u (za rfl rfl rfl Tryz.underlying46 tS93 (by omega) (ixA hi)) ?_
        refine g_u (zW rfl rfl tA93 tS93 rfl rfl) <| g_uG (zo 1008 rfl rfl rfl tZ93) rfl <| g_u (zE rfl rfl) <| g_u (zL rfl rfl rfl tS93 rfl rfl) <| zF <| zA <| zD <| zB <| g_u (zC rfl rfl) <| g_u (zC rfl rfl) ?_
        refine g_u (za rfl rfl rfl Tryz.underlying46 tS93 (by omega) (ixA hib)) ?_
        refine g_u (zW rfl rfl tA93 tS93 rfl rfl) <| g_uG (zo 1009 rfl rfl rfl tZ93) rfl <| g_u (zL rfl rfl rfl tS93 rfl rfl) <| zF <| zA <| zD <| zB <| g_u (zC rfl rfl) <| g_u (zl rfl rfl rfl tA93 tS93 rfl rfl) <| g_u (zl rfl rfl rfl tA93 tS93 rfl rfl) <| g_u (xQ (hf _ (xm hi) _) rfl rfl rfl) <| g_u (s_not rfl rfl) <| zF <| zA ?_
        refine zN rfl (fun hb3 => ?_) (fun hb3 => ?_)
        · have q : ¬ nthA a i = nthA b i := fun h => by have e := hb3; rw [h, sameA_refl] at e; cases e
          refine zD <| zB <| g_u (zE rfl rfl) <| zF <| zA <| zJ <| ze <| zK <| zK <| ze <| zK ?_
          exact ⟨⟨(rfl : toAV (Al.look _ _) = some _).trans (congrArg some (by (exact congrArg bv (by first | exact (sameAs_ne (fun e => q (by rw [e]))).symm | exact ((yb _ _).2 (xL a0 el (fun j hj => h2 j (by omega)))).symm)))), rfl⟩, trivial⟩
        · have ev : nthA a i = nthA b i := (sameA_iff _ _).1 (by have e := hb3; simpa using e)
          refine zO <| zM <| zA <| zB <| g_u (yB rfl rfl rfl) <| g_u (zC rfl rfl) <| zF <| zA ?_
          refine ⟨i + 1, ⟨hi, fun j hj => by rcases Nat.lt_or_ge j i with h | h; exact h2 j h; rw [show j = i by omega]; exact ev⟩, ⟨rfl, rfl, rfl, rfl, zV rfl (by rw [zZ (by omega) (by omega)]; rfl), trivial⟩, by (try dsimp only); omega⟩
      · have hin : i = a.length := by have := of_decide_eq_false hb2; (try simp only [List.length_map] at this); omega
        refine zv <| zU <| zU <| zp <| zA <| zD <| zB <| g_u (zE rfl rfl) <| zF <| zA <| zJ ?_
        exact ⟨⟨(rfl : toAV (Al.look _ _) = some _).trans (congrArg some (by (exact congrArg bv (by first | exact (sameAs_ne (fun e => q (by rw [e]))).symm | exact ((yb _ _).2 (xL a0 el (fun j hj => h2 j (by omega)))).symm)))), rfl⟩, trivial⟩
theorem psameA_st (a b : GA) (ih : zj Tryz.prog Γ0 108 [a.val.av, b.val.av] [bv (sameV a.val b.val)]) : zj Tryz.prog Γ0 107 [a.av, b.av] [bv (sameA a b)] := by
  refine zb Tryz.func107 rfl Tryz.ntmps107 (by kernel_rfl) rfl fun w0 I0 G0 => ?_
  refine zD <| zB <| g_uG (zi 1002 rfl rfl rfl rfl) rfl <| g_uG (zi 1003 rfl rfl rfl rfl) rfl <| g_u (zE rfl rfl) <| zF <| zA <| zD <| zB <| g_u (zG rfl rfl fa93_0 rfl) <| g_u (zH rfl rfl rfl tA9 tS9 rfl rfl) <| g_u (zG rfl rfl fa93_0 rfl) <| g_u (zH rfl rfl rfl tA9 tS9 rfl rfl) <| g_u (s_eqS rfl rfl rfl) <| g_u (zC rfl rfl) <| zz (t := 10) rfl ?_
  rintro (hb1 | hb1)
  · rw [hb1]
    have ek : a.key = b.key := by have e := hb1; rw [xJ] at e; exact of_decide_eq_true e
    refine zP rfl rfl (zG rfl rfl fa93_1 rfl) <| zP rfl rfl (zH rfl rfl rfl tA91 tS91 rfl rfl) <| zP rfl rfl (zG rfl rfl fa93_1 rfl) <| zP rfl rfl (zH rfl rfl rfl tA91 tS91 rfl rfl) <| zP rfl rfl (zT (ih) rfl rfl) <| g_u (zX rfl rfl rfl) <| g_u (zE rfl rfl) <| zF <| zA <| zJ ?_
    exact ⟨⟨(rfl : toAV (Al.look _ _) = some _).trans (congrArg some (by (exact congrArg bv (by first | exact (sameA_ne (fun e => q (by rw [e]))).symm | (rw [Bool.eq_iff_iff, ww, sameA_iff]; exact ⟨fun h => GA.ext' ek h, fun h => by rw [h]⟩))))), rfl⟩, trivial⟩
  · rw [hb1]
    have q : ¬ a.key = b.key := by have e := hb1; rw [xJ] at e; exact of_decide_eq_false e
    refine zI rfl rfl rfl <| zI rfl rfl rfl <| zI rfl rfl rfl <| zI rfl rfl rfl <| zI rfl rfl rfl <| g_u (zg rfl rfl rfl) <| g_u (zE rfl rfl) <| zF <| zA <| zJ ?_
    exact ⟨⟨(rfl : toAV (Al.look _ _) = some _).trans (congrArg some (by (exact congrArg bv (by first | exact (sameA_ne (fun e => q (by rw [e]))).symm | (rw [Bool.eq_iff_iff, ww, sameA_iff]; exact ⟨fun h => GA.ext' ek h, fun h => by rw [h]⟩))))), rfl⟩, trivial⟩
theorem psameAs_st (a b : List GA) (hl : a.length ≤ 1000000000) (ih : ∀ x ∈ a, ∀ y : GA, zj Tryz.prog Γ0 108 [x.val.av, y.val.av] [bv (sameV x.val y.val)]) : zj Tryz.prog Γ0 75 [.sl 7 (a.map avA), .sl 7 (b.map avA)] [bv (sameAs a b)] := by
  refine zb Tryz.func75 rfl Tryz.ntmps75 (by kernel_rfl) rfl fun w0 I0 G0 => ?_
  refine zD <| zB <| g_u (zE rfl rfl) <| zF <| zA <| zD <| zB <| g_u (zC rfl rfl) <| g_u (zC rfl rfl) ?_
  refine g_u (zT (eqfA_c a b 107 hl (fun x hx y => psameA_st x y (ih x hx y))) rfl rfl) ?_
  refine g_u (zE rfl rfl) <| zF <| zA <| zJ ?_
  exact ⟨⟨(rfl : toAV (Al.look _ _) = some _).trans (congrArg some (by rfl)), rfl⟩, trivial⟩
set_option maxHeartbeats 2000000 in
theorem psameV_st (a b : GV) (ihl : zj Tryz.prog Γ0 158 [.sl 6 (a.list.map avV), .sl 6 (b.list.map avV), .fn (.func 108) [] []] [bv (sameVs a.list b.list)]) (ihm : zj Tryz.prog Γ0 75 [.sl 7 (a.map.map avA), .sl 7 (b.map.map avA)] [bv (sameAs a.map b.map)]) : zj Tryz.prog Γ0 108 [a.av, b.av] [bv (sameV a b)] := by
  refine zb Tryz.func108 rfl Tryz.ntmps108 (by kernel_rfl) rfl fun w0 I0 G0 => ?_
  refine zD <| zB <| g_uG (zi 1002 rfl rfl rfl rfl) rfl <| g_uG (zi 1003 rfl rfl rfl rfl) rfl <| g_u (zE rfl rfl) <| zF <| zA <| zD <| zD <| zB <| g_u (zG rfl rfl fa91_0 rfl) <| g_u (zH rfl rfl rfl tA5 tS5 rfl rfl) <| g_u (zG rfl rfl fa91_0 rfl) <| g_u (zH rfl rfl rfl tA5 tS5 rfl rfl) <| g_u (xG rfl rfl rfl) <| g_u (zC rfl rfl) <| zz (t := 10) rfl ?_
  rintro (hb1 | hb1)
  · rw [hb1]
    have q : ¬ a.kind = b.kind := qc.1 hb1
    refine zI rfl rfl rfl <| zI rfl rfl rfl <| zI rfl rfl rfl <| zI rfl rfl rfl <| zI rfl rfl rfl <| g_u (zX rfl rfl rfl) <| g_u (zC rfl rfl) <| zI rfl rfl rfl <| zI rfl rfl rfl <| zI rfl rfl rfl <| zI rfl rfl rfl <| zI rfl rfl rfl <| g_u (zX rfl rfl rfl) <| g_u (zC rfl rfl) <| zI rfl rfl rfl <| zI rfl rfl rfl <| zI rfl rfl rfl <| zI rfl rfl rfl <| zI rfl rfl rfl <| g_u (zX rfl rfl rfl) <| zF <| zA <| zk rfl <| zD <| zB <| g_u (zE rfl rfl) <| zF <| zA <| zJ <| zK ?_
    exact ⟨⟨(rfl : toAV (Al.look _ _) = some _).trans (congrArg some (by (exact congrArg bv (by first | exact (sameV_ne (fun e => q (by rw [e]))).symm | exact sameV_map e1 e2 e3 e4 e5)))), rfl⟩, trivial⟩
  · rw [hb1]
    have e1 : a.kind = b.kind := qd.1 hb1
    refine zP rfl rfl (zG rfl rfl fa91_1 rfl) <| zP rfl rfl (zH rfl rfl rfl tA9 tS9 rfl rfl) <| zP rfl rfl (zG rfl rfl fa91_1 rfl) <| zP rfl rfl (zH rfl rfl rfl tA9 tS9 rfl rfl) <| zP rfl rfl (s_neS rfl rfl rfl) <| g_u (zg rfl rfl rfl) <| g_u (zC rfl rfl) <| zz (t := 17) rfl ?_
    rintro (hb2 | hb2)
    · rw [hb2]
      have q : ¬ a.text = b.text := by have e := hb2; rw [xJ] at e; simpa using e
      refine zI rfl rfl rfl <| zI rfl rfl rfl <| zI rfl rfl rfl <| zI rfl rfl rfl <| zI rfl rfl rfl <| g_u (zX rfl rfl rfl) <| g_u (zC rfl rfl) <| zI rfl rfl rfl <| zI rfl rfl rfl <| zI rfl rfl rfl <| zI rfl rfl rfl <| zI rfl rfl rfl <| g_u (zX rfl rfl rfl) <| zF <| zA <| zk rfl <| zD <| zB <| g_u (zE rfl rfl) <| zF <| zA <| zJ <| zK ?_
      exact ⟨⟨(rfl : toAV (Al.look _ _) = some _).trans (congrArg some (by (exact congrArg bv (by first | exact (sameV_ne (fun e => q (by rw [e]))).symm | exact sameV_map e1 e2 e3 e4 e5)))), rfl⟩, trivial⟩
    · rw [hb2]
      have e2 : a.text = b.text := by have e := hb2; rw [xJ] at e; simpa using e
      refine zP rfl rfl (zG rfl rfl fa91_2 rfl) <| zP rfl rfl (zH rfl rfl rfl tA3 tS3 rfl rfl) <| zP rfl rfl (zG rfl rfl fa91_2 rfl) <| zP rfl rfl (zH rfl rfl rfl tA3 tS3 rfl rfl) <| zP rfl rfl (xG rfl rfl rfl) <| g_u (zg rfl rfl rfl) <| g_u (zC rfl rfl) <| zz (t := 24) rfl ?_
      rintro (hb3 | hb3)
      · rw [hb3]
        have q : ¬ a.num = b.num := qc.1 hb3
        refine zI rfl rfl rfl <| zI rfl rfl rfl <| zI rfl rfl rfl <| zI rfl rfl rfl <| zI rfl rfl rfl <| g_u (zX rfl rfl rfl) <| zF <| zA <| zk rfl <| zD <| zB <| g_u (zE rfl rfl) <| zF <| zA <| zJ <| zK ?_
        exact ⟨⟨(rfl : toAV (Al.look _ _) = some _).trans (congrArg some (by (exact congrArg bv (by first | exact (sameV_ne (fun e => q (by rw [e]))).symm | exact sameV_map e1 e2 e3 e4 e5)))), rfl⟩, trivial⟩
      · rw [hb3]
        have e3 : a.num = b.num := qd.1 hb3
        refine zP rfl rfl (zG rfl rfl fa91_3 rfl) <| zP rfl rfl (zH rfl rfl rfl tA45 tS45 rfl rfl) <| zP rfl rfl (zG rfl rfl fa91_3 rfl) <| zP rfl rfl (zH rfl rfl rfl tA45 tS45 rfl rfl) <| zP rfl rfl (xG rfl rfl rfl) <| g_u (zg rfl rfl rfl) <| zF <| zA ?_
        refine zN rfl (fun hb4 => ?_) (fun hb4 => ?_)
        · have q : ¬ a.bits = b.bits := qc.1 hb4
          refine zD <| zB <| g_u (zE rfl rfl) <| zF <| zA <| zJ <| zK ?_
          exact ⟨⟨(rfl : toAV (Al.look _ _) = some _).trans (congrArg some (by (exact congrArg bv (by first | exact (sameV_ne (fun e => q (by rw [e]))).symm | exact sameV_map e1 e2 e3 e4 e5)))), rfl⟩, trivial⟩
        · have e4 : a.bits = b.bits := qd.1 hb4
          refine zO <| zA <| zD <| zB <| g_u (zG rfl rfl vI rfl) <| g_u (zH rfl rfl rfl tA89 tS89 rfl rfl) <| g_u (zG rfl rfl vI rfl) <| g_u (zH rfl rfl rfl tA89 tS89 rfl rfl) <| g_u (zT (ihl) rfl rfl) <| g_u (zC rfl rfl) <| zz (t := 36) rfl ?_
          rintro (hb5 | hb5)
          · rw [hb5]
            have e5 : a.list = b.list := (we _ _).1 hb5
            refine zP rfl rfl (zG rfl rfl vH rfl) <| zP rfl rfl (zH rfl rfl rfl tA46 tS46 rfl rfl) <| zP rfl rfl (zG rfl rfl vH rfl) <| zP rfl rfl (zH rfl rfl rfl tA46 tS46 rfl rfl) <| zP rfl rfl (zT (ihm) rfl rfl) <| g_u (zX rfl rfl rfl) <| g_u (zE rfl rfl) <| zF <| zA <| zJ ?_
            exact ⟨⟨(rfl : toAV (Al.look _ _) = some _).trans (congrArg some (by (exact congrArg bv (by first | exact (sameV_ne (fun e => q (by rw [e]))).symm | exact sameV_map e1 e2 e3 e4 e5)))), rfl⟩, trivial⟩
          · rw [hb5]
            have q : ¬ a.list = b.list := fun h => by have e := hb5; rw [h, sameVs_refl] at e; cases e
            refine zI rfl rfl rfl <| zI rfl rfl rfl <| zI rfl rfl rfl <| zI rfl rfl rfl <| zI rfl rfl rfl <| g_u (zg rfl rfl rfl) <| g_u (zE rfl rfl) <| zF <| zA <| zJ ?_
            exact ⟨⟨(rfl : toAV (Al.look _ _) = some _).trans (congrArg some (by (exact congrArg bv (by first | exact (sameV_ne (fun e => q (by rw [e]))).symm | exact sameV_map e1 e2 e3 e4 e5)))), rfl⟩, trivial⟩
theorem psameV_c (a : GV) : a.wt ≤ 1000000000 → ∀ b : GV, zj Tryz.prog Γ0 108 [a.av, b.av] [bv (sameV a b)] := by
  refine GV.ind (P := fun a => a.wt ≤ 1000000000 → ∀ b : GV, zj Tryz.prog Γ0 108 [a.av, b.av] [bv (sameV a b)]) ?_ a
  intro a h1 h2 hw b
  have ek := a.wt_eq
  have la := yr a.map
  have lv := x_ a.list
  exact psameV_st a b (eqfV_c a.list b.list 108 (by omega) fun y hy z => h1 y hy (by have := wtVs_mem hy; omega) z) (psameAs_st a.map b.map (by omega) fun x hx y => h2 x hx (by have := wM hx; have := x.wt_eq; omega) y.val)
theorem psameAs_c (a b : List GA) (hw : wtAs a ≤ 1000000000) : zj Tryz.prog Γ0 75 [.sl 7 (a.map avA), .sl 7 (b.map avA)] [bv (sameAs a b)] := by
  have la := yr a
  exact psameAs_st a b (by omega) fun x hx y => psameV_c x.val (by have := wM hx; have := x.wt_eq; omega) y.val
set_option maxHeartbeats 2000000 in
theorem pcanonAs_st (l : List GA) (hl : l.length ≤ 10000000) (ih : ∀ a ∈ l, zj Tryz.prog Γ0 79 [a.val.av] [(yc a.val).av]) : zj Tryz.prog Γ0 46 [(.sl 7 (l.map avA))] [.sl 7 ((yv l).map avA)] := by
  refine zb Tryz.func46 rfl Tryz.ntmps46 (by kernel_rfl) rfl fun w0 I0 G0 => ?_
  refine zD <| zB <| g_u (zE rfl rfl) <| zF <| zA <| zD <| zB <| g_uG (s_makeMap 1011 rfl rfl rfl) rfl <| g_u (s_as_mref rfl rfl) <| zF <| zA <| zD <| zD <| zB <| g_u (zC rfl rfl) <| g_u (zx rfl rfl Tryz.underlying46) <| g_u (zC rfl rfl) <| zF <| zA <| zQ ?_
  refine zs (fun i : Nat => [(0, .imm (.sl 7 (l.map avA))), (3, .mref 1011), (1011, .mpr (strs (mks (l.take i))) (mvs (l.take i))), (12, .imm (.sl 7 (l.map avA))), (13, .imm (iv (l.length : Int))), (14, .imm (iv (i : Int)))]) (fun i => i ≤ l.length) (fun i => l.length - i) (0) ?_ ⟨rfl, rfl, rfl, rfl, zV rfl (by rw [List.length_map]), rfl, trivial⟩ ?_
  · exact Nat.zero_le _
  · rintro i h1; have h1 : i ≤ l.length := h1
    refine zD <| zB <| g_u (yU rfl rfl rfl) <| zF <| zA <| zD ?_
    refine zN rfl (fun hb1 => ?_) (fun hb1 => ?_)
    · have hi : i < l.length := by have := of_decide_eq_true hb1; (try simp only [List.length_map] at this); omega
      refine zO <| zA <| zD <| zQ <| zD <| zB <| g_u (zC rfl rfl) ?_
      refine g_u (za rfl rfl rfl Tryz.underlying46 tS93 (by omega) (ixA hi)) ?_
      refine g_u (zW rfl rfl tA93 tS93 rfl rfl) <| g_uG (zo 1005 rfl rfl rfl tZ93) rfl <| g_u (zE rfl rfl) <| g_u (zL rfl rfl rfl tS93 rfl rfl) <| zF <| zA <| zB <| g_u (s_mv_mref rfl rfl) <| g_u (zG rfl rfl fa93_0 rfl) <| g_u (zH rfl rfl rfl tA9 tS9 rfl rfl) <| g_u (zC rfl rfl) <| g_u (s_mapUpdate rfl rfl rfl rfl Tryz.underlying146 Tryz.underlying9) <| zF <| zM <| zA <| zB <| g_u (yB rfl rfl rfl) <| g_u (zC rfl rfl) <| zF <| zA ?_
      have et : l.take (i + 1) = l.take i ++ [nthA l i] := yS (xI (d := a0) hi)
      have el : (l.take i).length = i := by rw [List.length_take]; omega
      refine ⟨i + 1, hi, ⟨rfl, rfl, look_mpr rfl (by rw [et, mks_snoc]) (by rw [et, mvs_snoc, el]), rfl, rfl, zV rfl (by rw [zZ (by omega) (by omega)]; rfl), trivial⟩, by (try dsimp only); omega⟩
    · have hin : i = l.length := by have := of_decide_eq_false hb1; (try simp only [List.length_map] at this); omega
      refine zv <| zU <| zU <| zp <| zA <| zD <| zB <| g_u (zE rfl rfl) <| zF <| zA <| aw_newrow 3006 6 rfl rfl rfl rfl <| zD <| zD <| zB <| g_u (s_mv_mref rfl rfl) <| g_uG (s_range 1025 rfl rfl rfl rfl rfl rfl Tryz.underlying146) rfl <| zF <| zA <| zQ ?_
      refine zs (fun seen : List Nat => [(0, .imm (.sl 7 (l.map avA))), (3, .mref 1011), (1011, .mpr (strs (mks l)) (mvs l)), (6, .slg 3006 0 (units (ksOf l seen).length)), (3006, .row (ksOf l seen)), (25, .ptr 1025 0), (1025, .itr 1011 (mks l).length seen)]) (fun seen => seen.Nodup ∧ ∀ j ∈ seen, j < (mks l).length) (fun seen => (mks l).length - seen.length) ([]) ?_ ⟨rfl, rfl, look_mpr rfl (by rw [hin, List.take_length]) (by rw [hin, List.take_length]), rfl, rfl, rfl, look_itr rfl (by rw [hin, List.take_length, strs_length]) rfl, trivial⟩ ?_
      · exact ⟨List.nodup_nil, fun j h => by cases h⟩
      · rintro seen ⟨h1, h2⟩; (try dsimp only at h1 h2)
        have hsl := nodup_lt _ seen h1 h2
        have hml := mks_len l
        have hkl := ksOf_len l seen
        refine zD ?_
        refine aw_next rfl rfl rfl rfl rfl (Nat.beq_refl _) rfl (fun hall => ?_) (fun q tx va hq hs hk hv => ?_)
        · have hp := seen_perm h1 h2 hall
          have hp : (ksOf l seen).Perm (mks l) := hp
          have hcs := canonAs_sorted l hp
          have hskl : (xc (ksOf l seen)).length = seen.length := by rw [sortB_length, ksOf_len]
          refine g_u (zh rfl rfl rfl rfl) <| zF <| zA <| zD <| zd rfl <| zv <| zU <| zU <| zp <| zA <| zD <| zB <| g_u (yN rfl rfl) ?_
          refine g_u (s_sort 6 (sort_c) rfl rfl rfl rfl rfl rfl rfl rfl rfl (by omega)) ?_
          refine zF <| zA <| zD <| zB <| g_u (zE rfl rfl) <| zF <| zA <| aw_newtok 3008 8 7 rfl rfl rfl rfl <| zD <| zD <| zB <| g_u (zC rfl rfl) <| g_u (zx rfl rfl Tryz.underlying31) <| g_u (zC rfl rfl) <| zF <| zA <| zQ ?_
          refine zs (fun j : Nat => [(0, .imm (.sl 7 (l.map avA))), (3, .mref 1011), (1011, .mpr (strs (mks l)) (mvs l)), (36, .imm (.sl 1 (strs (xc (ksOf l seen))))), (37, .imm (iv ((xc (ksOf l seen)).length : Int))), (8, .slg 3008 7 (((xc (ksOf l seen)).take j).map (fun k => (GA.mk k (yc (nthA l (lastI l k)).val)).av))), (3008, .tok 7 (((xc (ksOf l seen)).take j).map (fun k => (GA.mk k (yc (nthA l (lastI l k)).val)).av))), (38, .imm (iv (j : Int)))]) (fun j => j ≤ (xc (ksOf l seen)).length) (fun j => (xc (ksOf l seen)).length - j) (0) ?_ ⟨rfl, rfl, rfl, rfl, zV rfl (by rw [strs_length]), rfl, rfl, rfl, trivial⟩ ?_
          · exact Nat.zero_le _
          · rintro j g1; have g1 : j ≤ (xc (ksOf l seen)).length := g1
            refine zD <| zB <| g_u (yU rfl rfl rfl) <| zF <| zA <| zD ?_
            refine zN rfl (fun hb2 => ?_) (fun hb2 => ?_)
            · have hj : j < (xc (ksOf l seen)).length := by have := of_decide_eq_true hb2; omega
              obtain ⟨p, hp1, hp2, hp3⟩ := look_key (l := l) (k := nth (xc (ksOf l seen)) j ⟨#[]⟩) (((sortB_perm _).trans hp).mem_iff.1 (nth_mem hj))
              refine zO <| zA <| zD <| zQ <| zD <| zB ?_
              refine g_u (za rfl rfl rfl Tryz.underlying31 tS9 (by omega) (str_nth hj)) ?_
              refine g_u (zW rfl rfl tA9 tS9 rfl rfl) <| g_u (zE rfl rfl) <| zF <| zA <| zB <| g_u (yN rfl rfl) <| g_u (zC rfl rfl) <| g_u (zC rfl rfl) <| g_u (s_mv_mref rfl rfl) <| g_u (zC rfl rfl) <| g_u (s_lookup rfl rfl rfl rfl Tryz.underlying146 Tryz.underlying9 hp1 hp2) ?_
              refine g_u (za rfl rfl rfl Tryz.underlying46 tS93 (by omega) (ixA hp3)) ?_
              refine g_u (zY rfl rfl fa93_1 rfl rfl) <| g_u (zW rfl rfl tA91 tS91 rfl rfl) <| g_u (zT (ih _ (xm hp3)) rfl rfl) <| g_u (y9 rfl tU93 us93 pl93 rfl rfl rfl rfl) <| g_u (zu (X0 := z93) rfl Tryz.underlying46 tS93 tZ93 rfl rfl rfl rfl rfl rfl rfl rfl) ?_
              refine g_u (yW rfl rfl rfl rfl rfl Tryz.underlying46 Tryz.underlying46 tS93 zv93 rfl (by decide) by93 (by (try dsimp only); simp only [List.length_append, List.length_cons, List.length_nil, List.length_map, List.length_take]; omega) (by (try dsimp only); simp only [List.length_append, List.length_cons, List.length_nil, List.length_map, List.length_take]; omega)) ?_
              refine g_u (yQ rfl rfl) <| zF <| zM <| zA <| zB <| g_u (yB rfl rfl rfl) <| g_u (zC rfl rfl) <| zF <| zA ?_
              have et : (((xc (ksOf l seen)).take (j + 1)).map (fun k => (GA.mk k (yc (nthA l (lastI l k)).val)).av)) = (((xc (ksOf l seen)).take j).map (fun k => (GA.mk k (yc (nthA l (lastI l k)).val)).av)) ++ [(fun k => (GA.mk k (yc (nthA l (lastI l k)).val)).av) (nth (xc (ksOf l seen)) j ⟨#[]⟩)] := by rw [yS (xI (d := ⟨#[]⟩) hj), List.map_append]; rfl
              refine ⟨j + 1, hj, ⟨rfl, rfl, rfl, rfl, rfl, wx rfl et.symm, xZ rfl et.symm, zV rfl (by rw [zZ (by omega) (by omega)]; rfl), trivial⟩, by (try dsimp only); omega⟩
            · have hjn : j = (xc (ksOf l seen)).length := by have := of_decide_eq_false hb2; omega
              refine zv <| zU <| zU <| zp <| zA <| zD <| zB <| g_u (yN rfl rfl) <| g_u (yQ rfl rfl) <| zF <| zA <| zJ ?_
              exact ⟨⟨(rfl : toAV (Al.look _ _) = some _).trans (congrArg some (by (refine congrArg (AV.sl 7) ?_; rw [hjn, List.take_length, ← hcs, List.map_map]; exact List.map_congr_left fun k _ => (avA_eq _).symm))), rfl⟩, trivial⟩
        · refine g_u (zh rfl rfl rfl rfl) ?_
          refine zF <| zA <| zD <| zk rfl <| zO <| zA <| zQ <| zD <| zB <| g_u (s_entry rfl rfl rfl rfl (Nat.beq_refl _) hk hv) <| g_u (zh rfl rfl rfl rfl) <| g_u (zE rfl rfl) <| zF <| zA <| zB <| g_u (yN rfl rfl) <| g_u (zC rfl rfl) <| g_u (zu (X0 := z9) rfl Tryz.underlying31 tS9 tZ9 rfl rfl rfl rfl rfl rfl rfl rfl) ?_
          refine g_u (s_appendR rfl rfl rfl rfl rfl Tryz.underlying31 Tryz.underlying31 tS9 zv9 rfl by9 (by omega) (by omega)) ?_
          refine g_u (yQ rfl rfl) <| zF <| zM <| zA ?_
          have hn2 := nodup_snoc h1 hs
          have hl2 : ∀ j ∈ seen ++ [q], j < (mks l).length := fun j hj => by rcases List.mem_append.1 hj with h | h; exact h2 j h; rw [List.mem_singleton.1 h]; exact hq
          have hsl2 := nodup_lt _ _ hn2 hl2
          rw [List.length_append] at hsl2
          refine ⟨seen ++ [q], ⟨hn2, hl2⟩, ⟨rfl, rfl, rfl, look_units rfl (by rw [ksOf_snoc hk, List.length_append]; rfl), look_row rfl (ksOf_snoc hk).symm, rfl, rfl, trivial⟩, by (try dsimp only); rw [List.length_append]; simp only [List.length_cons, List.length_nil] at *; omega⟩
theorem pcanonV_st (v : GV) (hw : v.wt ≤ 10000000) (ih : ∀ y ∈ v.list, zj Tryz.prog Γ0 79 [y.av] [(yc y).av]) (ihm : zj Tryz.prog Γ0 46 [.sl 7 (v.map.map avA)] [.sl 7 ((yv v.map).map avA)]) : zj Tryz.prog Γ0 79 [v.av] [(yc v).av] := by
  have ek := v.wt_eq
  have lv := x_ v.list
  refine zb Tryz.func79 rfl Tryz.ntmps79 (by kernel_rfl) rfl fun w0 I0 G0 => ?_
  refine zD <| zB <| g_uG (zi 1001 rfl rfl rfl rfl) rfl <| g_uG (zo 1002 rfl rfl rfl tZ91) rfl <| zF <| zA <| zD <| zB <| g_u (zE rfl rfl) <| zF <| zA <| aw_newtok 3003 3 6 rfl rfl rfl rfl <| zD <| zD <| zB <| g_u (zG rfl rfl vI rfl) <| g_u (zH rfl rfl rfl tA89 tS89 rfl rfl) <| g_u (zx rfl rfl Tryz.underlying89) <| g_u (zC rfl rfl) <| zF <| zA <| zQ ?_
  refine zs (fun i : Nat => [(1, .ptr 1001 0), (1001, .box 91 (.imm v.av)), (2, .ptr 1002 0), (1002, .box 91 (.imm z91)), (3, .slg 3003 6 ((v.list.take i).map fun x => (yc x).av)), (3003, .tok 6 ((v.list.take i).map fun x => (yc x).av)), (7, .imm (.sl 6 (v.list.map avV))), (8, .imm (iv (v.list.length : Int))), (9, .imm (iv (i : Int)))]) (fun i => i ≤ v.list.length) (fun i => v.list.length - i) (0) ?_ ⟨rfl, rfl, rfl, rfl, rfl, rfl, rfl, zV rfl (by rw [List.length_map]), rfl, trivial⟩ ?_
  · exact Nat.zero_le _
  · rintro i h1; have h1 : i ≤ v.list.length := h1
    refine zD <| zB <| g_u (yU rfl rfl rfl) <| zF <| zA <| zD ?_
    refine zN rfl (fun hb1 => ?_) (fun hb1 => ?_)
    · have hi : i < v.list.length := by have := of_decide_eq_true hb1; (try simp only [List.length_map] at this); omega
      refine zO <| zA <| zD <| zQ <| zD <| zB ?_
      refine g_u (za rfl rfl rfl Tryz.underlying89 tS91 (by omega) (ixV hi)) ?_
      refine g_u (zW rfl rfl tA91 tS91 rfl rfl) <| g_uG (zo 1005 rfl rfl rfl tZ91) rfl <| g_u (zL rfl rfl rfl tS91 rfl rfl) <| zF <| zA <| zB <| g_u (yN rfl rfl) <| g_u (zl rfl rfl rfl tA91 tS91 rfl rfl) <| g_u (zT (ih _ (nthV_mem hi)) rfl rfl) <| g_u (zu (X0 := z91) rfl Tryz.underlying89 tS91 tZ91 rfl rfl rfl rfl rfl rfl rfl rfl) ?_
      refine g_u (yW rfl rfl rfl rfl rfl Tryz.underlying89 Tryz.underlying89 tS91 zv91 rfl (by decide) by91 (by (try dsimp only); simp only [List.length_append, List.length_cons, List.length_nil, List.length_map, List.length_take, List.length_drop]; omega) (by (try dsimp only); simp only [List.length_append, List.length_cons, List.length_nil, List.length_map, List.length_take, List.length_drop]; omega)) ?_
      refine g_u (yQ rfl rfl) <| zF <| zM <| zA <| zB <| g_u (yB rfl rfl rfl) <| g_u (zC rfl rfl) <| zF <| zA ?_
      have et : ((v.list.take (i + 1)).map fun x => (yc x).av) = ((v.list.take i).map fun x => (yc x).av) ++ [(yc (nthV v.list i)).av] := by rw [yS (xI (d := v0) hi), List.map_append]; rfl
      refine ⟨i + 1, hi, ⟨rfl, rfl, rfl, rfl, wx rfl et.symm, xZ rfl et.symm, rfl, rfl, zV rfl (by rw [zZ (by omega) (by omega)]; rfl), trivial⟩, by (try dsimp only); omega⟩
    · have hin : i = v.list.length := by have := of_decide_eq_false hb1; (try simp only [List.length_map] at this); omega
      refine zv <| zU <| zU <| zp <| zA <| zD <| zB <| g_u (yN rfl rfl) <| g_u (zG rfl rfl vH rfl) <| g_u (zH rfl rfl rfl tA46 tS46 rfl rfl) <| g_u (zT (ihm) rfl rfl) <| g_u (zG rfl rfl vI rfl) <| g_u (vL rfl rfl rfl rfl tS89 rfl rfl) <| g_u (zG rfl rfl vH rfl) <| g_u (zL rfl rfl rfl tS46 rfl rfl) <| zF <| zA <| zD <| zB <| g_u (zl rfl rfl rfl tA91 tS91 rfl rfl) <| g_u (zL rfl rfl rfl tS91 rfl rfl) <| zF <| zA <| zJ ?_
      exact ⟨⟨_, _, _, _, _, _, _, rfl, rfl, tA91, tS91, rfl, rfl, (rfl : toAV _ = some _).trans (congrArg some (by (rw [canonV_eq, hin, List.take_length]; show AV.agg _ = AV.agg [_, _, _, _, .sl 6 ((v.list.map yc).map avV), _]; rw [List.map_map, show avV ∘ yc = fun x => (yc x).av from funext fun x => avV_eq _]; rfl)))⟩, trivial⟩
theorem pcanonV_c (v : GV) : v.wt ≤ 10000000 → zj Tryz.prog Γ0 79 [v.av] [(yc v).av] := by
  refine GV.ind (P := fun v => v.wt ≤ 10000000 → zj Tryz.prog Γ0 79 [v.av] [(yc v).av]) ?_ v
  intro v h1 h2 hw
  have ek := v.wt_eq
  have la := yr v.map
  exact pcanonV_st v hw (fun y hy => h1 y hy (by have := wtVs_mem hy; omega)) (pcanonAs_st v.map (by omega) fun a ha => h2 a ha (by have := wM ha; have := a.wt_eq; omega))
theorem pcanonAs_c (l : List GA) (hw : wtAs l ≤ 10000000) : zj Tryz.prog Γ0 46 [.sl 7 (l.map avA)] [.sl 7 ((yv l).map avA)] := by
  have la := yr l
  exact pcanonAs_st l (by omega) fun a ha => pcanonV_c a.val (by have := wM ha; have := a.wt_eq; omega)
end Go.Proofs
namespace Go.Proofs
open Go Go.Al
set_option maxRecDepth 10000
end Go.Proofs
namespace Go.Proofs
open Go Go.Al
theorem xU {a b : Int} (h : orC a b = 0) : a = 0 ∧ b = 0 := by unfold orC at h; split at h <;> omega
theorem checkVs_mem {d : Int} : ∀ {l : List GV}, xj d l = 0 → ∀ y ∈ l, xr d y = 0
  | x :: l, h, y, hy => by
    rw [xj] at h
    obtain ⟨h1, h2⟩ := xU h
    rcases List.mem_cons.1 hy with rfl | hy
    · exact h1
    · exact checkVs_mem h2 y hy
theorem entC_mem {d : Int} : ∀ {l : List GA} {p : Option ByteArray}, entC d p l = 0 → risA p l ∧ ∀ a ∈ l, xr d a.val = 0
  | [], p, _ => ⟨trivial, fun a h => by cases h⟩
  | x :: l, p, h => by
    rw [entC] at h
    obtain ⟨h1, h2⟩ := xU h
    cases hb : prevBad p x.key
    · rw [hb, if_neg (by decide)] at h2
      obtain ⟨h3, h4⟩ := xU h2
      obtain ⟨h5, h6⟩ := entC_mem h4
      rw [checkA_eq] at h3
      refine ⟨⟨?_, h5⟩, fun a ha => ?_⟩
      · cases p with
        | none => trivial
        | some q => simp only [prevBad] at hb; simpa using hb
      · rcases List.mem_cons.1 ha with rfl | ha
        · exact h3
        · exact h6 a ha
    · rw [hb, if_pos rfl] at h2; omega
theorem checkV_parts {d : Int} {v : GV} (h : xr d v = 0) : xj (d + 1) v.list = 0 ∧ entC (d + 1) none v.map = 0 := by
  rw [yj] at h
  split at h; · omega
  split at h; · omega
  split at h; · omega
  split at h; · omega
  split at h; · omega
  exact xU h
theorem map_id_of {α : Type} {f : α → α} : ∀ {l : List α}, (∀ x ∈ l, f x = x) → l.map f = l
  | [], _ => rfl
  | x :: l, h => by rw [List.map_cons, h x List.mem_cons_self, map_id_of fun y hy => h y (List.mem_cons_of_mem _ hy)]
theorem canonAs_of {l : List GA} (hr : risA none l) (h : ∀ a ∈ l, yc a.val = a.val) : yv l = l := by
  have e : l.map canonP = l := map_id_of fun a ha => by rw [canonP_eq, h a ha]; cases a; rfl
  unfold yv
  rw [e, intoAll_ris l [] (by simpa using hr)]; rfl
theorem canon_of_check (v : GV) : ∀ d : Int, xr d v = 0 → yc v = v := by
  refine GV.ind (P := fun v => ∀ d : Int, xr d v = 0 → yc v = v) ?_ v
  intro v h1 h2 d hc
  obtain ⟨h3, h4⟩ := checkV_parts hc
  obtain ⟨h5, h6⟩ := entC_mem h4
  have e1 : v.list.map yc = v.list := map_id_of fun y hy => h1 y hy _ (checkVs_mem h3 y hy)
  have e2 : yv v.map = v.map := canonAs_of h5 fun a ha => h2 a ha _ (h6 a ha)
  rw [canonV_eq, e1, e2]
  cases v; rfl
theorem canonAs_of_ent {l : List GA} {d : Int} (h : entC d none l = 0) : yv l = l := by
  obtain ⟨h1, h2⟩ := entC_mem h
  exact canonAs_of h1 fun a ha => canon_of_check a.val _ (h2 a ha)
end Go.Proofs
namespace Go.Proofs
open Go Go.Al
set_option maxRecDepth 10000
end Go.Proofs
namespace Go.Proofs
open Go Go.Al
def wo : List Int → Int
  | [] => 0
  | c :: cs => orC c (wo cs)
abbrev FN := FuncId × List AV × List AV × Int
def fnA (x : FN) : AV := .fn (.func x.1) x.2.1 x.2.2.1
def fnd : FN := (0, [], [], 0)
def fcodes (l : List FN) : List Int := l.map fun x => x.2.2.2
theorem firstC_drop {l : List FN} {i : Nat} (h : i < l.length) : wo (fcodes (l.drop i)) = orC (nth l i fnd).2.2.2 (wo (fcodes (l.drop (i + 1)))) := by
  rw [yz (d := fnd) h]; rfl
theorem evC_drop {l : List GE} {i : Nat} (h : i < l.length) : evC (l.drop i) = if 9223372036854775807 < (nthE l i).time then 11 else orC (orC (yt (nthE l i).name) (yZ (nthE l i).attrs)) (evC (l.drop (i + 1))) := by
  rw [yz (d := ge0) h, evC]; rfl
theorem lkC_drop {l : List GL} {i : Nat} (h : i < l.length) : lkC (l.drop i) = if vK (nthL l i).trace || vK (nthL l i).span then 10 else orC (orC (yt (nthL l i).state) (yZ (nthL l i).attrs)) (lkC (l.drop (i + 1))) := by
  rw [yz (d := gl0) h, lkC]; rfl
theorem wr : ∀ {n : Nat} {l : Bs}, l.length = n → (l == List.replicate n 0) = vK l
  | 0, [], _ => rfl
  | n + 1, x :: l, h => by
    have ih := wr (n := n) (l := l) (by simpa using h)
    rw [List.replicate_succ, List.cons_beq_cons, ih]; rfl
def spanOk (s : GSpan) : Int :=
  wo [if vK s.trace || vK s.id then 10 else 0, yt s.state, yt s.name, if s.kind < 0 ∨ 5 < s.kind then 7 else 0, rgCheckM ⟨s.start, s.fin⟩, yZ s.attrs, evsC s.events, lksC s.links, if s.code < 0 ∨ 2 < s.code then 7 else 0, yt s.note]
theorem attrsC_ent {l : List GA} (h : yZ l = 0) : entC 0 none l = 0 := by
  unfold yZ at h
  split at h
  · omega
  · exact (xU h).1
theorem evC_mem : ∀ {l : List GE}, evC l = 0 → ∀ e ∈ l, yZ e.attrs = 0
  | x :: l, h, e, he => by
    rw [evC] at h
    split at h
    · omega
    · obtain ⟨h1, h2⟩ := xU h
      rcases List.mem_cons.1 he with rfl | he
      · exact (xU h1).2
      · exact evC_mem h2 e he
theorem lkC_mem : ∀ {l : List GL}, lkC l = 0 → ∀ e ∈ l, yZ e.attrs = 0
  | x :: l, h, e, he => by
    rw [lkC] at h
    split at h
    · omega
    · obtain ⟨h1, h2⟩ := xU h
      rcases List.mem_cons.1 he with rfl | he
      · exact (xU h1).2
      · exact lkC_mem h2 e he
theorem canonS_of {s : GSpan} (h : spanOk s = 0) : canonS s = s := by
  unfold spanOk at h
  simp only [wo] at h
  obtain ⟨_, h⟩ := xU h
  obtain ⟨_, h⟩ := xU h
  obtain ⟨_, h⟩ := xU h
  obtain ⟨_, h⟩ := xU h
  obtain ⟨_, h⟩ := xU h
  obtain ⟨ha, h⟩ := xU h
  obtain ⟨he, h⟩ := xU h
  obtain ⟨hl, h⟩ := xU h
  have e1 : yv s.attrs = s.attrs := canonAs_of_ent (attrsC_ent ha)
  have he' : evC s.events = 0 := by unfold evsC at he; split at he; omega; exact he
  have hl' : lkC s.links = 0 := by unfold lksC at hl; split at hl; omega; exact hl
  have e2 : s.events.map canonE = s.events := map_id_of fun e hm => by
    unfold canonE; rw [canonAs_of_ent (attrsC_ent (evC_mem he' e hm))]
  have e3 : s.links.map canonL = s.links := map_id_of fun e hm => by
    unfold canonL; rw [canonAs_of_ent (attrsC_ent (lkC_mem hl' e hm))]
  unfold canonS
  rw [e1, e2, e3]
end Go.Proofs
namespace Go.Al
section
variable {P : Program} {b : Frame} {a : Act} {k : List Item} {cs : List Frame} {w : World}
theorem vN {c : Code} : step P (lone (b.atR a (.code (.scope c) :: k)) cs w) = .next (lone (b.atR a (.code c :: .inScope c :: k)) cs w) :=
  step_lone_go (by simp [stepG, stepG.exec, Frame.atR])
theorem stepR_inScope {c : Code} : step P (lone (b.atR a (.inScope c :: k)) cs w) = .next (lone (b.atR a k) cs w) :=
  step_lone_go (by simp [stepG, stepG.exec, Frame.atR])
end
theorem wpIn_scope {F : Fence} {n : Nat} {P : Program} {Q : Exit → Act → World → Prop} {a : Act} {w : World} {c : Code} (hn : ∀ l a w, ¬ Q (.goto l) a w) (h : c.wpIn F n P Q a w) : (Code.scope c).wpIn F n P Q a w := by
  intro b k cs hro hb hr
  have h0 : (lone (b.atR a (.code (.scope c) :: k)) cs w).fenced P F := fenced_calm hb hr rfl
  obtain ⟨e, a₁, w₁, hq, harr⟩ := h b (.inScope c :: k) cs hro hb hr
  cases e with
  | normal => exact ⟨.normal, a₁, w₁, hq, .head h0 vN (StepsIn.trans harr (.one (fenced_calm hb hr rfl) stepR_inScope))⟩
  | exit id =>
    have hx : exitTo id (.inScope c :: k) = exitTo id k := by simp [exitTo]
    exact ⟨_, a₁, w₁, hq, fun k' hk => .head h0 vN (harr.1 k' (by rw [hx]; exact hk)),
      fun hr' hk => let ⟨k₁, h1, h2⟩ := harr.2 hr' (by rw [hx]; exact hk); ⟨k₁, h1, .head h0 vN h2⟩⟩
  | goto l => exact (hn _ _ _ hq).elim
  | ret => exact ⟨_, a₁, w₁, hq, .of_steps (.one h0 vN) harr⟩
  | panic ch => exact ⟨_, a₁, w₁, hq, .of_steps (.one h0 vN) harr⟩
  | outgrown => exact ⟨_, a₁, w₁, hq, .of_steps (.one h0 vN) harr⟩
def scp (Q : Exit → St → Prop) : Exit → St → Prop
  | .goto _, _ => False
  | e, st => Q e st
theorem ret_scp {st : St} {Q : Exit → St → Prop} (h : Q .ret st) : scp Q .ret st := h
theorem aw_scope {C : Cx} {c : Code} {st : St} {Q : Exit → St → Prop} (h : AW C c st (scp Q)) : AW C (.scope c) st Q := by
  intro a w S n
  refine wpIn_mono (wpIn_scope ?_ (h a w S n)) ?_
  · rintro l a w ⟨st', q, _⟩; exact q
  · rintro e a' w' ⟨st', q, S'⟩
    cases e with
    | goto l => exact q.elim
    | normal => exact ⟨st', q, S'⟩
    | exit id => exact ⟨st', q, S'⟩
    | ret => exact ⟨st', q, S'⟩
    | panic c => exact ⟨st', q, S'⟩
    | outgrown => exact ⟨st', q, S'⟩
theorem aw_label {C : Cx} {l : Nat} {st : St} {Q : Exit → St → Prop} (h : Q .normal st) : AW C (.label l) st Q := fun _ _ S _ => wpIn_label ⟨st, h, S⟩
end Go.Al
namespace Go.Proofs
open Go Go.Al
set_option maxRecDepth 10000
set_option maxHeartbeats 4000000 in
theorem eqdE_c (a b : List GE) (fn : FuncId) (hl : a.length ≤ 1000000000) (hf : ∀ x ∈ a, ∀ y : GE, zj Tryz.prog Γ0 fn ([] ++ [x.av, y.av] ++ []) [bv (decide (x = y))]) : zj Tryz.prog Γ0 159 [(.sl 3 (a.map GE.av)), (.sl 3 (b.map GE.av)), .fn (.func fn) [] []] [bv (decide (a = b))] := by
  refine zb Tryz.func159 rfl Tryz.ntmps159 (by kernel_rfl) rfl fun w0 I0 G0 => ?_
  refine zD <| zB <| g_u (zE rfl rfl) <| zF <| zA <| zD <| zD <| zB <| g_u (zC rfl rfl) <| g_u (zx rfl rfl Tryz.underlying47) <| g_u (zC rfl rfl) <| g_u (zx rfl rfl Tryz.underlying47) <| g_u (xG rfl rfl rfl) <| zF <| zA ?_
  refine zN rfl (fun hb1 => ?_) (fun hb1 => ?_)
  · have q : ¬ a.length = b.length := by have e := qc.1 hb1; simp only [List.length_map] at e; omega
    refine zD <| zB <| g_u (zE rfl rfl) <| zF <| zA <| zJ <| zK ?_
    exact ⟨⟨(rfl : toAV (Al.look _ _) = some _).trans (congrArg some (by (exact congrArg bv (by first | exact (decide_eq_false (fun e => q (by rw [e]))).symm | exact (decide_eq_true (xL ge0 el (fun j hj => h2 j (by omega)))).symm)))), rfl⟩, trivial⟩
  · have el : a.length = b.length := by have e := qd.1 hb1; simp only [List.length_map] at e; omega
    refine zO <| zA <| zD <| zD <| zB <| g_u (zC rfl rfl) <| g_u (zx rfl rfl Tryz.underlying47) <| g_u (zC rfl rfl) <| zF <| zA <| zQ ?_
    refine zs (fun i : Nat => [(1, .imm (.sl 3 (b.map GE.av))), (2, .imm (.fn (.func fn) [] [])), (15, .imm (.sl 3 (a.map GE.av))), (16, .imm (iv (a.length : Int))), (17, .imm (iv (i : Int)))]) (fun i => i ≤ a.length ∧ ∀ j, j < i → nth a j ge0 = nth b j ge0) (fun i => a.length - i) (0) ?_ ⟨rfl, rfl, rfl, zV rfl (by rw [List.length_map]), rfl, trivial⟩ ?_
    · exact ⟨Nat.zero_le _, fun j h => absurd h (Nat.not_lt_zero _)⟩
    · rintro i ⟨h1, h2⟩; (try dsimp only at h1 h2)
      refine zD <| zB <| g_u (yU rfl rfl rfl) <| zF <| zA <| zD ?_
      refine zN rfl (fun hb2 => ?_) (fun hb2 => ?_)
      · have hi : i < a.length := by have := of_decide_eq_true hb2; (try simp only [List.length_map] at this); omega
        have hib : i < b.length := by omega
        refine zO <| zA <| zD <| zQ <| zD <| zB <| g_u (zC rfl rfl) ?_
        refine g_u (za rfl rfl rfl Tryz.underlying47 tS95 (by omega) (ixE hi)) ?_
        refine g_u (zW rfl rfl tA95 tS95 rfl rfl) <| g_uG (zo 1008 rfl rfl rfl tZ95) rfl <| g_u (zE rfl rfl) <| g_u (zL rfl rfl rfl tS95 rfl rfl) <| zF <| zA <| zD <| zB <| g_u (zC rfl rfl) <| g_u (zC rfl rfl) ?_
        refine g_u (za rfl rfl rfl Tryz.underlying47 tS95 (by omega) (ixE hib)) ?_
        refine g_u (zW rfl rfl tA95 tS95 rfl rfl) <| g_uG (zo 1009 rfl rfl rfl tZ95) rfl <| g_u (zL rfl rfl rfl tS95 rfl rfl) <| zF <| zA <| zD <| zB <| g_u (zC rfl rfl) <| g_u (zl rfl rfl rfl tA95 tS95 rfl rfl) <| g_u (zl rfl rfl rfl tA95 tS95 rfl rfl) <| g_u (xQ (hf _ (nthE_mem hi) _) rfl rfl rfl) <| g_u (s_not rfl rfl) <| zF <| zA ?_
        refine zN rfl (fun hb3 => ?_) (fun hb3 => ?_)
        · have q : ¬ nthE a i = nthE b i := fun h => by have e := hb3; rw [decide_eq_true h] at e; cases e
          refine zD <| zB <| g_u (zE rfl rfl) <| zF <| zA <| zJ <| ze <| zK <| zK <| ze <| zK ?_
          exact ⟨⟨(rfl : toAV (Al.look _ _) = some _).trans (congrArg some (by (exact congrArg bv (by first | exact (decide_eq_false (fun e => q (by rw [e]))).symm | exact (decide_eq_true (xL ge0 el (fun j hj => h2 j (by omega)))).symm)))), rfl⟩, trivial⟩
        · have ev : nthE a i = nthE b i := by have e := hb3; simpa using e
          refine zO <| zM <| zA <| zB <| g_u (yB rfl rfl rfl) <| g_u (zC rfl rfl) <| zF <| zA ?_
          refine ⟨i + 1, ⟨hi, fun j hj => by rcases Nat.lt_or_ge j i with h | h; exact h2 j h; rw [show j = i by omega]; exact ev⟩, ⟨rfl, rfl, rfl, rfl, zV rfl (by rw [zZ (by omega) (by omega)]; rfl), trivial⟩, by (try dsimp only); omega⟩
      · have hin : i = a.length := by have := of_decide_eq_false hb2; (try simp only [List.length_map] at this); omega
        refine zv <| zU <| zU <| zp <| zA <| zD <| zB <| g_u (zE rfl rfl) <| zF <| zA <| zJ ?_
        exact ⟨⟨(rfl : toAV (Al.look _ _) = some _).trans (congrArg some (by (exact congrArg bv (by first | exact (decide_eq_false (fun e => q (by rw [e]))).symm | exact (decide_eq_true (xL ge0 el (fun j hj => h2 j (by omega)))).symm)))), rfl⟩, trivial⟩
set_option maxHeartbeats 4000000 in
theorem eqdL_c (a b : List GL) (fn : FuncId) (hl : a.length ≤ 1000000000) (hf : ∀ x ∈ a, ∀ y : GL, zj Tryz.prog Γ0 fn ([] ++ [x.av, y.av] ++ []) [bv (decide (x = y))]) : zj Tryz.prog Γ0 161 [(.sl 26 (a.map GL.av)), (.sl 26 (b.map GL.av)), .fn (.func fn) [] []] [bv (decide (a = b))] := by
  refine zb Tryz.func161 rfl Tryz.ntmps161 (by kernel_rfl) rfl fun w0 I0 G0 => ?_
  refine zD <| zB <| g_u (zE rfl rfl) <| zF <| zA <| zD <| zD <| zB <| g_u (zC rfl rfl) <| g_u (zx rfl rfl Tryz.underlying48) <| g_u (zC rfl rfl) <| g_u (zx rfl rfl Tryz.underlying48) <| g_u (xG rfl rfl rfl) <| zF <| zA ?_
  refine zN rfl (fun hb1 => ?_) (fun hb1 => ?_)
  · have q : ¬ a.length = b.length := by have e := qc.1 hb1; simp only [List.length_map] at e; omega
    refine zD <| zB <| g_u (zE rfl rfl) <| zF <| zA <| zJ <| zK ?_
    exact ⟨⟨(rfl : toAV (Al.look _ _) = some _).trans (congrArg some (by (exact congrArg bv (by first | exact (decide_eq_false (fun e => q (by rw [e]))).symm | exact (decide_eq_true (xL gl0 el (fun j hj => h2 j (by omega)))).symm)))), rfl⟩, trivial⟩
  · have el : a.length = b.length := by have e := qd.1 hb1; simp only [List.length_map] at e; omega
    refine zO <| zA <| zD <| zD <| zB <| g_u (zC rfl rfl) <| g_u (zx rfl rfl Tryz.underlying48) <| g_u (zC rfl rfl) <| zF <| zA <| zQ ?_
    refine zs (fun i : Nat => [(1, .imm (.sl 26 (b.map GL.av))), (2, .imm (.fn (.func fn) [] [])), (15, .imm (.sl 26 (a.map GL.av))), (16, .imm (iv (a.length : Int))), (17, .imm (iv (i : Int)))]) (fun i => i ≤ a.length ∧ ∀ j, j < i → nth a j gl0 = nth b j gl0) (fun i => a.length - i) (0) ?_ ⟨rfl, rfl, rfl, zV rfl (by rw [List.length_map]), rfl, trivial⟩ ?_
    · exact ⟨Nat.zero_le _, fun j h => absurd h (Nat.not_lt_zero _)⟩
    · rintro i ⟨h1, h2⟩; (try dsimp only at h1 h2)
      refine zD <| zB <| g_u (yU rfl rfl rfl) <| zF <| zA <| zD ?_
      refine zN rfl (fun hb2 => ?_) (fun hb2 => ?_)
      · have hi : i < a.length := by have := of_decide_eq_true hb2; (try simp only [List.length_map] at this); omega
        have hib : i < b.length := by omega
        refine zO <| zA <| zD <| zQ <| zD <| zB <| g_u (zC rfl rfl) ?_
        refine g_u (za rfl rfl rfl Tryz.underlying48 tS107 (by omega) (ixL hi)) ?_
        refine g_u (zW rfl rfl tA107 tS107 rfl (by first | exact xp (GL.width _) rfl | rfl)) ?_
        refine g_uG (zo 1008 rfl rfl rfl tZ107) rfl <| g_u (zE rfl rfl) ?_
        refine g_u (zL rfl rfl rfl tS107 (by first | exact beqW (GL.width _) | rfl) (by first | exact setS_w (z107_w.trans (GL.width _).symm) rfl | rfl)) ?_
        refine zF <| zA <| zD <| zB <| g_u (zC rfl rfl) <| g_u (zC rfl rfl) ?_
        refine g_u (za rfl rfl rfl Tryz.underlying48 tS107 (by omega) (ixL hib)) ?_
        refine g_u (zW rfl rfl tA107 tS107 rfl (by first | exact xp (GL.width _) rfl | rfl)) ?_
        refine g_uG (zo 1009 rfl rfl rfl tZ107) rfl ?_
        refine g_u (zL rfl rfl rfl tS107 (by first | exact beqW (GL.width _) | rfl) (by first | exact setS_w (z107_w.trans (GL.width _).symm) rfl | rfl)) ?_
        refine zF <| zA <| zD <| zB <| g_u (zC rfl rfl) ?_
        refine g_u (zH rfl rfl rfl tA107 tS107 rfl (by first | exact xp (GL.width _) rfl | rfl)) ?_
        refine g_u (zH rfl rfl rfl tA107 tS107 rfl (by first | exact xp (GL.width _) rfl | rfl)) ?_
        refine g_u (xQ (hf _ (nthL_mem hi) _) rfl rfl rfl) <| g_u (s_not rfl rfl) <| zF <| zA ?_
        refine zN rfl (fun hb3 => ?_) (fun hb3 => ?_)
        · have q : ¬ nthL a i = nthL b i := fun h => by have e := hb3; rw [decide_eq_true h] at e; cases e
          refine zD <| zB <| g_u (zE rfl rfl) <| zF <| zA <| zJ <| ze <| zK <| zK <| ze <| zK ?_
          exact ⟨⟨(rfl : toAV (Al.look _ _) = some _).trans (congrArg some (by (exact congrArg bv (by first | exact (decide_eq_false (fun e => q (by rw [e]))).symm | exact (decide_eq_true (xL gl0 el (fun j hj => h2 j (by omega)))).symm)))), rfl⟩, trivial⟩
        · have ev : nthL a i = nthL b i := by have e := hb3; simpa using e
          refine zO <| zM <| zA <| zB <| g_u (yB rfl rfl rfl) <| g_u (zC rfl rfl) <| zF <| zA ?_
          refine ⟨i + 1, ⟨hi, fun j hj => by rcases Nat.lt_or_ge j i with h | h; exact h2 j h; rw [show j = i by omega]; exact ev⟩, ⟨rfl, rfl, rfl, rfl, zV rfl (by rw [zZ (by omega) (by omega)]; rfl), trivial⟩, by (try dsimp only); omega⟩
      · have hin : i = a.length := by have := of_decide_eq_false hb2; (try simp only [List.length_map] at this); omega
        refine zv <| zU <| zU <| zp <| zA <| zD <| zB <| g_u (zE rfl rfl) <| zF <| zA <| zJ ?_
        exact ⟨⟨(rfl : toAV (Al.look _ _) = some _).trans (congrArg some (by (exact congrArg bv (by first | exact (decide_eq_false (fun e => q (by rw [e]))).symm | exact (decide_eq_true (xL gl0 el (fun j hj => h2 j (by omega)))).symm)))), rfl⟩, trivial⟩
theorem sameE_c (a b : GE) (hw : wtAs a.attrs ≤ 1000000000) : zj Tryz.prog Γ0 160 [a.av, b.av] [bv (decide (a = b))] := by
  refine zb Tryz.func160 rfl Tryz.ntmps160 (by kernel_rfl) rfl fun w0 I0 G0 => ?_
  refine zD <| zB <| g_uG (zi 1002 rfl rfl rfl rfl) rfl <| g_uG (zi 1003 rfl rfl rfl rfl) rfl <| g_u (zE rfl rfl) <| zF <| zA <| zD <| zB <| g_u (zG rfl rfl fa95_0 rfl) <| g_u (zH rfl rfl rfl tA45 tS45 rfl rfl) <| g_u (zG rfl rfl fa95_0 rfl) <| g_u (zH rfl rfl rfl tA45 tS45 rfl rfl) <| g_u (yn rfl rfl rfl) <| g_u (zC rfl rfl) <| zz (t := 10) rfl ?_
  rintro (hb1 | hb1)
  · rw [hb1]
    have f1 : a.time = b.time := beq_iff_eq.1 hb1
    refine zP rfl rfl (zG rfl rfl fa95_1 rfl) <| zP rfl rfl (zH rfl rfl rfl tA9 tS9 rfl rfl) <| zP rfl rfl (zG rfl rfl fa95_1 rfl) <| zP rfl rfl (zH rfl rfl rfl tA9 tS9 rfl rfl) <| zP rfl rfl (s_eqS rfl rfl rfl) <| g_u (zX rfl rfl rfl) <| g_u (zC rfl rfl) <| zz (t := 17) rfl ?_
    rintro (hb2 | hb2)
    · rw [hb2]
      have f2 : a.name = b.name := by have e := hb2; rw [xJ] at e; simpa using e
      refine zP rfl rfl (zG rfl rfl fa95_2 rfl) <| zP rfl rfl (zH rfl rfl rfl tA46 tS46 rfl rfl) <| zP rfl rfl (zG rfl rfl fa95_2 rfl) <| zP rfl rfl (zH rfl rfl rfl tA46 tS46 rfl rfl) ?_
      refine zP rfl rfl (zT (psameAs_c _ _ (by omega)) rfl rfl) ?_
      refine g_u (zX rfl rfl rfl) <| g_u (zE rfl rfl) <| zF <| zA <| zJ ?_
      exact ⟨⟨(rfl : toAV (Al.look _ _) = some _).trans (congrArg some (by (exact congrArg bv (by first | exact (decide_eq_false (fun e => q (by rw [e]))).symm | (rw [Bool.eq_iff_iff, yb, decide_eq_true_iff]; exact ⟨fun h => GE.ext' f1 f2 h, fun h => by rw [h]⟩))))), rfl⟩, trivial⟩
    · rw [hb2]
      have q : ¬ a.name = b.name := by have e := hb2; rw [xJ] at e; simpa using e
      refine zI rfl rfl rfl <| zI rfl rfl rfl <| zI rfl rfl rfl <| zI rfl rfl rfl <| zI rfl rfl rfl <| g_u (zg rfl rfl rfl) <| g_u (zE rfl rfl) <| zF <| zA <| zJ ?_
      exact ⟨⟨(rfl : toAV (Al.look _ _) = some _).trans (congrArg some (by (exact congrArg bv (by first | exact (decide_eq_false (fun e => q (by rw [e]))).symm | (rw [Bool.eq_iff_iff, yb, decide_eq_true_iff]; exact ⟨fun h => GE.ext' f1 f2 h, fun h => by rw [h]⟩))))), rfl⟩, trivial⟩
  · rw [hb1]
    have q : ¬ a.time = b.time := beq_eq_false_iff_ne.1 hb1
    refine zI rfl rfl rfl <| zI rfl rfl rfl <| zI rfl rfl rfl <| zI rfl rfl rfl <| zI rfl rfl rfl <| g_u (zg rfl rfl rfl) <| g_u (zC rfl rfl) <| zI rfl rfl rfl <| zI rfl rfl rfl <| zI rfl rfl rfl <| zI rfl rfl rfl <| zI rfl rfl rfl <| g_u (zg rfl rfl rfl) <| g_u (zE rfl rfl) <| zF <| zA <| zJ ?_
    exact ⟨⟨(rfl : toAV (Al.look _ _) = some _).trans (congrArg some (by (exact congrArg bv (by first | exact (decide_eq_false (fun e => q (by rw [e]))).symm | (rw [Bool.eq_iff_iff, yb, decide_eq_true_iff]; exact ⟨fun h => GE.ext' f1 f2 h, fun h => by rw [h]⟩))))), rfl⟩, trivial⟩
set_option maxHeartbeats 1000000 in
theorem sameL_c (a b : GL) (hw : wtAs a.attrs ≤ 1000000000) : zj Tryz.prog Γ0 162 [a.av, b.av] [bv (decide (a = b))] := by
  refine zb Tryz.func162 rfl Tryz.ntmps162 (by kernel_rfl) rfl fun w0 I0 G0 => ?_
  refine zD <| zB <| g_uG (zi 1002 rfl rfl rfl rfl) rfl <| g_uG (zi 1003 rfl rfl rfl rfl) rfl <| g_u (zE rfl rfl) <| zF <| zA <| zD <| zB <| g_u (zG rfl rfl fa107_0 rfl) <| g_u (zH rfl rfl rfl tA42 tS42 rfl rfl) <| g_u (zG rfl rfl fa107_0 rfl) <| g_u (zH rfl rfl rfl tA42 tS42 rfl rfl) <| g_u (s_eqA rfl rfl rfl eg42 rfl rfl (eq42 _ _)) <| g_u (zC rfl rfl) <| zz (t := 10) rfl ?_
  rintro (hb1 | hb1)
  · rw [hb1]
    have g1 : a.trace = b.trace := by have e := hb1; simpa using e
    refine zP rfl rfl (zG rfl rfl fa107_1 rfl) <| zP rfl rfl (zH rfl rfl rfl tA44 tS44 rfl rfl) <| zP rfl rfl (zG rfl rfl fa107_1 rfl) <| zP rfl rfl (zH rfl rfl rfl tA44 tS44 rfl rfl) <| zP rfl rfl (s_eqA rfl rfl rfl eg44 rfl rfl (eq44 _ _)) <| g_u (zX rfl rfl rfl) <| g_u (zC rfl rfl) <| zz (t := 17) rfl ?_
    rintro (hb2 | hb2)
    · rw [hb2]
      have g2 : a.span = b.span := by have e := hb2; simpa using e
      refine zP rfl rfl (zG rfl rfl fa107_2 rfl) <| zP rfl rfl (zH rfl rfl rfl tA9 tS9 rfl rfl) <| zP rfl rfl (zG rfl rfl fa107_2 rfl) <| zP rfl rfl (zH rfl rfl rfl tA9 tS9 rfl rfl) <| zP rfl rfl (s_eqS rfl rfl rfl) <| g_u (zX rfl rfl rfl) <| g_u (zC rfl rfl) <| zz (t := 24) rfl ?_
      rintro (hb3 | hb3)
      · rw [hb3]
        have g3 : a.state = b.state := by have e := hb3; rw [xJ] at e; simpa using e
        refine zP rfl rfl (zG rfl rfl fa107_3 rfl) <| zP rfl rfl (zH rfl rfl rfl tA46 tS46 rfl rfl) <| zP rfl rfl (zG rfl rfl fa107_3 rfl) <| zP rfl rfl (zH rfl rfl rfl tA46 tS46 rfl rfl) ?_
        refine zP rfl rfl (zT (psameAs_c _ _ (by omega)) rfl rfl) ?_
        refine g_u (zX rfl rfl rfl) <| g_u (zE rfl rfl) <| zF <| zA <| zJ ?_
        exact ⟨⟨(rfl : toAV (Al.look _ _) = some _).trans (congrArg some (by (exact congrArg bv (by first | exact (decide_eq_false (fun e => q (by rw [e]))).symm | (rw [Bool.eq_iff_iff, yb, decide_eq_true_iff]; exact ⟨fun h => GL.ext' g1 g2 g3 h, fun h => by rw [h]⟩))))), rfl⟩, trivial⟩
      · rw [hb3]
        have q : ¬ a.state = b.state := by have e := hb3; rw [xJ] at e; simpa using e
        refine zI rfl rfl rfl <| zI rfl rfl rfl <| zI rfl rfl rfl <| zI rfl rfl rfl <| zI rfl rfl rfl <| g_u (zg rfl rfl rfl) <| g_u (zE rfl rfl) <| zF <| zA <| zJ ?_
        exact ⟨⟨(rfl : toAV (Al.look _ _) = some _).trans (congrArg some (by (exact congrArg bv (by first | exact (decide_eq_false (fun e => q (by rw [e]))).symm | (rw [Bool.eq_iff_iff, yb, decide_eq_true_iff]; exact ⟨fun h => GL.ext' g1 g2 g3 h, fun h => by rw [h]⟩))))), rfl⟩, trivial⟩
    · rw [hb2]
      have q : ¬ a.span = b.span := by have e := hb2; simpa using e
      refine zI rfl rfl rfl <| zI rfl rfl rfl <| zI rfl rfl rfl <| zI rfl rfl rfl <| zI rfl rfl rfl <| g_u (zg rfl rfl rfl) <| g_u (zC rfl rfl) <| zI rfl rfl rfl <| zI rfl rfl rfl <| zI rfl rfl rfl <| zI rfl rfl rfl <| zI rfl rfl rfl <| g_u (zg rfl rfl rfl) <| g_u (zE rfl rfl) <| zF <| zA <| zJ ?_
      exact ⟨⟨(rfl : toAV (Al.look _ _) = some _).trans (congrArg some (by (exact congrArg bv (by first | exact (decide_eq_false (fun e => q (by rw [e]))).symm | (rw [Bool.eq_iff_iff, yb, decide_eq_true_iff]; exact ⟨fun h => GL.ext' g1 g2 g3 h, fun h => by rw [h]⟩))))), rfl⟩, trivial⟩
  · rw [hb1]
    have q : ¬ a.trace = b.trace := by have e := hb1; simpa using e
    refine zI rfl rfl rfl <| zI rfl rfl rfl <| zI rfl rfl rfl <| zI rfl rfl rfl <| zI rfl rfl rfl <| g_u (zg rfl rfl rfl) <| g_u (zC rfl rfl) <| zI rfl rfl rfl <| zI rfl rfl rfl <| zI rfl rfl rfl <| zI rfl rfl rfl <| zI rfl rfl rfl <| g_u (zg rfl rfl rfl) <| g_u (zC rfl rfl) <| zI rfl rfl rfl <| zI rfl rfl rfl <| zI rfl rfl rfl <| zI rfl rfl rfl <| zI rfl rfl rfl <| g_u (zg rfl rfl rfl) <| g_u (zE rfl rfl) <| zF <| zA <| zJ ?_
    exact ⟨⟨(rfl : toAV (Al.look _ _) = some _).trans (congrArg some (by (exact congrArg bv (by first | exact (decide_eq_false (fun e => q (by rw [e]))).symm | (rw [Bool.eq_iff_iff, yb, decide_eq_true_iff]; exact ⟨fun h => GL.ext' g1 g2 g3 h, fun h => by rw [h]⟩))))), rfl⟩, trivial⟩
set_option maxHeartbeats 8000000 in
theorem psameS_c (a b : GSpan) (hw : a.wt ≤ 1000000000) : zj Tryz.prog Γ0 110 [a.av, b.av] [bv (decide (a = b))] := by
  have qw : a.wt = 1 + a.state.size + a.name.size + a.note.size + wtAs a.attrs + zr GE.wt a.events + zr GL.wt a.links := rfl
  have ql := yJ GE.wt (fun e => by unfold GE.wt; omega) a.events
  have qm := yJ GL.wt (fun e => by unfold GL.wt; omega) a.links
  refine zb Tryz.func110 rfl Tryz.ntmps110 (by kernel_rfl) rfl fun w0 I0 G0 => ?_
  refine zD <| zB <| g_uG (zi 1002 rfl rfl rfl rfl) rfl <| g_uG (zi 1003 rfl rfl rfl rfl) rfl <| g_u (zE rfl rfl) <| zF <| zA <| zD <| zB <| g_u (zG rfl rfl fa52_0 rfl) <| g_u (zH rfl rfl rfl tA42 tS42 rfl rfl) <| g_u (zG rfl rfl fa52_0 rfl) <| g_u (zH rfl rfl rfl tA42 tS42 rfl rfl) <| g_u (s_eqA rfl rfl rfl eg42 rfl rfl (eq42 _ _)) <| g_u (zC rfl rfl) <| zz (t := 11) rfl ?_
  rintro (hb1 | hb1)
  · rw [hb1]
    have e0 : a.trace = b.trace := by have e := hb1; simpa using e
    refine zP rfl rfl (zG rfl rfl fa52_1 rfl) <| zP rfl rfl (zH rfl rfl rfl tA44 tS44 rfl rfl) <| zP rfl rfl (zG rfl rfl fa52_1 rfl) <| zP rfl rfl (zH rfl rfl rfl tA44 tS44 rfl rfl) <| zP rfl rfl (s_eqA rfl rfl rfl eg44 rfl rfl (eq44 _ _)) <| g_u (zX rfl rfl rfl) <| g_u (zC rfl rfl) <| zz (t := 18) rfl ?_
    rintro (hb2 | hb2)
    · rw [hb2]
      have e1 : a.id = b.id := by have e := hb2; simpa using e
      refine zP rfl rfl (zG rfl rfl fa52_2 rfl) <| zP rfl rfl (zH rfl rfl rfl tA44 tS44 rfl rfl) <| zP rfl rfl (zG rfl rfl fa52_2 rfl) <| zP rfl rfl (zH rfl rfl rfl tA44 tS44 rfl rfl) <| zP rfl rfl (s_eqA rfl rfl rfl eg44 rfl rfl (eq44 _ _)) <| g_u (zX rfl rfl rfl) <| g_u (zC rfl rfl) <| zz (t := 25) rfl ?_
      rintro (hb3 | hb3)
      · rw [hb3]
        have e2 : a.parent = b.parent := by have e := hb3; simpa using e
        refine zP rfl rfl (zG rfl rfl fa52_3 rfl) <| zP rfl rfl (zH rfl rfl rfl tA9 tS9 rfl rfl) <| zP rfl rfl (zG rfl rfl fa52_3 rfl) <| zP rfl rfl (zH rfl rfl rfl tA9 tS9 rfl rfl) <| zP rfl rfl (s_eqS rfl rfl rfl) <| g_u (zX rfl rfl rfl) <| g_u (zC rfl rfl) <| zz (t := 32) rfl ?_
        rintro (hb4 | hb4)
        · rw [hb4]
          have e3 : a.state = b.state := by have e := hb4; rw [xJ] at e; simpa using e
          refine zP rfl rfl (zG rfl rfl fa52_4 rfl) <| zP rfl rfl (zH rfl rfl rfl tA9 tS9 rfl rfl) <| zP rfl rfl (zG rfl rfl fa52_4 rfl) <| zP rfl rfl (zH rfl rfl rfl tA9 tS9 rfl rfl) <| zP rfl rfl (s_eqS rfl rfl rfl) <| g_u (zX rfl rfl rfl) <| g_u (zE rfl rfl) <| zF <| zA <| zD <| zD <| zB <| g_u (zC rfl rfl) <| g_u (s_not rfl rfl) <| g_u (zC rfl rfl) <| zz (t := 41) rfl ?_
          rintro (hb5 | hb5)
          · rw [hb5]
            have q : ¬ a.name = b.name := by have e := hb5; rw [xJ] at e; simpa using e
            refine zI rfl rfl rfl <| zI rfl rfl rfl <| zI rfl rfl rfl <| zI rfl rfl rfl <| zI rfl rfl rfl <| g_u (zX rfl rfl rfl) <| g_u (zC rfl rfl) <| zI rfl rfl rfl <| zI rfl rfl rfl <| zI rfl rfl rfl <| zI rfl rfl rfl <| zI rfl rfl rfl <| g_u (zX rfl rfl rfl) <| g_u (zC rfl rfl) <| zI rfl rfl rfl <| zI rfl rfl rfl <| zI rfl rfl rfl <| zI rfl rfl rfl <| zI rfl rfl rfl <| g_u (zX rfl rfl rfl) <| g_u (zC rfl rfl) <| zI rfl rfl rfl <| zI rfl rfl rfl <| zI rfl rfl rfl <| zI rfl rfl rfl <| zI rfl rfl rfl <| g_u (zX rfl rfl rfl) <| g_u (zC rfl rfl) <| zI rfl rfl rfl <| zI rfl rfl rfl <| zI rfl rfl rfl <| zI rfl rfl rfl <| zI rfl rfl rfl <| zI rfl rfl rfl <| g_u (zX rfl rfl rfl) <| zF <| zA <| zk rfl <| zD <| zB <| g_u (zE rfl rfl) <| zF <| zA <| zJ <| zK ?_
            exact ⟨⟨(rfl : toAV (Al.look _ _) = some _).trans (congrArg some (by (exact congrArg bv (by first | exact (decide_eq_false (fun e => q ⟨congrArg GSpan.code e, congrArg GSpan.note e⟩)).symm | exact (decide_eq_false (fun e => q (by rw [e]))).symm | (rw [Bool.eq_iff_iff, decide_eq_true_iff, decide_eq_true_iff]; exact ⟨fun h => GSpan.ext' e0 e1 e2 e3 e4 e5 e6 e7 e9 e10 h e8.1 e8.2, fun h => by rw [h]⟩))))), rfl⟩, trivial⟩
          · rw [hb5]
            have e4 : a.name = b.name := by have e := hb5; rw [xJ] at e; simpa using e
            refine zP rfl rfl (zG rfl rfl fa52_5 rfl) <| zP rfl rfl (zH rfl rfl rfl tA3 tS3 rfl rfl) <| zP rfl rfl (zG rfl rfl fa52_5 rfl) <| zP rfl rfl (zH rfl rfl rfl tA3 tS3 rfl rfl) <| zP rfl rfl (xG rfl rfl rfl) <| g_u (zg rfl rfl rfl) <| g_u (zC rfl rfl) <| zz (t := 48) rfl ?_
            rintro (hb6 | hb6)
            · rw [hb6]
              have q : ¬ a.kind = b.kind := qc.1 hb6
              refine zI rfl rfl rfl <| zI rfl rfl rfl <| zI rfl rfl rfl <| zI rfl rfl rfl <| zI rfl rfl rfl <| g_u (zX rfl rfl rfl) <| g_u (zC rfl rfl) <| zI rfl rfl rfl <| zI rfl rfl rfl <| zI rfl rfl rfl <| zI rfl rfl rfl <| zI rfl rfl rfl <| g_u (zX rfl rfl rfl) <| g_u (zC rfl rfl) <| zI rfl rfl rfl <| zI rfl rfl rfl <| zI rfl rfl rfl <| zI rfl rfl rfl <| zI rfl rfl rfl <| g_u (zX rfl rfl rfl) <| g_u (zC rfl rfl) <| zI rfl rfl rfl <| zI rfl rfl rfl <| zI rfl rfl rfl <| zI rfl rfl rfl <| zI rfl rfl rfl <| zI rfl rfl rfl <| g_u (zX rfl rfl rfl) <| zF <| zA <| zk rfl <| zD <| zB <| g_u (zE rfl rfl) <| zF <| zA <| zJ <| zK ?_
              exact ⟨⟨(rfl : toAV (Al.look _ _) = some _).trans (congrArg some (by (exact congrArg bv (by first | exact (decide_eq_false (fun e => q ⟨congrArg GSpan.code e, congrArg GSpan.note e⟩)).symm | exact (decide_eq_false (fun e => q (by rw [e]))).symm | (rw [Bool.eq_iff_iff, decide_eq_true_iff, decide_eq_true_iff]; exact ⟨fun h => GSpan.ext' e0 e1 e2 e3 e4 e5 e6 e7 e9 e10 h e8.1 e8.2, fun h => by rw [h]⟩))))), rfl⟩, trivial⟩
            · rw [hb6]
              have e5 : a.kind = b.kind := qd.1 hb6
              refine zP rfl rfl (zG rfl rfl fa52_6 rfl) <| zP rfl rfl (zH rfl rfl rfl tA45 tS45 rfl rfl) <| zP rfl rfl (zG rfl rfl fa52_6 rfl) <| zP rfl rfl (zH rfl rfl rfl tA45 tS45 rfl rfl) <| zP rfl rfl (xG rfl rfl rfl) <| g_u (zg rfl rfl rfl) <| g_u (zC rfl rfl) <| zz (t := 55) rfl ?_
              rintro (hb7 | hb7)
              · rw [hb7]
                have q : ¬ a.start = b.start := qc.1 hb7
                refine zI rfl rfl rfl <| zI rfl rfl rfl <| zI rfl rfl rfl <| zI rfl rfl rfl <| zI rfl rfl rfl <| g_u (zX rfl rfl rfl) <| g_u (zC rfl rfl) <| zI rfl rfl rfl <| zI rfl rfl rfl <| zI rfl rfl rfl <| zI rfl rfl rfl <| zI rfl rfl rfl <| g_u (zX rfl rfl rfl) <| g_u (zC rfl rfl) <| zI rfl rfl rfl <| zI rfl rfl rfl <| zI rfl rfl rfl <| zI rfl rfl rfl <| zI rfl rfl rfl <| zI rfl rfl rfl <| g_u (zX rfl rfl rfl) <| zF <| zA <| zk rfl <| zD <| zB <| g_u (zE rfl rfl) <| zF <| zA <| zJ <| zK ?_
                exact ⟨⟨(rfl : toAV (Al.look _ _) = some _).trans (congrArg some (by (exact congrArg bv (by first | exact (decide_eq_false (fun e => q ⟨congrArg GSpan.code e, congrArg GSpan.note e⟩)).symm | exact (decide_eq_false (fun e => q (by rw [e]))).symm | (rw [Bool.eq_iff_iff, decide_eq_true_iff, decide_eq_true_iff]; exact ⟨fun h => GSpan.ext' e0 e1 e2 e3 e4 e5 e6 e7 e9 e10 h e8.1 e8.2, fun h => by rw [h]⟩))))), rfl⟩, trivial⟩
              · rw [hb7]
                have e6 : a.start = b.start := qd.1 hb7
                refine zP rfl rfl (zG rfl rfl fa52_7 rfl) <| zP rfl rfl (zH rfl rfl rfl tA45 tS45 rfl rfl) <| zP rfl rfl (zG rfl rfl fa52_7 rfl) <| zP rfl rfl (zH rfl rfl rfl tA45 tS45 rfl rfl) <| zP rfl rfl (xG rfl rfl rfl) <| g_u (zg rfl rfl rfl) <| g_u (zC rfl rfl) <| zz (t := 62) rfl ?_
                rintro (hb8 | hb8)
                · rw [hb8]
                  have q : ¬ a.fin = b.fin := qc.1 hb8
                  refine zI rfl rfl rfl <| zI rfl rfl rfl <| zI rfl rfl rfl <| zI rfl rfl rfl <| zI rfl rfl rfl <| g_u (zX rfl rfl rfl) <| g_u (zC rfl rfl) <| zI rfl rfl rfl <| zI rfl rfl rfl <| zI rfl rfl rfl <| zI rfl rfl rfl <| zI rfl rfl rfl <| zI rfl rfl rfl <| g_u (zX rfl rfl rfl) <| zF <| zA <| zk rfl <| zD <| zB <| g_u (zE rfl rfl) <| zF <| zA <| zJ <| zK ?_
                  exact ⟨⟨(rfl : toAV (Al.look _ _) = some _).trans (congrArg some (by (exact congrArg bv (by first | exact (decide_eq_false (fun e => q ⟨congrArg GSpan.code e, congrArg GSpan.note e⟩)).symm | exact (decide_eq_false (fun e => q (by rw [e]))).symm | (rw [Bool.eq_iff_iff, decide_eq_true_iff, decide_eq_true_iff]; exact ⟨fun h => GSpan.ext' e0 e1 e2 e3 e4 e5 e6 e7 e9 e10 h e8.1 e8.2, fun h => by rw [h]⟩))))), rfl⟩, trivial⟩
                · rw [hb8]
                  have e7 : a.fin = b.fin := qd.1 hb8
                  refine zP rfl rfl (zG rfl rfl fa52_11 rfl) <| zP rfl rfl (zH rfl rfl rfl tA50 tS50 rfl rfl) <| zP rfl rfl (zG rfl rfl fa52_11 rfl) <| zP rfl rfl (zH rfl rfl rfl tA50 tS50 rfl rfl) <| zP rfl rfl (s_neA rfl rfl rfl eg50 rfl rfl (eq50 _ _ _ _)) <| g_u (zg rfl rfl rfl) <| g_u (zC rfl rfl) <| zz (t := 69) rfl ?_
                  rintro (hb9 | hb9)
                  · rw [hb9]
                    have q : ¬ (a.code = b.code ∧ a.note = b.note) := fun h => by have e := hb9; rw [xJ, h.1, h.2] at e; simp at e
                    refine zI rfl rfl rfl <| zI rfl rfl rfl <| zI rfl rfl rfl <| zI rfl rfl rfl <| zI rfl rfl rfl <| zI rfl rfl rfl <| g_u (zX rfl rfl rfl) <| zF <| zA <| zk rfl <| zD <| zB <| g_u (zE rfl rfl) <| zF <| zA <| zJ <| zK ?_
                    exact ⟨⟨(rfl : toAV (Al.look _ _) = some _).trans (congrArg some (by (exact congrArg bv (by first | exact (decide_eq_false (fun e => q ⟨congrArg GSpan.code e, congrArg GSpan.note e⟩)).symm | exact (decide_eq_false (fun e => q (by rw [e]))).symm | (rw [Bool.eq_iff_iff, decide_eq_true_iff, decide_eq_true_iff]; exact ⟨fun h => GSpan.ext' e0 e1 e2 e3 e4 e5 e6 e7 e9 e10 h e8.1 e8.2, fun h => by rw [h]⟩))))), rfl⟩, trivial⟩
                  · rw [hb9]
                    have e8 : a.code = b.code ∧ a.note = b.note := by have e := hb9; rw [xJ] at e; simpa using e
                    refine zP rfl rfl (zG rfl rfl fa52_8 rfl) <| zP rfl rfl (zH rfl rfl rfl tA46 tS46 rfl rfl) <| zP rfl rfl (zG rfl rfl fa52_8 rfl) <| zP rfl rfl (zH rfl rfl rfl tA46 tS46 rfl rfl) ?_
                    refine zP rfl rfl (zT (psameAs_c a.attrs b.attrs (by omega)) rfl rfl) ?_
                    refine zP rfl rfl (s_not rfl rfl) <| g_u (zg rfl rfl rfl) <| zF <| zA ?_
                    refine zN rfl (fun hb10 => ?_) (fun hb10 => ?_)
                    · have q : ¬ a.attrs = b.attrs := fun h => by have e := hb10; rw [h, sameAs_refl] at e; cases e
                      refine zD <| zB <| g_u (zE rfl rfl) <| zF <| zA <| zJ <| zK ?_
                      exact ⟨⟨(rfl : toAV (Al.look _ _) = some _).trans (congrArg some (by (exact congrArg bv (by first | exact (decide_eq_false (fun e => q ⟨congrArg GSpan.code e, congrArg GSpan.note e⟩)).symm | exact (decide_eq_false (fun e => q (by rw [e]))).symm | (rw [Bool.eq_iff_iff, decide_eq_true_iff, decide_eq_true_iff]; exact ⟨fun h => GSpan.ext' e0 e1 e2 e3 e4 e5 e6 e7 e9 e10 h e8.1 e8.2, fun h => by rw [h]⟩))))), rfl⟩, trivial⟩
                    · have e9 : a.attrs = b.attrs := (yb _ _).1 (by have e := hb10; simpa using e)
                      refine zO <| zA <| zD <| zB <| g_u (zG rfl rfl fa52_9 rfl) <| g_u (zH rfl rfl rfl tA47 tS47 rfl rfl) <| g_u (zG rfl rfl fa52_9 rfl) <| g_u (zH rfl rfl rfl tA47 tS47 rfl rfl) ?_
                      refine g_u (zT (eqdE_c a.events b.events 160 (by omega) (fun x hx y => sameE_c x y (by have h5 := yM GE.wt hx; have h6 : x.wt = 1 + x.name.size + wtAs x.attrs := rfl; omega))) rfl rfl) ?_
                      refine g_u (zC rfl rfl) <| zz (t := 82) rfl ?_
                      rintro (hb11 | hb11)
                      · rw [hb11]
                        have e10 : a.events = b.events := of_decide_eq_true hb11
                        refine zP rfl rfl (zG rfl rfl wy rfl) <| zP rfl rfl (zH rfl rfl rfl tA48 tS48 rfl rfl) <| zP rfl rfl (zG rfl rfl wy rfl) <| zP rfl rfl (zH rfl rfl rfl tA48 tS48 rfl rfl) ?_
                        refine zP rfl rfl (zT (eqdL_c a.links b.links 162 (by omega) (fun x hx y => sameL_c x y (by have h5 := yM GL.wt hx; have h6 : x.wt = 1 + x.state.size + wtAs x.attrs := rfl; omega))) rfl rfl) ?_
                        refine g_u (zX rfl rfl rfl) <| g_u (zE rfl rfl) <| zF <| zA <| zJ ?_
                        exact ⟨⟨(rfl : toAV (Al.look _ _) = some _).trans (congrArg some (by (exact congrArg bv (by first | exact (decide_eq_false (fun e => q ⟨congrArg GSpan.code e, congrArg GSpan.note e⟩)).symm | exact (decide_eq_false (fun e => q (by rw [e]))).symm | (rw [Bool.eq_iff_iff, decide_eq_true_iff, decide_eq_true_iff]; exact ⟨fun h => GSpan.ext' e0 e1 e2 e3 e4 e5 e6 e7 e9 e10 h e8.1 e8.2, fun h => by rw [h]⟩))))), rfl⟩, trivial⟩
                      · rw [hb11]
                        have q : ¬ a.events = b.events := of_decide_eq_false hb11
                        refine zI rfl rfl rfl <| zI rfl rfl rfl <| zI rfl rfl rfl <| zI rfl rfl rfl <| zI rfl rfl rfl <| g_u (zg rfl rfl rfl) <| g_u (zE rfl rfl) <| zF <| zA <| zJ ?_
                        exact ⟨⟨(rfl : toAV (Al.look _ _) = some _).trans (congrArg some (by (exact congrArg bv (by first | exact (decide_eq_false (fun e => q ⟨congrArg GSpan.code e, congrArg GSpan.note e⟩)).symm | exact (decide_eq_false (fun e => q (by rw [e]))).symm | (rw [Bool.eq_iff_iff, decide_eq_true_iff, decide_eq_true_iff]; exact ⟨fun h => GSpan.ext' e0 e1 e2 e3 e4 e5 e6 e7 e9 e10 h e8.1 e8.2, fun h => by rw [h]⟩))))), rfl⟩, trivial⟩
        · rw [hb4]
          have q : ¬ a.state = b.state := by have e := hb4; rw [xJ] at e; simpa using e
          refine zI rfl rfl rfl <| zI rfl rfl rfl <| zI rfl rfl rfl <| zI rfl rfl rfl <| zI rfl rfl rfl <| g_u (zg rfl rfl rfl) <| g_u (zE rfl rfl) <| zF <| zA <| zD <| zD <| zB <| g_u (zC rfl rfl) <| g_u (s_not rfl rfl) <| g_u (zC rfl rfl) <| zI rfl rfl rfl <| zI rfl rfl rfl <| zI rfl rfl rfl <| zI rfl rfl rfl <| zI rfl rfl rfl <| g_u (zX rfl rfl rfl) <| g_u (zC rfl rfl) <| zI rfl rfl rfl <| zI rfl rfl rfl <| zI rfl rfl rfl <| zI rfl rfl rfl <| zI rfl rfl rfl <| g_u (zX rfl rfl rfl) <| g_u (zC rfl rfl) <| zI rfl rfl rfl <| zI rfl rfl rfl <| zI rfl rfl rfl <| zI rfl rfl rfl <| zI rfl rfl rfl <| g_u (zX rfl rfl rfl) <| g_u (zC rfl rfl) <| zI rfl rfl rfl <| zI rfl rfl rfl <| zI rfl rfl rfl <| zI rfl rfl rfl <| zI rfl rfl rfl <| g_u (zX rfl rfl rfl) <| g_u (zC rfl rfl) <| zI rfl rfl rfl <| zI rfl rfl rfl <| zI rfl rfl rfl <| zI rfl rfl rfl <| zI rfl rfl rfl <| zI rfl rfl rfl <| g_u (zX rfl rfl rfl) <| zF <| zA <| zk rfl <| zD <| zB <| g_u (zE rfl rfl) <| zF <| zA <| zJ <| zK ?_
          exact ⟨⟨(rfl : toAV (Al.look _ _) = some _).trans (congrArg some (by (exact congrArg bv (by first | exact (decide_eq_false (fun e => q ⟨congrArg GSpan.code e, congrArg GSpan.note e⟩)).symm | exact (decide_eq_false (fun e => q (by rw [e]))).symm | (rw [Bool.eq_iff_iff, decide_eq_true_iff, decide_eq_true_iff]; exact ⟨fun h => GSpan.ext' e0 e1 e2 e3 e4 e5 e6 e7 e9 e10 h e8.1 e8.2, fun h => by rw [h]⟩))))), rfl⟩, trivial⟩
      · rw [hb3]
        have q : ¬ a.parent = b.parent := by have e := hb3; simpa using e
        refine zI rfl rfl rfl <| zI rfl rfl rfl <| zI rfl rfl rfl <| zI rfl rfl rfl <| zI rfl rfl rfl <| g_u (zg rfl rfl rfl) <| g_u (zC rfl rfl) <| zI rfl rfl rfl <| zI rfl rfl rfl <| zI rfl rfl rfl <| zI rfl rfl rfl <| zI rfl rfl rfl <| g_u (zg rfl rfl rfl) <| g_u (zE rfl rfl) <| zF <| zA <| zD <| zD <| zB <| g_u (zC rfl rfl) <| g_u (s_not rfl rfl) <| g_u (zC rfl rfl) <| zI rfl rfl rfl <| zI rfl rfl rfl <| zI rfl rfl rfl <| zI rfl rfl rfl <| zI rfl rfl rfl <| g_u (zX rfl rfl rfl) <| g_u (zC rfl rfl) <| zI rfl rfl rfl <| zI rfl rfl rfl <| zI rfl rfl rfl <| zI rfl rfl rfl <| zI rfl rfl rfl <| g_u (zX rfl rfl rfl) <| g_u (zC rfl rfl) <| zI rfl rfl rfl <| zI rfl rfl rfl <| zI rfl rfl rfl <| zI rfl rfl rfl <| zI rfl rfl rfl <| g_u (zX rfl rfl rfl) <| g_u (zC rfl rfl) <| zI rfl rfl rfl <| zI rfl rfl rfl <| zI rfl rfl rfl <| zI rfl rfl rfl <| zI rfl rfl rfl <| g_u (zX rfl rfl rfl) <| g_u (zC rfl rfl) <| zI rfl rfl rfl <| zI rfl rfl rfl <| zI rfl rfl rfl <| zI rfl rfl rfl <| zI rfl rfl rfl <| zI rfl rfl rfl <| g_u (zX rfl rfl rfl) <| zF <| zA <| zk rfl <| zD <| zB <| g_u (zE rfl rfl) <| zF <| zA <| zJ <| zK ?_
        exact ⟨⟨(rfl : toAV (Al.look _ _) = some _).trans (congrArg some (by (exact congrArg bv (by first | exact (decide_eq_false (fun e => q ⟨congrArg GSpan.code e, congrArg GSpan.note e⟩)).symm | exact (decide_eq_false (fun e => q (by rw [e]))).symm | (rw [Bool.eq_iff_iff, decide_eq_true_iff, decide_eq_true_iff]; exact ⟨fun h => GSpan.ext' e0 e1 e2 e3 e4 e5 e6 e7 e9 e10 h e8.1 e8.2, fun h => by rw [h]⟩))))), rfl⟩, trivial⟩
    · rw [hb2]
      have q : ¬ a.id = b.id := by have e := hb2; simpa using e
      refine zI rfl rfl rfl <| zI rfl rfl rfl <| zI rfl rfl rfl <| zI rfl rfl rfl <| zI rfl rfl rfl <| g_u (zg rfl rfl rfl) <| g_u (zC rfl rfl) <| zI rfl rfl rfl <| zI rfl rfl rfl <| zI rfl rfl rfl <| zI rfl rfl rfl <| zI rfl rfl rfl <| g_u (zg rfl rfl rfl) <| g_u (zC rfl rfl) <| zI rfl rfl rfl <| zI rfl rfl rfl <| zI rfl rfl rfl <| zI rfl rfl rfl <| zI rfl rfl rfl <| g_u (zg rfl rfl rfl) <| g_u (zE rfl rfl) <| zF <| zA <| zD <| zD <| zB <| g_u (zC rfl rfl) <| g_u (s_not rfl rfl) <| g_u (zC rfl rfl) <| zI rfl rfl rfl <| zI rfl rfl rfl <| zI rfl rfl rfl <| zI rfl rfl rfl <| zI rfl rfl rfl <| g_u (zX rfl rfl rfl) <| g_u (zC rfl rfl) <| zI rfl rfl rfl <| zI rfl rfl rfl <| zI rfl rfl rfl <| zI rfl rfl rfl <| zI rfl rfl rfl <| g_u (zX rfl rfl rfl) <| g_u (zC rfl rfl) <| zI rfl rfl rfl <| zI rfl rfl rfl <| zI rfl rfl rfl <| zI rfl rfl rfl <| zI rfl rfl rfl <| g_u (zX rfl rfl rfl) <| g_u (zC rfl rfl) <| zI rfl rfl rfl <| zI rfl rfl rfl <| zI rfl rfl rfl <| zI rfl rfl rfl <| zI rfl rfl rfl <| g_u (zX rfl rfl rfl) <| g_u (zC rfl rfl) <| zI rfl rfl rfl <| zI rfl rfl rfl <| zI rfl rfl rfl <| zI rfl rfl rfl <| zI rfl rfl rfl <| zI rfl rfl rfl <| g_u (zX rfl rfl rfl) <| zF <| zA <| zk rfl <| zD <| zB <| g_u (zE rfl rfl) <| zF <| zA <| zJ <| zK ?_
      exact ⟨⟨(rfl : toAV (Al.look _ _) = some _).trans (congrArg some (by (exact congrArg bv (by first | exact (decide_eq_false (fun e => q ⟨congrArg GSpan.code e, congrArg GSpan.note e⟩)).symm | exact (decide_eq_false (fun e => q (by rw [e]))).symm | (rw [Bool.eq_iff_iff, decide_eq_true_iff, decide_eq_true_iff]; exact ⟨fun h => GSpan.ext' e0 e1 e2 e3 e4 e5 e6 e7 e9 e10 h e8.1 e8.2, fun h => by rw [h]⟩))))), rfl⟩, trivial⟩
  · rw [hb1]
    have q : ¬ a.trace = b.trace := by have e := hb1; simpa using e
    refine zI rfl rfl rfl <| zI rfl rfl rfl <| zI rfl rfl rfl <| zI rfl rfl rfl <| zI rfl rfl rfl <| g_u (zg rfl rfl rfl) <| g_u (zC rfl rfl) <| zI rfl rfl rfl <| zI rfl rfl rfl <| zI rfl rfl rfl <| zI rfl rfl rfl <| zI rfl rfl rfl <| g_u (zg rfl rfl rfl) <| g_u (zC rfl rfl) <| zI rfl rfl rfl <| zI rfl rfl rfl <| zI rfl rfl rfl <| zI rfl rfl rfl <| zI rfl rfl rfl <| g_u (zg rfl rfl rfl) <| g_u (zC rfl rfl) <| zI rfl rfl rfl <| zI rfl rfl rfl <| zI rfl rfl rfl <| zI rfl rfl rfl <| zI rfl rfl rfl <| g_u (zg rfl rfl rfl) <| g_u (zE rfl rfl) <| zF <| zA <| zD <| zD <| zB <| g_u (zC rfl rfl) <| g_u (s_not rfl rfl) <| g_u (zC rfl rfl) <| zI rfl rfl rfl <| zI rfl rfl rfl <| zI rfl rfl rfl <| zI rfl rfl rfl <| zI rfl rfl rfl <| g_u (zX rfl rfl rfl) <| g_u (zC rfl rfl) <| zI rfl rfl rfl <| zI rfl rfl rfl <| zI rfl rfl rfl <| zI rfl rfl rfl <| zI rfl rfl rfl <| g_u (zX rfl rfl rfl) <| g_u (zC rfl rfl) <| zI rfl rfl rfl <| zI rfl rfl rfl <| zI rfl rfl rfl <| zI rfl rfl rfl <| zI rfl rfl rfl <| g_u (zX rfl rfl rfl) <| g_u (zC rfl rfl) <| zI rfl rfl rfl <| zI rfl rfl rfl <| zI rfl rfl rfl <| zI rfl rfl rfl <| zI rfl rfl rfl <| g_u (zX rfl rfl rfl) <| g_u (zC rfl rfl) <| zI rfl rfl rfl <| zI rfl rfl rfl <| zI rfl rfl rfl <| zI rfl rfl rfl <| zI rfl rfl rfl <| zI rfl rfl rfl <| g_u (zX rfl rfl rfl) <| zF <| zA <| zk rfl <| zD <| zB <| g_u (zE rfl rfl) <| zF <| zA <| zJ <| zK ?_
    exact ⟨⟨(rfl : toAV (Al.look _ _) = some _).trans (congrArg some (by (exact congrArg bv (by first | exact (decide_eq_false (fun e => q ⟨congrArg GSpan.code e, congrArg GSpan.note e⟩)).symm | exact (decide_eq_false (fun e => q (by rw [e]))).symm | (rw [Bool.eq_iff_iff, decide_eq_true_iff, decide_eq_true_iff]; exact ⟨fun h => GSpan.ext' e0 e1 e2 e3 e4 e5 e6 e7 e9 e10 h e8.1 e8.2, fun h => by rw [h]⟩))))), rfl⟩, trivial⟩
end Go.Proofs
namespace Go.Proofs
open Go Go.Al
set_option maxRecDepth 10000
set_option maxHeartbeats 8000000 in
theorem pcanonS_c (s : GSpan) (hw : s.wt ≤ 1000000) : zj Tryz.prog Γ0 80 [s.av] [(canonS s).av] := by
  have qw : s.wt = 1 + s.state.size + s.name.size + s.note.size + wtAs s.attrs + zr GE.wt s.events + zr GL.wt s.links := rfl
  have ql := yJ GE.wt (fun e => by unfold GE.wt; omega) s.events
  have qm := yJ GL.wt (fun e => by unfold GL.wt; omega) s.links
  refine zb Tryz.func80 rfl Tryz.ntmps80 (by kernel_rfl) rfl fun w0 I0 G0 => ?_
  refine zD <| zB <| g_uG (zi 1001 rfl rfl rfl rfl) rfl <| g_uG (zo 1002 rfl rfl rfl tZ52) rfl <| zF <| zA <| zD <| zB <| g_u (zG rfl rfl fa52_8 rfl) <| g_u (zH rfl rfl rfl tA46 tS46 rfl rfl) ?_
  refine g_u (zT (pcanonAs_c s.attrs (by omega)) rfl rfl) ?_
  refine g_u (zG rfl rfl fa52_8 rfl) <| g_u (zL rfl rfl rfl tS46 rfl rfl) <| zF <| zA <| aw_pack 1001 rfl rfl <| zD <| zB <| g_u (zE rfl rfl) <| zF <| zA <| aw_newtok 3003 3 3 rfl rfl rfl rfl <| zD <| zD <| zB <| g_u (zG rfl rfl fa52_9 rfl) <| g_u (zH rfl rfl rfl tA47 tS47 rfl rfl) <| g_u (zx rfl rfl Tryz.underlying47) <| g_u (zC rfl rfl) <| zF <| zA <| zQ ?_
  refine zs (fun i : Nat => [(1, .ptr 1001 0), (1001, .box 52 (.imm ({ s with attrs := yv s.attrs } : GSpan).av)), (2, .ptr 1002 0), (1002, .box 52 (.imm z52)), (3, .slg 3003 3 ((s.events.take i).map fun e => (canonE e).av)), (3003, .tok 3 ((s.events.take i).map fun e => (canonE e).av)), (14, .imm (.sl 3 (s.events.map GE.av))), (15, .imm (iv (s.events.length : Int))), (16, .imm (iv (i : Int)))]) (fun i => i ≤ s.events.length) (fun i => s.events.length - i) (0) ?_ ⟨rfl, rfl, rfl, rfl, rfl, rfl, rfl, zV rfl (by rw [List.length_map]), rfl, trivial⟩ ?_
  · exact Nat.zero_le _
  · rintro i h1; have h1 : i ≤ s.events.length := h1
    refine zD <| zB <| g_u (yU rfl rfl rfl) <| zF <| zA <| zD ?_
    refine zN rfl (fun hb1 => ?_) (fun hb1 => ?_)
    · have hi : i < s.events.length := by have := of_decide_eq_true hb1; (try simp only [List.length_map] at this); omega
      have hx : wtAs (nthE s.events i).attrs ≤ 10000000 := by have h5 := yM GE.wt (nthE_mem hi); have h6 : (nthE s.events i).wt = 1 + (nthE s.events i).name.size + wtAs (nthE s.events i).attrs := rfl; omega
      refine zO <| zA <| zD <| zQ <| zD <| zB ?_
      refine g_u (za rfl rfl rfl Tryz.underlying47 tS95 (by omega) (ixE hi)) ?_
      refine g_u (zW rfl rfl tA95 tS95 rfl rfl) <| g_uG (zo 1005 rfl rfl rfl tZ95) rfl <| g_u (zL rfl rfl rfl tS95 rfl rfl) <| zF <| zA <| zD <| zB <| g_u (zG rfl rfl fa95_2 rfl) <| g_u (zH rfl rfl rfl tA46 tS46 rfl rfl) <| g_u (zT (pcanonAs_c (nthE s.events i).attrs hx) rfl rfl) <| g_u (zG rfl rfl fa95_2 rfl) <| g_u (zL rfl rfl rfl tS46 rfl rfl) <| zF <| zA <| zB <| g_u (yN rfl rfl) <| g_u (zl rfl rfl rfl tA95 tS95 rfl rfl) <| g_u (zu (X0 := z95) rfl Tryz.underlying47 tS95 tZ95 rfl rfl rfl rfl rfl rfl rfl rfl) ?_
      refine g_u (yW rfl rfl rfl rfl rfl Tryz.underlying47 Tryz.underlying47 tS95 zv95 rfl (by decide) by95 (by (try dsimp only); simp only [List.length_append, List.length_cons, List.length_nil, List.length_map, List.length_take, List.length_drop]; omega) (by (try dsimp only); simp only [List.length_append, List.length_cons, List.length_nil, List.length_map, List.length_take, List.length_drop]; omega)) ?_
      refine g_u (yQ rfl rfl) <| zF <| zM <| zA <| zB <| g_u (yB rfl rfl rfl) <| g_u (zC rfl rfl) <| zF <| zA ?_
      have et : ((s.events.take (i + 1)).map fun e => (canonE e).av) = ((s.events.take i).map fun e => (canonE e).av) ++ [(canonE (nthE s.events i)).av] := by rw [yS (xI (d := ge0) hi), List.map_append]; rfl
      refine ⟨i + 1, hi, ⟨rfl, rfl, rfl, rfl, wx rfl et.symm, xZ rfl et.symm, rfl, rfl, zV rfl (by rw [zZ (by omega) (by omega)]; rfl), trivial⟩, by (try dsimp only); omega⟩
    · have hin : i = s.events.length := by have := of_decide_eq_false hb1; (try simp only [List.length_map] at this); omega
      refine zv <| zU <| zU <| zp <| zA <| zD <| zB <| g_u (zE rfl rfl) <| zF <| zA <| aw_newtok 3006 6 26 rfl rfl rfl rfl <| zD <| zD <| zB <| g_u (zG rfl rfl wy rfl) <| g_u (zH rfl rfl rfl tA48 tS48 rfl rfl) <| g_u (zx rfl rfl Tryz.underlying48) <| g_u (zC rfl rfl) <| zF <| zA <| zQ ?_
      refine zs (fun i : Nat => [(1, .ptr 1001 0), (1001, .box 52 (.imm ({ s with attrs := yv s.attrs } : GSpan).av)), (2, .ptr 1002 0), (1002, .box 52 (.imm z52)), (3, .slg 3003 3 (s.events.map fun e => (canonE e).av)), (3003, .tok 3 (s.events.map fun e => (canonE e).av)), (6, .slg 3006 26 ((s.links.take i).map fun e => (canonL e).av)), (3006, .tok 26 ((s.links.take i).map fun e => (canonL e).av)), (30, .imm (.sl 26 (s.links.map GL.av))), (31, .imm (iv (s.links.length : Int))), (32, .imm (iv (i : Int)))]) (fun i => i ≤ s.links.length) (fun i => s.links.length - i) (0) ?_ ⟨rfl, rfl, rfl, rfl, wx rfl (by rw [hin, List.take_length]), xZ rfl (by rw [hin, List.take_length]), rfl, rfl, rfl, zV rfl (by rw [List.length_map]), rfl, trivial⟩ ?_
      · exact Nat.zero_le _
      · rintro i h1; have h1 : i ≤ s.links.length := h1
        refine zD <| zB <| g_u (yU rfl rfl rfl) <| zF <| zA <| zD ?_
        refine zN rfl (fun hb2 => ?_) (fun hb2 => ?_)
        · have hi : i < s.links.length := by have := of_decide_eq_true hb2; (try simp only [List.length_map] at this); omega
          have hx : wtAs (nthL s.links i).attrs ≤ 10000000 := by have h5 := yM GL.wt (nthL_mem hi); have h6 : (nthL s.links i).wt = 1 + (nthL s.links i).state.size + wtAs (nthL s.links i).attrs := rfl; omega
          refine zO <| zA <| zD <| zQ <| zD <| zB ?_
          refine g_u (za rfl rfl rfl Tryz.underlying48 tS107 (by omega) (ixL hi)) ?_
          refine g_u (zW rfl rfl tA107 tS107 rfl (by first | exact xp (GL.width _) rfl | rfl)) ?_
          refine g_uG (zo 1008 rfl rfl rfl tZ107) rfl ?_
          refine g_u (zL rfl rfl rfl tS107 (by first | exact beqW (GL.width _) | rfl) (by first | exact setS_w (z107_w.trans (GL.width _).symm) rfl | rfl)) ?_
          refine zF <| zA <| zD <| zB <| g_u (zG rfl rfl fa107_3 rfl) <| g_u (zH rfl rfl rfl tA46 tS46 rfl rfl) <| g_u (zT (pcanonAs_c (nthL s.links i).attrs hx) rfl rfl) <| g_u (zG rfl rfl fa107_3 rfl) <| g_u (zL rfl rfl rfl tS46 rfl rfl) <| zF <| zA <| aw_pack 1008 rfl rfl <| zB <| g_u (yN rfl rfl) ?_
          refine g_u (zH rfl rfl rfl tA107 tS107 rfl (by first | exact xp (GL.width _) rfl | rfl)) ?_
          refine g_u (zu (X0 := z107) rfl Tryz.underlying48 tS107 tZ107 rfl rfl rfl rfl rfl rfl rfl rfl) ?_
          refine g_u (yW rfl rfl rfl rfl rfl Tryz.underlying48 Tryz.underlying48 tS107 zv107 rfl (by decide) by107 (by (try dsimp only); simp only [List.length_append, List.length_cons, List.length_nil, List.length_map, List.length_take, List.length_drop]; omega) (by (try dsimp only); simp only [List.length_append, List.length_cons, List.length_nil, List.length_map, List.length_take, List.length_drop]; omega)) ?_
          refine g_u (yQ rfl rfl) <| zF <| zM <| zA <| zB <| g_u (yB rfl rfl rfl) <| g_u (zC rfl rfl) <| zF <| zA ?_
          have et : ((s.links.take (i + 1)).map fun e => (canonL e).av) = ((s.links.take i).map fun e => (canonL e).av) ++ [(canonL (nthL s.links i)).av] := by rw [yS (xI (d := gl0) hi), List.map_append]; rfl
          refine ⟨i + 1, hi, ⟨rfl, rfl, rfl, rfl, rfl, rfl, wx rfl et.symm, xZ rfl et.symm, rfl, rfl, zV rfl (by rw [zZ (by omega) (by omega)]; rfl), trivial⟩, by (try dsimp only); omega⟩
        · have hin2 : i = s.links.length := by have := of_decide_eq_false hb2; (try simp only [List.length_map] at this); omega
          refine zv <| zU <| zU <| zp <| zA <| zD <| zB <| g_u (yN rfl rfl) <| g_u (yN rfl rfl) <| g_u (zG rfl rfl fa52_9 rfl) <| g_u (vL rfl rfl rfl rfl tS47 rfl rfl) <| g_u (zG rfl rfl wy rfl) <| g_u (vL rfl rfl rfl rfl tS48 rfl rfl) <| zF <| zA <| zD <| zB <| g_u (zl rfl rfl rfl tA52 tS52 rfl rfl) ?_
          refine g_u (zL rfl rfl rfl tS52 (by first | exact beqW (GSpan.width _) | rfl) (by first | exact setS_w (z52_w.trans (GSpan.width _).symm) rfl | rfl)) ?_
          refine zF <| zA <| zJ ?_
          exact ⟨⟨_, _, _, _, _, _, _, rfl, rfl, tA52, tS52, rfl, rfl, (rfl : toAV _ = some _).trans (congrArg some (by (rw [hin2, List.take_length]; show _ = GSpan.av (canonS s); simp only [GSpan.av, canonS, List.map_map]; rfl)))⟩, trivial⟩
end Go.Proofs
namespace Go.Proofs
open Go Go.Al
set_option maxRecDepth 10000
theorem words_c (t : ByteArray) (ht : t.size < 9223372036854775808) : zj Tryz.prog Γ0 117 [sv t] [iv (yt t)] := by
  have cr := check_range t
  refine zb Tryz.func117 rfl Tryz.ntmps117 (by kernel_rfl) rfl fun w0 I0 G0 => ?_
  refine zD <| zB <| g_u (zE rfl rfl) <| zF <| zA <| zD <| zQ <| zD <| zB <| g_u (zC rfl rfl) ?_
  refine g_u (zT (check_c _ (by omega)) rfl rfl) ?_
  refine g_u (s_geI rfl rfl rfl) <| g_u (zE rfl rfl) <| zF <| zA ?_
  refine zN rfl (fun hb1 => ?_) (fun hb1 => ?_)
  · have q := of_decide_eq_true hb1
    refine zD <| zB <| g_u (zE rfl rfl) <| zF <| zA <| zJ <| ze <| zK ?_
    exact ⟨⟨(rfl : toAV (Al.look _ _) = some _).trans (congrArg some (by (exact congrArg iv (by unfold yt; (repeat' split) <;> first | rfl | omega)))), rfl⟩, trivial⟩
  · have q := of_decide_eq_false hb1
    refine zD <| zB <| g_u (zC rfl rfl) <| g_u (yd rfl rfl Tryz.underlying9) <| g_u (wl rfl rfl rfl) <| g_u (zE rfl rfl) <| zF <| zA ?_
    refine zN rfl (fun hb2 => ?_) (fun hb2 => ?_)
    · have q := of_decide_eq_true hb2
      refine zD <| zB <| g_u (zE rfl rfl) <| zF <| zA <| zJ <| ze <| zK ?_
      exact ⟨⟨(rfl : toAV (Al.look _ _) = some _).trans (congrArg some (by (exact congrArg iv (by unfold yt; (repeat' split) <;> first | rfl | omega)))), rfl⟩, trivial⟩
    · have q := of_decide_eq_false hb2
      refine zO <| zM <| zA <| zD <| zB <| g_u (zE rfl rfl) <| zF <| zA <| zJ ?_
      exact ⟨⟨(rfl : toAV (Al.look _ _) = some _).trans (congrArg some (by (exact congrArg iv (by unfold yt; (repeat' split) <;> first | rfl | omega)))), rfl⟩, trivial⟩
theorem spanName_c (t : ByteArray) (ht : t.size < 9223372036854775808) : zj Tryz.prog Γ0 83 [sv t] [iv (yt t)] := by
  refine zb Tryz.func83 rfl Tryz.ntmps83 (by kernel_rfl) rfl fun w0 I0 G0 => ?_
  refine zD <| zB <| g_u (zE rfl rfl) <| zF <| zA <| zD <| zB <| g_u (zC rfl rfl) ?_
  refine g_u (zT (words_c _ (by omega)) rfl rfl) ?_
  refine g_u (zE rfl rfl) <| zF <| zA <| zJ ?_
  exact ⟨⟨(rfl : toAV (Al.look _ _) = some _).trans (congrArg some (by rfl)), rfl⟩, trivial⟩
theorem when_c (b : Bool) (c : Int) : zj Tryz.prog Γ0 120 [bv b, iv c] [iv (if b then c else 0)] := by
  refine zb Tryz.func120 rfl Tryz.ntmps120 (by kernel_rfl) rfl fun w0 I0 G0 => ?_
  refine zD <| zB <| g_u (zE rfl rfl) <| zF <| zA <| zD <| zD <| zB <| g_u (zC rfl rfl) <| zF <| zA ?_
  refine zN rfl (fun hb1 => ?_) (fun hb1 => ?_)
  · have q : b = true := hb1
    refine zD <| zB <| g_u (zC rfl rfl) <| g_u (zE rfl rfl) <| zF <| zA <| zJ <| zK ?_
    exact ⟨⟨(rfl : toAV (Al.look _ _) = some _).trans (congrArg some (by (rw [q]; rfl))), rfl⟩, trivial⟩
  · have q : b = false := hb1
    refine zO <| zA <| zD <| zB <| g_u (zE rfl rfl) <| zF <| zA <| zJ ?_
    exact ⟨⟨(rfl : toAV (Al.look _ _) = some _).trans (congrArg some (by (rw [q]; rfl))), rfl⟩, trivial⟩
theorem first_c (l : List FN) (hl : l.length ≤ 1000) (hf : ∀ x ∈ l, zj Tryz.prog Γ0 x.1 (x.2.1 ++ [] ++ x.2.2.1) [iv x.2.2.2]) : zj Tryz.prog Γ0 118 [.sl 1 (l.map fnA)] [iv (wo (fcodes l))] := by
  refine zb Tryz.func118 rfl Tryz.ntmps118 (by kernel_rfl) rfl fun w0 I0 G0 => ?_
  refine zD <| zB <| g_u (zE rfl rfl) <| zF <| zA <| zD <| zD <| zB <| g_u (zC rfl rfl) <| g_u (zx rfl rfl Tryz.underlying242) <| g_u (zC rfl rfl) <| zF <| zA <| zQ ?_
  refine zs (fun i : Nat => [(6, .imm (.sl 1 (l.map fnA))), (7, .imm (iv (l.length : Int))), (8, .imm (iv (i : Int)))]) (fun i => i ≤ l.length ∧ wo (fcodes l) = wo (fcodes (l.drop i))) (fun i => l.length - i) (0) ?_ ⟨rfl, zV rfl (by rw [List.length_map]), rfl, trivial⟩ ?_
  · exact ⟨Nat.zero_le _, rfl⟩
  · rintro i ⟨h1, h2⟩; (try dsimp only at h1 h2)
    refine zD <| zB <| g_u (yU rfl rfl rfl) <| zF <| zA <| zD ?_
    refine zN rfl (fun hb1 => ?_) (fun hb1 => ?_)
    · have hi : i < l.length := by have := of_decide_eq_true hb1; (try simp only [List.length_map] at this); omega
      refine zO <| zA <| zD <| zQ <| zD <| zB ?_
      refine g_u (za rfl rfl rfl Tryz.underlying242 tS201 (by omega) (nth_map (d := fnd) hi)) ?_
      refine g_u (zW rfl rfl tA201 tS201 rfl rfl) <| g_u (zE rfl rfl) <| zF <| zA <| zD <| zB <| g_u (zC rfl rfl) <| g_u (xQ (hf _ (nth_mem hi)) rfl rfl rfl) <| g_u (zE rfl rfl) <| zF <| zA <| zD <| zB <| g_u (zC rfl rfl) <| g_u (xG rfl rfl rfl) <| zF <| zA ?_
      refine zN rfl (fun hb2 => ?_) (fun hb2 => ?_)
      · have q := qc.1 hb2
        refine zD <| zB <| g_u (zC rfl rfl) <| g_u (zE rfl rfl) <| zF <| zA <| zJ <| ze <| zK <| zK <| ze <| zK ?_
        exact ⟨⟨(rfl : toAV (Al.look _ _) = some _).trans (congrArg some (by (exact congrArg iv (by first | (rw [h2, firstC_drop hi, yP _ _ q]; done) | (rw [h2, hin, List.drop_length]; rfl))))), rfl⟩, trivial⟩
      · have q := qd.1 hb2
        refine zO <| zM <| zA <| zB <| g_u (yB rfl rfl rfl) <| g_u (zC rfl rfl) <| zF <| zA ?_
        refine ⟨i + 1, ⟨hi, by (try dsimp only); rw [h2, firstC_drop hi, z6 _ _ q]⟩, ⟨rfl, rfl, zV rfl (by rw [zZ (by omega) (by omega)]; rfl), trivial⟩, by (try dsimp only); omega⟩
    · have hin : i = l.length := by have := of_decide_eq_false hb1; (try simp only [List.length_map] at this); omega
      refine zv <| zU <| zU <| zp <| zA <| zD <| zB <| g_u (zE rfl rfl) <| zF <| zA <| zJ ?_
      exact ⟨⟨(rfl : toAV (Al.look _ _) = some _).trans (congrArg some (by (exact congrArg iv (by first | (rw [h2, firstC_drop hi, yP _ _ q]; done) | (rw [h2, hin, List.drop_length]; rfl))))), rfl⟩, trivial⟩
theorem ev1_c (e : GE) (ho : e.name.size < 9223372036854775808) : zj Tryz.prog Γ0 182 [.cp e.av] [iv (yt e.name)] := by
  refine zb Tryz.func182 rfl Tryz.ntmps182 (by kernel_rfl) rfl fun w0 I0 G0 => ?_
  refine zD <| zB <| g_u (zE rfl rfl) <| zF <| zA <| zD <| zB <| g_u (zY rfl rfl fa95_1 rfl rfl) <| g_u (zW rfl rfl tA9 tS9 rfl rfl) ?_
  refine g_u (zT (words_c _ (by omega)) rfl rfl) ?_
  refine g_u (zE rfl rfl) <| zF <| zA <| zJ ?_
  exact ⟨⟨(rfl : toAV (Al.look _ _) = some _).trans (congrArg some (by rfl)), rfl⟩, trivial⟩
theorem ev2_c (e : GE) (ho : ∀ a ∈ e.attrs, a.ok) (hw : wtAs e.attrs ≤ 1000000) : zj Tryz.prog Γ0 183 [.cp e.av] [iv (yZ e.attrs)] := by
  refine zb Tryz.func183 rfl Tryz.ntmps183 (by kernel_rfl) rfl fun w0 I0 G0 => ?_
  refine zD <| zB <| g_u (zE rfl rfl) <| zF <| zA <| zD <| zB <| g_u (zY rfl rfl fa95_2 rfl rfl) <| g_u (zW rfl rfl tA46 tS46 rfl rfl) ?_
  refine g_u (zT (checkAs_c _ ho (by omega)) rfl rfl) ?_
  refine g_u (zE rfl rfl) <| zF <| zA <| zJ ?_
  exact ⟨⟨(rfl : toAV (Al.look _ _) = some _).trans (congrArg some (by rfl)), rfl⟩, trivial⟩
set_option maxHeartbeats 2000000 in
theorem events_c (l : List GE) (ho : ∀ e ∈ l, e.ok) (hw : zr GE.wt l ≤ 1000000) : zj Tryz.prog Γ0 127 [.sl 3 (l.map GE.av)] [iv (evsC l)] := by
  have ql := yJ GE.wt (fun e => by unfold GE.wt; omega) l
  refine zb Tryz.func127 rfl Tryz.ntmps127 (by kernel_rfl) rfl fun w0 I0 G0 => ?_
  refine zD <| zB <| g_u (zE rfl rfl) <| zF <| zA <| aw_scope <| zD <| zD <| zB <| g_u (zC rfl rfl) <| g_u (zx rfl rfl Tryz.underlying47) <| g_u (wl rfl rfl rfl) <| zF <| zA ?_
  refine zN rfl (fun hb1 => ?_) (fun hb1 => ?_)
  · have q16 : 16 < l.length := by have := of_decide_eq_true hb1; (try simp only [List.length_map] at this); omega
    refine zD <| zB <| g_u (zE rfl rfl) <| zF <| zA <| zJ <| zK <| ret_scp ?_
    exact ⟨⟨(rfl : toAV (Al.look _ _) = some _).trans (congrArg some (by (exact congrArg iv (by unfold evsC; first | (rw [if_pos q16]; done) | (rw [if_neg q16, h2, hin, List.drop_length]; rfl) | (rw [if_neg q16, h2, E, if_pos qt]; done) | (rw [if_neg q16, h2, E, if_neg qt, yP _ _ (by simpa [wo, fcodes, xV] using q)]; simp [wo, fcodes, xV]; done))))), rfl⟩, trivial⟩
  · have q16 : ¬ 16 < l.length := by have := of_decide_eq_false hb1; (try simp only [List.length_map] at this); omega
    refine zO <| zA <| zD <| zB <| g_u (zE rfl rfl) <| zF <| zA <| zD <| aw_label <| zA <| zD <| zD <| zB <| g_u (zC rfl rfl) <| g_u (zx rfl rfl Tryz.underlying47) <| g_u (zC rfl rfl) <| zF <| zA <| zQ ?_
    refine zs (fun i : Nat => [(3, .imm (iv 0)), (9, .imm (.sl 3 (l.map GE.av))), (10, .imm (iv (l.length : Int))), (11, .imm (iv (i : Int)))]) (fun i => i ≤ l.length ∧ evC l = evC (l.drop i)) (fun i => l.length - i) (0) ?_ ⟨rfl, rfl, zV rfl (by rw [List.length_map]), rfl, trivial⟩ ?_
    · exact ⟨Nat.zero_le _, rfl⟩
    · rintro i ⟨h1, h2⟩; (try dsimp only at h1 h2)
      refine zD <| zB <| g_u (yU rfl rfl rfl) <| zF <| zA <| zD ?_
      refine zN rfl (fun hb2 => ?_) (fun hb2 => ?_)
      · have hi : i < l.length := by have := of_decide_eq_true hb2; (try simp only [List.length_map] at this); omega
        have hx := yM GE.wt (nthE_mem hi)
        have hx2 : (nthE l i).wt = 1 + (nthE l i).name.size + wtAs (nthE l i).attrs := rfl
        have hxo := ho _ (nthE_mem hi)
        have c1 := ev1_c (nthE l i) (by omega)
        have c2 := ev2_c (nthE l i) hxo.2.2 (by omega)
        have E := evC_drop hi
        refine zO <| zA <| zD <| zQ <| zD <| zB ?_
        refine g_u (za rfl rfl rfl Tryz.underlying47 tS95 (by omega) (ixE hi)) ?_
        refine g_u (zW rfl rfl tA95 tS95 rfl rfl) <| g_uG (zo 1005 rfl rfl rfl tZ95) rfl <| g_u (zL rfl rfl rfl tS95 rfl rfl) <| zF <| zA <| zD <| zQ <| zD <| zB <| g_u (zG rfl rfl fa95_0 rfl) <| g_u (zH rfl rfl rfl tA45 tS45 rfl rfl) <| g_u (wl rfl rfl rfl) <| g_u (zE rfl rfl) <| zF <| zA ?_
        refine zN rfl (fun hb3 => ?_) (fun hb3 => ?_)
        · have qt : 9223372036854775807 < (nthE l i).time := of_decide_eq_true hb3
          refine zD <| zB <| g_u (zE rfl rfl) <| zF <| zA <| zv <| exit_blk_ne rfl <| zU <| exit_blk_ne rfl <| zU <| zU <| zp <| zA <| zD <| zB <| g_u (zC rfl rfl) <| g_u (zE rfl rfl) <| zF <| zA <| zJ <| ret_scp ?_
          exact ⟨⟨(rfl : toAV (Al.look _ _) = some _).trans (congrArg some (by (exact congrArg iv (by unfold evsC; first | (rw [if_pos q16]; done) | (rw [if_neg q16, h2, hin, List.drop_length]; rfl) | (rw [if_neg q16, h2, E, if_pos qt]; done) | (rw [if_neg q16, h2, E, if_neg qt, yP _ _ (by simpa [wo, fcodes, xV] using q)]; simp [wo, fcodes, xV]; done))))), rfl⟩, trivial⟩
        · have qt : ¬ 9223372036854775807 < (nthE l i).time := of_decide_eq_false hb3
          refine aw_share 1005 rfl rfl <| zB <| g_u (y_ rfl rfl rfl) <| g_u (y_ rfl rfl rfl) <| g_u (zu (X0 := z201) rfl Tryz.underlying242 tS201 tZ201 rfl rfl rfl rfl rfl rfl rfl rfl) ?_
          refine g_u (zT (first_c [(182, [], [.cp (nthE l i).av], yt (nthE l i).name), (183, [], [.cp (nthE l i).av], yZ (nthE l i).attrs)] (by simp only [List.length_cons, List.length_nil]; omega) (fun x hx => by simp only [List.mem_cons, List.not_mem_nil, or_false] at hx; rcases hx with rfl | rfl <;> assumption)) rfl rfl) ?_
          refine g_u (zE rfl rfl) <| zF <| zM <| zA <| zD <| zB <| g_u (zC rfl rfl) <| g_u (xG rfl rfl rfl) <| zF <| zA ?_
          refine zN rfl (fun hb4 => ?_) (fun hb4 => ?_)
          · have q := qc.1 hb4
            refine zv <| exit_blk_ne rfl <| zU <| zU <| zp <| zA <| zD <| zB <| g_u (zC rfl rfl) <| g_u (zE rfl rfl) <| zF <| zA <| zJ <| ret_scp ?_
            exact ⟨⟨(rfl : toAV (Al.look _ _) = some _).trans (congrArg some (by (exact congrArg iv (by unfold evsC; first | (rw [if_pos q16]; done) | (rw [if_neg q16, h2, hin, List.drop_length]; rfl) | (rw [if_neg q16, h2, E, if_pos qt]; done) | (rw [if_neg q16, h2, E, if_neg qt, yP _ _ (by simpa [wo, fcodes, xV] using q)]; simp [wo, fcodes, xV]; done))))), rfl⟩, trivial⟩
          · have q := qd.1 hb4
            refine zO <| zM <| zA <| zB <| g_u (yB rfl rfl rfl) <| g_u (zC rfl rfl) <| zF <| zA ?_
            refine ⟨i + 1, ⟨hi, by (try dsimp only); rw [h2, E, if_neg qt]; exact z6 _ _ (by simpa [wo, fcodes, xV] using q)⟩, ⟨zV rfl q, rfl, rfl, zV rfl (by rw [zZ (by omega) (by omega)]; rfl), trivial⟩, by (try dsimp only); omega⟩
      · have hin : i = l.length := by have := of_decide_eq_false hb2; (try simp only [List.length_map] at this); omega
        refine zv <| zU <| zU <| zp <| zA <| zD <| zB <| g_u (zC rfl rfl) <| g_u (zE rfl rfl) <| zF <| zA <| zJ <| ret_scp ?_
        exact ⟨⟨(rfl : toAV (Al.look _ _) = some _).trans (congrArg some (by (exact congrArg iv (by unfold evsC; first | (rw [if_pos q16]; done) | (rw [if_neg q16, h2, hin, List.drop_length]; rfl) | (rw [if_neg q16, h2, E, if_pos qt]; done) | (rw [if_neg q16, h2, E, if_neg qt, yP _ _ (by simpa [wo, fcodes, xV] using q)]; simp [wo, fcodes, xV]; done))))), rfl⟩, trivial⟩
theorem lk1_c (e : GL) (h1 : e.trace.length = 16) (h2 : e.span.length = 8) : zj Tryz.prog Γ0 184 [.cp e.av] [iv (if vK e.trace || vK e.span then 10 else 0)] := by
  refine zb Tryz.func184 rfl Tryz.ntmps184 (by kernel_rfl) rfl fun w0 I0 G0 => ?_
  refine zD <| zB <| g_u (zE rfl rfl) <| zF <| zA <| zD <| zB <| g_u (zY rfl rfl fa107_0 rfl rfl) <| g_u (zW rfl rfl tA42 tS42 rfl rfl) <| g_u (wV rfl tU42 Tryz.underlying42 tS5 rfl rfl rfl rfl) <| g_u (s_eqA rfl rfl rfl eg42 rfl rfl (eq42 _ _)) <| g_u (zC rfl rfl) <| zz (t := 6) rfl ?_
  rintro (hb1 | hb1)
  · rw [hb1]
    have q : vK e.trace = true := by have e := hb1; rw [wr h1] at e; exact e
    refine zI rfl rfl rfl <| zI rfl rfl rfl <| zI rfl rfl rfl <| zI rfl rfl rfl <| g_u (zX rfl rfl rfl) <| g_u (zT (when_c _ _) rfl rfl) <| g_u (zE rfl rfl) <| zF <| zA <| zJ ?_
    exact ⟨⟨(rfl : toAV (Al.look _ _) = some _).trans (congrArg some (by (exact congrArg iv (by first | (rw [q, wr h2, Bool.false_or]; done) | (rw [q, Bool.true_or]; done) | (rw [q, Bool.true_or]; rfl))))), rfl⟩, trivial⟩
  · rw [hb1]
    have q : vK e.trace = false := by have e := hb1; rw [wr h1] at e; exact e
    refine zP rfl rfl (zY rfl rfl fa107_1 rfl rfl) <| zP rfl rfl (zW rfl rfl tA44 tS44 rfl rfl) <| zP rfl rfl (wV rfl tU44 Tryz.underlying44 tS5 rfl rfl rfl rfl) <| zP rfl rfl (s_eqA rfl rfl rfl eg44 rfl rfl (eq44 _ _)) <| g_u (zg rfl rfl rfl) <| g_u (zT (when_c _ _) rfl rfl) <| g_u (zE rfl rfl) <| zF <| zA <| zJ ?_
    exact ⟨⟨(rfl : toAV (Al.look _ _) = some _).trans (congrArg some (by (exact congrArg iv (by first | (rw [q, wr h2, Bool.false_or]; done) | (rw [q, Bool.true_or]; done) | (rw [q, Bool.true_or]; rfl))))), rfl⟩, trivial⟩
theorem lk2_c (e : GL) (ho : e.state.size < 9223372036854775808) : zj Tryz.prog Γ0 185 [.cp e.av] [iv (yt e.state)] := by
  refine zb Tryz.func185 rfl Tryz.ntmps185 (by kernel_rfl) rfl fun w0 I0 G0 => ?_
  refine zD <| zB <| g_u (zE rfl rfl) <| zF <| zA <| zD <| zB <| g_u (zY rfl rfl fa107_2 rfl rfl) <| g_u (zW rfl rfl tA9 tS9 rfl rfl) ?_
  refine g_u (zT (words_c _ (by omega)) rfl rfl) ?_
  refine g_u (zE rfl rfl) <| zF <| zA <| zJ ?_
  exact ⟨⟨(rfl : toAV (Al.look _ _) = some _).trans (congrArg some (by rfl)), rfl⟩, trivial⟩
theorem lk3_c (e : GL) (ho : ∀ a ∈ e.attrs, a.ok) (hw : wtAs e.attrs ≤ 1000000) : zj Tryz.prog Γ0 186 [.cp e.av] [iv (yZ e.attrs)] := by
  refine zb Tryz.func186 rfl Tryz.ntmps186 (by kernel_rfl) rfl fun w0 I0 G0 => ?_
  refine zD <| zB <| g_u (zE rfl rfl) <| zF <| zA <| zD <| zB <| g_u (zY rfl rfl fa107_3 rfl rfl) <| g_u (zW rfl rfl tA46 tS46 rfl rfl) ?_
  refine g_u (zT (checkAs_c _ ho (by omega)) rfl rfl) ?_
  refine g_u (zE rfl rfl) <| zF <| zA <| zJ ?_
  exact ⟨⟨(rfl : toAV (Al.look _ _) = some _).trans (congrArg some (by rfl)), rfl⟩, trivial⟩
set_option maxHeartbeats 4000000 in
theorem links_c (l : List GL) (ho : ∀ e ∈ l, e.ok) (hw : zr GL.wt l ≤ 1000000) : zj Tryz.prog Γ0 129 [.sl 26 (l.map GL.av)] [iv (lksC l)] := by
  have ql := yJ GL.wt (fun e => by unfold GL.wt; omega) l
  refine zb Tryz.func129 rfl Tryz.ntmps129 (by kernel_rfl) rfl fun w0 I0 G0 => ?_
  refine zD <| zB <| g_u (zE rfl rfl) <| zF <| zA <| aw_scope <| zD <| zD <| zB <| g_u (zC rfl rfl) <| g_u (zx rfl rfl Tryz.underlying48) <| g_u (wl rfl rfl rfl) <| zF <| zA ?_
  refine zN rfl (fun hb1 => ?_) (fun hb1 => ?_)
  · have q16 : 16 < l.length := by have := of_decide_eq_true hb1; (try simp only [List.length_map] at this); omega
    refine zD <| zB <| g_u (zE rfl rfl) <| zF <| zA <| zJ <| zK <| ret_scp ?_
    exact ⟨⟨(rfl : toAV (Al.look _ _) = some _).trans (congrArg some (by (exact congrArg iv (by unfold lksC; first | (rw [if_pos q16]; done) | (rw [if_neg q16, h2, hin, List.drop_length]; rfl) | (rw [if_neg q16, h2, E]; rw [EF] at q ⊢; split at q; (rename_i hz; rw [if_pos hz, if_pos hz]); (rename_i hz; rw [if_neg hz, if_neg hz, yP _ _ q])))))), rfl⟩, trivial⟩
  · have q16 : ¬ 16 < l.length := by have := of_decide_eq_false hb1; (try simp only [List.length_map] at this); omega
    refine zO <| zA <| zD <| zB <| g_u (zE rfl rfl) <| zF <| zA <| zD <| aw_label <| zA <| zD <| zD <| zB <| g_u (zC rfl rfl) <| g_u (zx rfl rfl Tryz.underlying48) <| g_u (zC rfl rfl) <| zF <| zA <| zQ ?_
    refine zs (fun i : Nat => [(3, .imm (iv 0)), (9, .imm (.sl 26 (l.map GL.av))), (10, .imm (iv (l.length : Int))), (11, .imm (iv (i : Int)))]) (fun i => i ≤ l.length ∧ lkC l = lkC (l.drop i)) (fun i => l.length - i) (0) ?_ ⟨rfl, rfl, zV rfl (by rw [List.length_map]), rfl, trivial⟩ ?_
    · exact ⟨Nat.zero_le _, rfl⟩
    · rintro i ⟨h1, h2⟩; (try dsimp only at h1 h2)
      refine zD <| zB <| g_u (yU rfl rfl rfl) <| zF <| zA <| zD ?_
      refine zN rfl (fun hb2 => ?_) (fun hb2 => ?_)
      · have hi : i < l.length := by have := of_decide_eq_true hb2; (try simp only [List.length_map] at this); omega
        have hx := yM GL.wt (nthL_mem hi)
        have hx2 : (nthL l i).wt = 1 + (nthL l i).state.size + wtAs (nthL l i).attrs := rfl
        have hxo := ho _ (nthL_mem hi)
        have c1 := lk1_c (nthL l i) hxo.1 hxo.2.1
        have c2 := lk2_c (nthL l i) (by omega)
        have c3 := lk3_c (nthL l i) hxo.2.2.2 (by omega)
        have E := lkC_drop hi
        have EF : wo (fcodes [(184, [], [.cp (nthL l i).av], (if vK (nthL l i).trace || vK (nthL l i).span then 10 else 0)), (185, [], [.cp (nthL l i).av], yt (nthL l i).state), (186, [], [.cp (nthL l i).av], yZ (nthL l i).attrs)]) = if vK (nthL l i).trace || vK (nthL l i).span then 10 else orC (yt (nthL l i).state) (yZ (nthL l i).attrs) := by show orC (if vK (nthL l i).trace || vK (nthL l i).span then 10 else 0) (orC (yt (nthL l i).state) (orC (yZ (nthL l i).attrs) 0)) = _; rw [xV]; split; exact yP _ _ (by decide); exact z6 _ _ rfl
        refine zO <| zA <| zD <| zQ <| zD <| zB ?_
        refine g_u (za rfl rfl rfl Tryz.underlying48 tS107 (by omega) (ixL hi)) ?_
        refine g_u (zW rfl rfl tA107 tS107 rfl (by first | exact xp (GL.width _) rfl | rfl)) ?_
        refine g_uG (zo 1005 rfl rfl rfl tZ107) rfl ?_
        refine g_u (zL rfl rfl rfl tS107 (by first | exact beqW (GL.width _) | rfl) (by first | exact setS_w (z107_w.trans (GL.width _).symm) rfl | rfl)) ?_
        refine zF <| zA <| zD <| aw_share 1005 rfl rfl <| zB <| g_u (y_ rfl rfl rfl) <| g_u (y_ rfl rfl rfl) <| g_u (y_ rfl rfl rfl) <| g_u (zu (X0 := z201) rfl Tryz.underlying242 tS201 tZ201 rfl rfl rfl rfl rfl rfl rfl rfl) ?_
        refine g_u (zT (first_c [(184, [], [.cp (nthL l i).av], (if vK (nthL l i).trace || vK (nthL l i).span then 10 else 0)), (185, [], [.cp (nthL l i).av], yt (nthL l i).state), (186, [], [.cp (nthL l i).av], yZ (nthL l i).attrs)] (by simp only [List.length_cons, List.length_nil]; omega) (fun x hx => by simp only [List.mem_cons, List.not_mem_nil, or_false] at hx; rcases hx with rfl | rfl | rfl <;> assumption)) rfl rfl) ?_
        refine g_u (zE rfl rfl) <| zF <| zA <| zD <| zB <| g_u (zC rfl rfl) <| g_u (xG rfl rfl rfl) <| zF <| zA ?_
        refine zN rfl (fun hb3 => ?_) (fun hb3 => ?_)
        · have q := qc.1 hb3
          refine zv <| exit_blk_ne rfl <| zU <| zU <| zp <| zA <| zD <| zB <| g_u (zC rfl rfl) <| g_u (zE rfl rfl) <| zF <| zA <| zJ <| ret_scp ?_
          exact ⟨⟨(rfl : toAV (Al.look _ _) = some _).trans (congrArg some (by (exact congrArg iv (by unfold lksC; first | (rw [if_pos q16]; done) | (rw [if_neg q16, h2, hin, List.drop_length]; rfl) | (rw [if_neg q16, h2, E]; rw [EF] at q ⊢; split at q; (rename_i hz; rw [if_pos hz, if_pos hz]); (rename_i hz; rw [if_neg hz, if_neg hz, yP _ _ q])))))), rfl⟩, trivial⟩
        · have q := qd.1 hb3
          refine zO <| zM <| zA <| zB <| g_u (yB rfl rfl rfl) <| g_u (zC rfl rfl) <| zF <| zA ?_
          have qz := q
          rw [EF] at qz
          refine ⟨i + 1, ⟨hi, by (try dsimp only); rw [h2, E]; split at qz; (exact absurd qz (by decide)); (rename_i hz; rw [if_neg hz, z6 _ _ qz])⟩, ⟨zV rfl q, rfl, rfl, zV rfl (by rw [zZ (by omega) (by omega)]; rfl), trivial⟩, by (try dsimp only); omega⟩
      · have hin : i = l.length := by have := of_decide_eq_false hb2; (try simp only [List.length_map] at this); omega
        refine zv <| zU <| zU <| zp <| zA <| zD <| zB <| g_u (zC rfl rfl) <| g_u (zE rfl rfl) <| zF <| zA <| zJ <| ret_scp ?_
        exact ⟨⟨(rfl : toAV (Al.look _ _) = some _).trans (congrArg some (by (exact congrArg iv (by unfold lksC; first | (rw [if_pos q16]; done) | (rw [if_neg q16, h2, hin, List.drop_length]; rfl) | (rw [if_neg q16, h2, E]; rw [EF] at q ⊢; split at q; (rename_i hz; rw [if_pos hz, if_pos hz]); (rename_i hz; rw [if_neg hz, if_neg hz, yP _ _ q])))))), rfl⟩, trivial⟩
end Go.Proofs
namespace Go.Proofs
open Go Go.Al
set_option maxRecDepth 10000
set_option maxHeartbeats 1000000 in
theorem ck1_c (s : GSpan) (h1 : s.trace.length = 16) (h2 : s.id.length = 8) : zj Tryz.prog Γ0 119 [.cp s.av] [iv (if vK s.trace || vK s.id then 10 else 0)] := by
  refine zb Tryz.func119 rfl Tryz.ntmps119 (by kernel_rfl) rfl fun w0 I0 G0 => ?_
  refine zD <| zB <| g_u (zE rfl rfl) <| zF <| zA <| zD <| zB <| g_u (zY rfl rfl fa52_0 rfl rfl) <| g_u (zW rfl rfl tA42 tS42 rfl rfl) <| g_u (wV rfl tU42 Tryz.underlying42 tS5 rfl rfl rfl rfl) <| g_u (s_eqA rfl rfl rfl eg42 rfl rfl (eq42 _ _)) <| g_u (zC rfl rfl) <| zz (t := 6) rfl ?_
  rintro (hb1 | hb1)
  · rw [hb1]
    have q : vK s.trace = true := by have e := hb1; rw [wr h1] at e; exact e
    refine zI rfl rfl rfl <| zI rfl rfl rfl <| zI rfl rfl rfl <| zI rfl rfl rfl <| g_u (zX rfl rfl rfl) <| g_u (zT (when_c _ _) rfl rfl) <| g_u (zE rfl rfl) <| zF <| zA <| zJ ?_
    exact ⟨⟨(rfl : toAV (Al.look _ _) = some _).trans (congrArg some (by (exact congrArg iv (by first | (rw [q, wr h2, Bool.false_or]; done) | (rw [q, Bool.true_or]; done) | (rw [q, Bool.true_or]; rfl))))), rfl⟩, trivial⟩
  · rw [hb1]
    have q : vK s.trace = false := by have e := hb1; rw [wr h1] at e; exact e
    refine zP rfl rfl (zY rfl rfl fa52_1 rfl rfl) <| zP rfl rfl (zW rfl rfl tA44 tS44 rfl rfl) <| zP rfl rfl (wV rfl tU44 Tryz.underlying44 tS5 rfl rfl rfl rfl) <| zP rfl rfl (s_eqA rfl rfl rfl eg44 rfl rfl (eq44 _ _)) <| g_u (zg rfl rfl rfl) <| g_u (zT (when_c _ _) rfl rfl) <| g_u (zE rfl rfl) <| zF <| zA <| zJ ?_
    exact ⟨⟨(rfl : toAV (Al.look _ _) = some _).trans (congrArg some (by (exact congrArg iv (by first | (rw [q, wr h2, Bool.false_or]; done) | (rw [q, Bool.true_or]; done) | (rw [q, Bool.true_or]; rfl))))), rfl⟩, trivial⟩
set_option maxHeartbeats 1000000 in
theorem ck2_c (s : GSpan) (ht : s.state.size < 9223372036854775808) : zj Tryz.prog Γ0 121 [.cp s.av] [iv (yt s.state)] := by
  refine zb Tryz.func121 rfl Tryz.ntmps121 (by kernel_rfl) rfl fun w0 I0 G0 => ?_
  refine zD <| zB <| g_u (zE rfl rfl) <| zF <| zA <| zD <| zB <| g_u (zY rfl rfl fa52_3 rfl rfl) <| g_u (zW rfl rfl tA9 tS9 rfl rfl) ?_
  refine g_u (zT (words_c _ (by omega)) rfl rfl) ?_
  refine g_u (zE rfl rfl) <| zF <| zA <| zJ ?_
  exact ⟨⟨(rfl : toAV (Al.look _ _) = some _).trans (congrArg some (by rfl)), rfl⟩, trivial⟩
set_option maxHeartbeats 1000000 in
theorem ck3_c (s : GSpan) (ht : s.name.size < 9223372036854775808) : zj Tryz.prog Γ0 122 [.cp s.av] [iv (yt s.name)] := by
  refine zb Tryz.func122 rfl Tryz.ntmps122 (by kernel_rfl) rfl fun w0 I0 G0 => ?_
  refine zD <| zB <| g_u (zE rfl rfl) <| zF <| zA <| zD <| zB <| g_u (zY rfl rfl fa52_4 rfl rfl) <| g_u (zW rfl rfl tA9 tS9 rfl rfl) ?_
  refine g_u (zT (words_c _ (by omega)) rfl rfl) ?_
  refine g_u (zE rfl rfl) <| zF <| zA <| zJ ?_
  exact ⟨⟨(rfl : toAV (Al.look _ _) = some _).trans (congrArg some (by rfl)), rfl⟩, trivial⟩
set_option maxHeartbeats 1000000 in
theorem ck9_c (s : GSpan) (ht : s.note.size < 9223372036854775808) : zj Tryz.prog Γ0 131 [.cp s.av] [iv (yt s.note)] := by
  refine zb Tryz.func131 rfl Tryz.ntmps131 (by kernel_rfl) rfl fun w0 I0 G0 => ?_
  refine zD <| zB <| g_u (zE rfl rfl) <| zF <| zA <| zD <| zB <| g_u (zY rfl rfl fa52_11 rfl rfl) <| g_u (zY rfl rfl fa50_1 rfl rfl) <| g_u (zW rfl rfl tA9 tS9 rfl rfl) ?_
  refine g_u (zT (words_c _ (by omega)) rfl rfl) ?_
  refine g_u (zE rfl rfl) <| zF <| zA <| zJ ?_
  exact ⟨⟨(rfl : toAV (Al.look _ _) = some _).trans (congrArg some (by rfl)), rfl⟩, trivial⟩
set_option maxHeartbeats 1000000 in
theorem ck4_c (s : GSpan) : zj Tryz.prog Γ0 123 [.cp s.av] [iv (if s.kind < 0 ∨ 5 < s.kind then 7 else 0)] := by
  refine zb Tryz.func123 rfl Tryz.ntmps123 (by kernel_rfl) rfl fun w0 I0 G0 => ?_
  refine zD <| zB <| g_u (zE rfl rfl) <| zF <| zA <| zD <| zB <| g_u (zY rfl rfl fa52_5 rfl rfl) <| g_u (zW rfl rfl tA3 tS3 rfl rfl) <| g_u (yU rfl rfl rfl) <| g_u (zC rfl rfl) <| zz (t := 5) rfl ?_
  rintro (hb1 | hb1)
  · rw [hb1]
    have q : s.kind < 0 := of_decide_eq_true hb1
    refine zI rfl rfl rfl <| zI rfl rfl rfl <| zI rfl rfl rfl <| g_u (zX rfl rfl rfl) <| g_u (zT (when_c _ _) rfl rfl) <| g_u (zE rfl rfl) <| zF <| zA <| zJ ?_
    exact ⟨⟨(rfl : toAV (Al.look _ _) = some _).trans (congrArg some (by (exact congrArg iv (by first | (rw [if_pos (Or.inl q)]; done) | (rw [if_pos (Or.inl q)]; rfl) | (simp only [qa, gt_iff_lt]; (repeat' split) <;> omega))))), rfl⟩, trivial⟩
  · rw [hb1]
    have q : ¬ s.kind < 0 := of_decide_eq_false hb1
    refine zP rfl rfl (zY rfl rfl fa52_5 rfl rfl) <| zP rfl rfl (zW rfl rfl tA3 tS3 rfl rfl) <| zP rfl rfl (wl rfl rfl rfl) <| g_u (zg rfl rfl rfl) <| g_u (zT (when_c _ _) rfl rfl) <| g_u (zE rfl rfl) <| zF <| zA <| zJ ?_
    exact ⟨⟨(rfl : toAV (Al.look _ _) = some _).trans (congrArg some (by (exact congrArg iv (by first | (rw [if_pos (Or.inl q)]; done) | (rw [if_pos (Or.inl q)]; rfl) | (simp only [qa, gt_iff_lt]; (repeat' split) <;> omega))))), rfl⟩, trivial⟩
set_option maxHeartbeats 1000000 in
theorem ck8_c (s : GSpan) : zj Tryz.prog Γ0 130 [.cp s.av] [iv (if s.code < 0 ∨ 2 < s.code then 7 else 0)] := by
  refine zb Tryz.func130 rfl Tryz.ntmps130 (by kernel_rfl) rfl fun w0 I0 G0 => ?_
  refine zD <| zB <| g_u (zE rfl rfl) <| zF <| zA <| zD <| zB <| g_u (zY rfl rfl fa52_11 rfl rfl) <| g_u (zY rfl rfl fa50_0 rfl rfl) <| g_u (zW rfl rfl tA3 tS3 rfl rfl) <| g_u (yU rfl rfl rfl) <| g_u (zC rfl rfl) <| zz (t := 6) rfl ?_
  rintro (hb1 | hb1)
  · rw [hb1]
    have q : s.code < 0 := of_decide_eq_true hb1
    refine zI rfl rfl rfl <| zI rfl rfl rfl <| zI rfl rfl rfl <| zI rfl rfl rfl <| g_u (zX rfl rfl rfl) <| g_u (zT (when_c _ _) rfl rfl) <| g_u (zE rfl rfl) <| zF <| zA <| zJ ?_
    exact ⟨⟨(rfl : toAV (Al.look _ _) = some _).trans (congrArg some (by (exact congrArg iv (by first | (rw [if_pos (Or.inl q)]; done) | (rw [if_pos (Or.inl q)]; rfl) | (simp only [qa, gt_iff_lt]; (repeat' split) <;> omega))))), rfl⟩, trivial⟩
  · rw [hb1]
    have q : ¬ s.code < 0 := of_decide_eq_false hb1
    refine zP rfl rfl (zY rfl rfl fa52_11 rfl rfl) <| zP rfl rfl (zY rfl rfl fa50_0 rfl rfl) <| zP rfl rfl (zW rfl rfl tA3 tS3 rfl rfl) <| zP rfl rfl (wl rfl rfl rfl) <| g_u (zg rfl rfl rfl) <| g_u (zT (when_c _ _) rfl rfl) <| g_u (zE rfl rfl) <| zF <| zA <| zJ ?_
    exact ⟨⟨(rfl : toAV (Al.look _ _) = some _).trans (congrArg some (by (exact congrArg iv (by first | (rw [if_pos (Or.inl q)]; done) | (rw [if_pos (Or.inl q)]; rfl) | (simp only [qa, gt_iff_lt]; (repeat' split) <;> omega))))), rfl⟩, trivial⟩
set_option maxHeartbeats 1000000 in
theorem ck5_c (s : GSpan) (ho : ∀ a ∈ s.attrs, a.ok) (hw : wtAs s.attrs ≤ 1000000) : zj Tryz.prog Γ0 125 [.cp s.av] [iv (yZ s.attrs)] := by
  refine zb Tryz.func125 rfl Tryz.ntmps125 (by kernel_rfl) rfl fun w0 I0 G0 => ?_
  refine zD <| zB <| g_u (zE rfl rfl) <| zF <| zA <| zD <| zB <| g_u (zY rfl rfl fa52_8 rfl rfl) <| g_u (zW rfl rfl tA46 tS46 rfl rfl) ?_
  refine g_u (zT (checkAs_c _ ho (by omega)) rfl rfl) ?_
  refine g_u (zE rfl rfl) <| zF <| zA <| zJ ?_
  exact ⟨⟨(rfl : toAV (Al.look _ _) = some _).trans (congrArg some (by rfl)), rfl⟩, trivial⟩
set_option maxHeartbeats 1000000 in
theorem ck6_c (s : GSpan) (ho : ∀ e ∈ s.events, e.ok) (hw : zr GE.wt s.events ≤ 1000000) : zj Tryz.prog Γ0 126 [.cp s.av] [iv (evsC s.events)] := by
  refine zb Tryz.func126 rfl Tryz.ntmps126 (by kernel_rfl) rfl fun w0 I0 G0 => ?_
  refine zD <| zB <| g_u (zE rfl rfl) <| zF <| zA <| zD <| zB <| g_u (zY rfl rfl fa52_9 rfl rfl) <| g_u (zW rfl rfl tA47 tS47 rfl rfl) ?_
  refine g_u (zT (events_c _ ho (by omega)) rfl rfl) ?_
  refine g_u (zE rfl rfl) <| zF <| zA <| zJ ?_
  exact ⟨⟨(rfl : toAV (Al.look _ _) = some _).trans (congrArg some (by rfl)), rfl⟩, trivial⟩
set_option maxHeartbeats 1000000 in
theorem ck7_c (s : GSpan) (ho : ∀ e ∈ s.links, e.ok) (hw : zr GL.wt s.links ≤ 1000000) : zj Tryz.prog Γ0 128 [.cp s.av] [iv (lksC s.links)] := by
  refine zb Tryz.func128 rfl Tryz.ntmps128 (by kernel_rfl) rfl fun w0 I0 G0 => ?_
  refine zD <| zB <| g_u (zE rfl rfl) <| zF <| zA <| zD <| zB <| g_u (zY rfl rfl wy rfl rfl) <| g_u (zW rfl rfl tA48 tS48 rfl rfl) ?_
  refine g_u (zT (links_c _ ho (by omega)) rfl rfl) ?_
  refine g_u (zE rfl rfl) <| zF <| zA <| zJ ?_
  exact ⟨⟨(rfl : toAV (Al.look _ _) = some _).trans (congrArg some (by rfl)), rfl⟩, trivial⟩
set_option maxHeartbeats 8000000 in
theorem spanCheck_c (s : GSpan) (ho : s.ok) (hw : s.wt ≤ 1000000) : zj Tryz.prog Γ0 84 [s.av] [iv (spanOk s)] := by
  have qw : s.wt = 1 + s.state.size + s.name.size + s.note.size + wtAs s.attrs + zr GE.wt s.events + zr GL.wt s.links := rfl
  have ql := yJ GE.wt (fun e => by unfold GE.wt; omega) s.events
  have qm := yJ GL.wt (fun e => by unfold GL.wt; omega) s.links
  obtain ⟨⟨o1, o2, o3⟩, ⟨o4, o5, o6⟩, o7, ho8, ho9, ho10⟩ := ho
  have c1 := ck1_c s o1 o2
  have c2 := ck2_c s (by omega)
  have c3 := ck3_c s (by omega)
  have c4 := ck4_c s
  have c5 : zj Tryz.prog Γ0 124 ([.agg [uv s.start, uv s.fin]] ++ [] ++ []) [iv (rgCheckM ⟨s.start, s.fin⟩)] := rgCheck_c ⟨s.start, s.fin⟩
  have c6 := ck5_c s ho8 (by omega)
  have c7 := ck6_c s ho9 (by omega)
  have c8 := ck7_c s ho10 (by omega)
  have c9 := ck8_c s
  have c10 := ck9_c s (by omega)
  refine zb Tryz.func84 rfl Tryz.ntmps84 (by kernel_rfl) rfl fun w0 I0 G0 => ?_
  refine zD <| zB <| g_uG (zi 1001 rfl rfl rfl rfl) rfl <| g_u (zE rfl rfl) <| zF <| zA <| zD <| aw_share 1001 rfl rfl <| zB <| g_u (y_ rfl rfl rfl) <| g_u (y_ rfl rfl rfl) <| g_u (y_ rfl rfl rfl) <| g_u (y_ rfl rfl rfl) <| g_u (zY rfl rfl fa52_6 rfl rfl) <| g_u (zW rfl rfl tA45 tS45 rfl rfl) <| g_u (zY rfl rfl fa52_7 rfl rfl) <| g_u (zW rfl rfl tA45 tS45 rfl rfl) <| g_u (y9 rfl tU181 us181 pl181 rfl rfl rfl rfl) <| g_u (y_ rfl rfl rfl) <| g_u (y_ rfl rfl rfl) <| g_u (y_ rfl rfl rfl) <| g_u (y_ rfl rfl rfl) <| g_u (y_ rfl rfl rfl) <| g_u (y_ rfl rfl rfl) <| g_u (zu (X0 := z201) rfl Tryz.underlying242 tS201 tZ201 rfl rfl rfl rfl rfl rfl rfl rfl) ?_
  refine g_u (zT (first_c [(119, [], [.cp s.av], if vK s.trace || vK s.id then 10 else 0), (121, [], [.cp s.av], yt s.state), (122, [], [.cp s.av], yt s.name), (123, [], [.cp s.av], if s.kind < 0 ∨ 5 < s.kind then 7 else 0), (124, [.agg [uv s.start, uv s.fin]], [], rgCheckM ⟨s.start, s.fin⟩), (125, [], [.cp s.av], yZ s.attrs), (126, [], [.cp s.av], evsC s.events), (128, [], [.cp s.av], lksC s.links), (130, [], [.cp s.av], if s.code < 0 ∨ 2 < s.code then 7 else 0), (131, [], [.cp s.av], yt s.note)] (by simp only [List.length_cons, List.length_nil]; omega) (fun x hx => by simp only [List.mem_cons, List.not_mem_nil, or_false] at hx; rcases hx with rfl | rfl | rfl | rfl | rfl | rfl | rfl | rfl | rfl | rfl <;> assumption)) rfl rfl) ?_
  refine g_u (zE rfl rfl) <| zF <| zA <| zJ ?_
  exact ⟨⟨(rfl : toAV (Al.look _ _) = some _).trans (congrArg some (by rfl)), rfl⟩, trivial⟩
end Go.Proofs
namespace Go.Al
open Go.RowKit
section
variable {C : Cx} {A : Nat → SV} {d : Nat} {ty : TypeId} {pos : String} {af : Array Edge} {gd : Option (Nat × Bool)} {x y : Operand} {T T' : TypeId}
end
end Go.Al
namespace Go.Proofs
open Go Go.Al
end Go.Proofs
namespace Go.Proofs
open Go Go.Al
set_option maxRecDepth 10000
end Go.Proofs
namespace Go.Proofs
open Go Go.Al
set_option maxRecDepth 10000
end Go.Proofs
namespace Go.Proofs
open Go Go.Al
set_option maxRecDepth 10000
end Go.Proofs
namespace Go.Al
open Go.RowKit
def base (P : Program) (Γ : List (Nat × AV)) (N : Nat) (w : World) (G : Gh) : Cx := ⟨P, w, G.I, fun _ => False, N, 100000, G, Γ, [], none⟩
def noRes : St → Bool
  | [] => true
  | (_, x) :: st => !x.res && noRes st
theorem noRes_spec : ∀ {st : St}, noRes st = true → ∀ k, (look st k).res = false
  | [], _, k => rfl
  | (d, x) :: st, h, k => by
    simp only [noRes, Bool.and_eq_true, Bool.not_eq_true'] at h
    simp only [look, upd]
    cases Nat.beq d k
    · exact noRes_spec h.2 k
    · exact h.1
theorem notOwn_res {G : Gh} {k b : Nat} {x : SV} (h : x.res = false) : ¬ zm G k b x := by cases x <;> simp [SV.res, zm] at h ⊢
theorem Holds.mono_slot {w0 w1 : World} {E E' : Nat → Prop} {G G' : Gh} {a : Act} {w w' : World} {k : Nat} {x : SV} (hx : x.res = false) (hle : Le w G.I w' G'.I) (hg : GRel [] G G') (h : Holds w0 E G a w k x) : Holds w1 E' G' a w' k x := by
  cases x <;> simp only [Holds] at h ⊢ <;> first | trivial | exact ⟨h.1, yl.mono hle hg (wU.1 _) h.2⟩ | cases hx
theorem SimG.rebase {C : Cx} {A : Nat → SV} {G : Gh} {a : Act} {w : World} (S : SimG C A G a w) (hD : C.D = []) (hr : ∀ k, (A k).res = false) : SimG (base C.P C.Γ C.N w G) A G a w :=
  ⟨rfl, rfl, rfl, Nat.le_refl _, fun _ _ _ => rfl, Le.refl _ _, fun _ _ => ⟨rfl, .inl ⟨rfl, rfl⟩⟩, S.glob, fun _ _ h => .inl h, S.val, S.nts, S.dfs.trans hD,
    fun k => (S.holds k).mono_slot (hr k) (Le.refl _ _) (GRel.refl _), fun k _ _ _ h _ => notOwn_res (hr k) h⟩
theorem SimG.turned {P : Program} {Γ : List (Nat × AV)} {N : Nat} {A : Nat → SV} {G : Gh} {a : Act} {w w' : World} {I' : Nat → Nat → Prop} (S : SimG (base P Γ N w G) A G a w) (hr : ∀ k, (A k).res = false)
    (hle : Le w G.I w' I') (hv : ValI w' I') : SimG (base P Γ N w' { G with I := I' }) A { G with I := I' } a w' :=
  ⟨rfl, rfl, rfl, Nat.le_refl _, fun _ _ _ => rfl, Le.refl _ _, fun _ _ => ⟨rfl, .inl ⟨rfl, rfl⟩⟩, S.glob.mono hle, fun _ _ h => .inl h, hv, S.nts, S.dfs,
    fun k => (S.holds k).mono_slot (hr k) hle (fun _ _ => ⟨rfl, .inl ⟨rfl, rfl⟩⟩), fun k _ _ _ h _ => notOwn_res (hr k) h⟩
def Grow {ι : Type} (J : ι → (Nat → Nat → Prop) → World → Prop) : Prop :=
  ∀ j I w I' w', J j I w → Below w.heap.size w w' → Le w I w' I' → NewI w I I' → ValI w' I' → J j I' w'
section
variable {ι : Type} {P : Program} {Γ : List (Nat × AV)} {N n : Nat} {J : ι → (Nat → Nat → Prop) → World → Prop}
def AWJ (P : Program) (Γ : List (Nat × AV)) (N n : Nat) (J : ι → (Nat → Nat → Prop) → World → Prop) (c : Code) (st : St) (j : ι) (Q : Exit → St → ι → Prop) : Prop :=
  ∀ a w G, SimG (base P Γ N w G) (look st) G a w → J j G.I w →
    c.wpIn (fen none) n P (fun e a' w' => ∃ st' j' G', Q e st' j' ∧ SimG (base P Γ N w' G') (look st') G' a' w' ∧ J j' G'.I w') a w
def thnJ (K : St → ι → Prop) (Q : Exit → St → ι → Prop) : Exit → St → ι → Prop
  | .normal, st, j => K st j
  | e, st, j => Q e st j
def blkJ (id : Nat) (K : St → ι → Prop) (Q : Exit → St → ι → Prop) : Exit → St → ι → Prop
  | .normal, st, j => K st j
  | .exit i, st, j => if i = id then K st j else Q (.exit i) st j
  | e, st, j => Q e st j
variable {c x y : Code} {st : St} {j : ι} {K : St → ι → Prop} {Q : Exit → St → ι → Prop}
theorem ret_thnJ (h : Q .ret st j) : thnJ K Q .ret st j := h
theorem exit_thnJ {i : Nat} (h : Q (.exit i) st j) : thnJ K Q (.exit i) st j := h
theorem yL (h : K st j) : thnJ K Q .normal st j := h
theorem ret_blkJ {id : Nat} (h : Q .ret st j) : blkJ id K Q .ret st j := h
theorem normal_blkJ {id : Nat} (h : K st j) : blkJ id K Q .normal st j := h
theorem exit_blkJ {id : Nat} (h : K st j) : blkJ id K Q (.exit id) st j := by simp only [blkJ, if_true]; exact h
theorem awj_skip (h : Q .normal st j) : AWJ P Γ N n J .skip st j Q := fun _ _ G S k => wpIn_skip ⟨st, j, G, h, S, k⟩
theorem awj_ret (h : Q .ret st j) : AWJ P Γ N n J .ret st j Q := fun _ _ G S k => wpIn_ret ⟨st, j, G, h, S, k⟩
theorem awj_exit {i : Nat} (h : Q (.exit i) st j) : AWJ P Γ N n J (.exit i) st j Q := fun _ _ G S k => wpIn_exit ⟨st, j, G, h, S, k⟩
theorem xt (h : AWJ P Γ N n J x st j (thnJ (fun st' j' => AWJ P Γ N n J y st' j' Q) Q)) : AWJ P Γ N n J (.seq x y) st j Q := by
  intro a w G S k
  refine wpIn_seq (wpIn_mono (h a w G S k) ?_)
  rintro e a' w' ⟨st', j', G', q, S', k'⟩
  cases e with
  | normal => exact q a' w' G' S' k'
  | exit id => exact ⟨st', j', G', q, S', k'⟩
  | goto l => exact ⟨st', j', G', q, S', k'⟩
  | ret => exact ⟨st', j', G', q, S', k'⟩
  | panic c => exact ⟨st', j', G', q, S', k'⟩
  | outgrown => exact ⟨st', j', G', q, S', k'⟩
theorem awj_block {id : Nat} (h : AWJ P Γ N n J c st j (blkJ id (fun st' j' => Q .normal st' j') Q)) : AWJ P Γ N n J (.block id c) st j Q := by
  intro a w G S k
  refine wpIn_block (wpIn_mono (h a w G S k) ?_)
  rintro e a' w' ⟨st', j', G', q, S', k'⟩
  cases e with
  | normal => exact ⟨st', j', G', q, S', k'⟩
  | exit i =>
    simp only [blkJ] at q
    simp only [Exit.inBlock]
    split
    · rename_i hi; rw [if_pos hi] at q; exact ⟨st', j', G', q, S', k'⟩
    · rename_i hi; rw [if_neg hi] at q; exact ⟨st', j', G', q, S', k'⟩
  | goto l => exact ⟨st', j', G', q, S', k'⟩
  | ret => exact ⟨st', j', G', q, S', k'⟩
  | panic c => exact ⟨st', j', G', q, S', k'⟩
  | outgrown => exact ⟨st', j', G', q, S', k'⟩
theorem awj_cond {t : Nat} {b : Bool} (hc : look st t = .imm (.v (.bool b))) (ht : b = true → AWJ P Γ N n J x st j Q) (hf : b = false → AWJ P Γ N n J y st j Q) : AWJ P Γ N n J (.cond (.tmp t) x y) st j Q := by
  intro a w G S k
  have hev : a.eval (.tmp t) = .bool b := rep_bool (S.imm hc)
  exact wpIn_cond_split hev (fun h => ht h a w G S k) (fun h => hf h a w G S k)
theorem awj_cond_true {t : Nat} (hc : look st t = .imm (.v (.bool true))) (h : AWJ P Γ N n J x st j Q) : AWJ P Γ N n J (.cond (.tmp t) x y) st j Q := awj_cond hc (fun _ => h) (fun h => by cases h)
theorem awj_cond_false {t : Nat} (hc : look st t = .imm (.v (.bool false))) (h : AWJ P Γ N n J y st j Q) : AWJ P Γ N n J (.cond (.tmp t) x y) st j Q := awj_cond hc (fun h => by cases h) (fun _ => h)
theorem awj_loop' {κ : Type} (Inv : κ → St) (jx : κ → ι) (ok : κ → Prop) (μ : κ → Nat) (i0 : κ) (hj : j = jx i0) (ok0 : ok i0) (h0 : sub st (Inv i0))
    (round : ∀ i, ok i → AWJ P Γ N n J c (Inv i) (jx i) (thnJ (fun st' j' => ∃ i', ok i' ∧ sub st' (Inv i') ∧ j' = jx i' ∧ μ i' < μ i) Q)) : AWJ P Γ N n J (.loop c) st j Q := by
  intro a w G S k
  refine wpIn_loop_ghost (fun m a w => ∃ i G, μ i = m ∧ ok i ∧ SimG (base P Γ N w G) (look (Inv i)) G a w ∧ J (jx i) G.I w) (μ i0) ⟨i0, G, rfl, ok0, S.weak (sub_spec h0), hj ▸ k⟩ ?_
  rintro m a w ⟨i, G, rfl, hok, S, k⟩
  refine wpIn_mono (round i hok a w G S k) ?_
  rintro e a' w' ⟨st', j', G', q, S', k'⟩
  cases e with
  | normal =>
    obtain ⟨i', hok', hs, rfl, hlt⟩ := q
    exact ⟨μ i', hlt, i', G', rfl, hok', S'.weak (sub_spec hs), k'⟩
  | exit id => exact ⟨st', j', G', q, S', k'⟩
  | goto l => exact ⟨st', j', G', q, S', k'⟩
  | ret => exact ⟨st', j', G', q, S', k'⟩
  | panic c => exact ⟨st', j', G', q, S', k'⟩
  | outgrown => exact ⟨st', j', G', q, S', k'⟩
theorem awj_of_aw (hJ : Grow J) (h : ∀ w G, AW (base P Γ N w G) c st (fun e st' => noRes st' = true ∧ Q e st' j)) : AWJ P Γ N n J c st j Q := by
  intro a w G S k
  refine wpIn_mono (h w G a w ⟨G, S⟩ n) ?_
  rintro e a' w' ⟨st', ⟨hn, q⟩, G', S'⟩
  refine ⟨st', j, G', q, S'.rebase rfl (noRes_spec hn), hJ _ _ _ _ _ k ⟨S'.os, S'.tape, S'.output, S'.size, fun k hk => S'.block k hk (fun h => h)⟩ S'.sub (fun b o hi => ?_) S'.val⟩
  rcases S'.new b o hi with h | h | h
  · exact .inl h
  · exact .inr h
  · exact h.elim
theorem y5 (hJ : Grow J) {id : Nat} {ops : Array Oper} (h : ∀ w0 G0, Go1 (base P Γ N w0 G0) ops ops.toList st [] (fun st' _ => noRes st' = true ∧ Q .normal st' j)) (hnd : noDef ops.toList = true := by rfl) : AWJ P Γ N n J (.region id ops false) st j Q :=
  awj_of_aw hJ fun w G => zB (h w G) hnd
theorem Go1.mono {C : Cx} {ops : Array Oper} {K K' : St → List Tr → Prop} (hK : ∀ st tr, K st tr → K' st tr) : ∀ {os : List Oper} {st : St} {tr : List Tr}, Go1 C ops os st tr K → Go1 C ops os st tr K'
  | [], _, _, h => hK _ _ h
  | _ :: _, _, _, ⟨t, h1, h2, h3⟩ => ⟨t, h1, h2, Go1.mono hK h3⟩
def GoJ (P : Program) (Γ : List (Nat × AV)) (N n : Nat) (J : ι → (Nat → Nat → Prop) → World → Prop) (ops : Array Oper) (os : List Oper) (st : St) (j : ι) (Q : Exit → St → ι → Prop) : Prop :=
  ∀ k a w G, (∀ i, os[i]? = ops[k + i]?) → SimG (base P Γ N w G) (look st) G a w → J j G.I w →
    wpOpsIn (fen none) n P ops (fun e a' w' => ∃ st' j' G', Q e st' j' ∧ SimG (base P Γ N w' G') (look st') G' a' w' ∧ J j' G'.I w') (List.range' k os.length) a w
theorem awj_regionJ {id : Nat} {ops : Array Oper} (h : GoJ P Γ N n J ops ops.toList st j Q) : AWJ P Γ N n J (.region id ops false) st j Q := by
  intro a w G S k
  refine wpIn_region ?_
  have := h 0 a w G (by simp) S k
  simpa [List.range_eq_range'] using this
theorem goj_nil {ops : Array Oper} (h : Q .normal st j) : GoJ P Γ N n J ops [] st j Q := by
  intro k a w G _ S hk
  simp only [List.length_nil, List.range'_zero, wpOpsIn]
  exact ⟨st, j, G, h, S, hk⟩
theorem wpOps_front {C : Cx} {ops : Array Oper} {n : Nat} {Q : Exit → Act → World → Prop} (hnd : noDef ops.toList = true) : ∀ (os : List Oper) (k : Nat) (A : Nat → SV) (tr : List Tr) (a : Act) (w : World) (rest : List Nat),
    (∀ j, j < os.length → os[j]? = ops[k + j]?) → Run C ops os A tr → Sim C A a w → (∀ a w, Sim C (fin tr A) a w → wpOpsIn (fen C.R) n C.P ops Q rest a w) →
    wpOpsIn (fen C.R) n C.P ops Q (List.range' k os.length ++ rest) a w
  | [], k, A, [], a, w, _, _, _, S, hQ => by simpa using hQ a w S
  | [], _, _, _ :: _, _, _, _, _, h, _, _ => h.elim
  | _ :: _, _, _, [], _, _, _, _, h, _, _ => h.elim
  | o :: os, k, A, t :: ts, a, w, rest, hl, h, S, hQ => by
    have h0 : ops[k]? = some o := by simpa using (hl 0 (by simp)).symm
    obtain ⟨h1, h2, h3⟩ := h
    have h4 := h1 A a w (fun _ _ => rfl) (fun k _ => h2 k) S
    simp only [List.length_cons, List.range'_succ, List.cons_append, wpOpsIn, h0]
    have hl' : ∀ j, j < os.length → os[j]? = ops[k + 1 + j]? := fun j hj => by have := hl (j + 1) (by simpa using hj); simpa [Nat.add_assoc, Nat.add_comm 1 j] using this
    split
    · rename_i hw
      simp only [hw, if_true] at h4
      refine Oper.wpIn_of_wp (noDef_get hnd h0) (wpOps_run.Oper.wp_mono' ?_ ?_ h4)
      · intro a' w' S'
        exact wpOps_front hnd os (k + 1) _ ts a' w' rest hl' h3 S' hQ
      · exact fun _ _ _ h => h.elim
    · rename_i hw
      simp only [hw] at h4
      exact ⟨fun _ _ => trivial, wpOps_front hnd os (k + 1) _ ts _ w rest hl' h3 h4 hQ⟩
theorem goj_run (hJ : Grow J) {ops : Array Oper} {os os1 os2 : List Oper} (hs : os = os1 ++ os2) (hnd : noDef ops.toList = true)
    (h : ∀ w0 G0, Go1 (base P Γ N w0 G0) ops os1 st [] (fun st' _ => noRes st' = true ∧ GoJ P Γ N n J ops os2 st' j Q)) : GoJ P Γ N n J ops os st j Q := by
  subst hs
  intro k a w G hi S hk
  obtain ⟨tr, st', r, f, ⟨hn, q⟩, _⟩ := Go1.sound _ _ _ _ (h w G)
  have e : List.range' k (os1 ++ os2).length = List.range' k os1.length ++ List.range' (k + os1.length) os2.length := by
    rw [List.length_append]; exact (List.range'_append_1 ..).symm
  rw [e]
  refine wpOps_front (C := base P Γ N w G) hnd os1 k (look st) tr a w _ (fun i h => ?_) r ⟨G, S⟩ (fun a' w' S' => ?_)
  · have := hi i
    rw [List.getElem?_append_left h] at this; exact this
  · obtain ⟨G', S'⟩ := S'
    rw [f] at S'
    refine q (k + os1.length) a' w' G' (fun i => ?_) (S'.rebase rfl (noRes_spec hn)) (hJ _ _ _ _ _ hk ⟨S'.os, S'.tape, S'.output, S'.size, fun k hk => S'.block k hk (fun h => h)⟩ S'.sub (fun b o hi => ?_) S'.val)
    · have := hi (os1.length + i)
      rw [List.getElem?_append_right (by omega), Nat.add_sub_cancel_left] at this
      rw [this, Nat.add_assoc]
    · rcases S'.new b o hi with h | h | h
      · exact .inl h
      · exact .inr h
      · exact h.elim
theorem goj_take (m : Nat) (hJ : Grow J) {ops : Array Oper} {os : List Oper} (hnd : noDef ops.toList = true)
    (h : ∀ w0 G0, Go1 (base P Γ N w0 G0) ops (os.take m) st [] (fun st' _ => noRes st' = true ∧ GoJ P Γ N n J ops (os.drop m) st' j Q)) : GoJ P Γ N n J ops os st j Q :=
  goj_run hJ (List.take_append_drop m os).symm hnd h
theorem goj_end (hJ : Grow J) {ops : Array Oper} {os : List Oper} (hnd : noDef ops.toList = true)
    (h : ∀ w0 G0, Go1 (base P Γ N w0 G0) ops os st [] (fun st' _ => noRes st' = true ∧ Q .normal st' j)) : GoJ P Γ N n J ops os st j Q :=
  goj_run hJ (List.append_nil os).symm hnd (fun w0 G0 => by
    refine Go1.mono ?_ (h w0 G0)
    rintro st' tr ⟨h1, h2⟩
    exact ⟨h1, goj_nil h2⟩)
def YPost (J : ι → (Nat → Nat → Prop) → World → Prop) (I : Nat → Nat → Prop) (w : World) (jt jf : ι) (e : Ending) (w' : World) : Prop :=
  ∃ (b : Bool) (I' : Nat → Nat → Prop), e = .returned (.bool b) ∧ Le w I w' I' ∧ ValI w' I' ∧ J (if b then jt else jf) I' w'
theorem goj_yield {ops : Array Oper} {os : List Oper} {d l : Nat} {cal : Operand} {args : Array Operand} {ats : Array TypeId} {ty : TypeId} {pos : String} {af : Array Edge} {xs : List AV} {jt jf : ι} (hN : Nat.blt d N = true)
    (hr : noRes st = true) (hf : opV (look st) cal = some (.v (.func (.yield l) #[] #[]))) (hx : opVs (look st) args.toList = some xs)
    (hy : ∀ I w vs, J j I w → yD w I xs vs → YieldAt (fen none) (n - 1) P l (List.toArray vs) w (YPost J I w jt jf))
    (h : ∀ b : Bool, GoJ P Γ N n J ops os ((d, .imm (.v (.bool b))) :: st) (if b then jt else jf) Q) :
    GoJ P Γ N n J ops (⟨some d, .call { callee := .value cal, args := args, argTypes := ats }, ty, pos, af, none⟩ :: os) st j Q := by
  intro k a w G hi S hk
  have h0 := (hi 0).symm
  simp only [List.getElem?_cons_zero, Nat.add_zero] at h0
  simp only [List.length_cons, List.range'_succ, wpOpsIn, h0]
  have hw : Region.wanted (⟨some d, .call { callee := .value cal, args := args, argTypes := ats }, ty, pos, af, none⟩ : Oper) (yielded ops a.tmps) = true := rfl
  simp only [hw, if_true]
  obtain ⟨c, h1, h2⟩ := S.opV hf
  simp only [RepC] at h1
  have hev : a.eval cal = .func (.yield l) #[] #[] := by
    rw [h2, h1.1]; rfl
  obtain ⟨fn, tmps, assign, body, hrun, hround⟩ := hy G.I w _ hk (S.opVs hx)
  refine ⟨fun _ _ => trivial, ?_⟩
  have hsem : (Oper.semAt (fen none).round a.eval (⟨some d, .call { callee := .value cal, args := args, argTypes := ats }, ty, pos, af, none⟩ : Oper)).run P w = .ok (.round l fn tmps assign body) w := by
    rw [Oper.semAt_eq _ _ _ (by intro c hc; cases hc)]
    simp only [execOp, resolve, hev, Deferred.ofValue, Sem.run_bind, Sem.run_pure, Result.andThen_ok, invoke]
    have e : (#[] ++ Array.map a.eval args : Array Value) = List.toArray (args.toList.map a.eval) := by
      rw [Array.empty_append]
      apply Array.ext'
      simp
    rw [e]; exact hrun
  rw [hsem, Oper.uponIn_round]
  refine ⟨fun h => by simp [fen, Fence.wide] at h, hround.mono ?_⟩
  rintro e w' ⟨b, I', rfl, hle, hv, hj⟩
  have S' := (SimG.turned S (noRes_spec hr) hle hv).put (d := d) (by simpa [Nat.blt_eq, base] using hN) (x := .imm (.v (.bool b))) (v := .bool b) (zt.2 ⟨[.bool b], by simp [RepC, Value.cells, plain], rfl⟩)
  refine h b (k + 1) _ w' { G with I := I' } (fun i => ?_) ?_ hj
  · have := hi (i + 1)
    simpa [Nat.add_assoc, Nat.add_comm 1 i] using this
  · exact S'
end
def SeqC (P : Program) (Γ : List (Nat × AV)) (f : FuncId) (caps : List AV) (L : List (List AV)) : Prop :=
  callable P f = true ∧ ∀ n l (J : Option Nat → (Nat → Nat → Prop) → World → Prop) w I lb, Grow J → ValI w I → Glob Γ w I → yD w I caps lb →
    (∀ i xs I w vs, L[i]? = some xs → J (some i) I w → yD w I xs vs → YieldAt (fen none) (n - 1) P l (List.toArray vs) w (YPost J I w (some (i + 1)) none)) →
    J (some 0) I w →
    CallsIn (fen none) n P f (#[.func (.yield l) #[] #[]] ++ List.toArray lb) w (fun e w' => ∃ v I', e = .returned v ∧ (J (some L.length) I' w' ∨ J none I' w'))
theorem seqc_of {P : Program} {Γ : List (Nat × AV)} {f : FuncId} {fn : Func} {c : Code} {N : Nat} {caps : List AV} {L : List (List AV)} (hf : P.funcs[f]? = some fn) (hb : fn.body = some c) (hnt : fn.ntmps = N) (hcal : callable P f = true)
    (hres : fn.results = #[]) (hN : Nat.ble (caps.length + 1) N = true)
    (h : ∀ n l (J : Option Nat → (Nat → Nat → Prop) → World → Prop), Grow J →
      (∀ i xs I w vs, L[i]? = some xs → J (some i) I w → yD w I xs vs → YieldAt (fen none) (n - 1) P l (List.toArray vs) w (YPost J I w (some (i + 1)) none)) →
      AWJ P Γ N n J c (params 0 (.v (.func (.yield l) #[] #[]) :: caps)) (some 0) (fun e _ j => (e = .normal ∨ e = .ret) ∧ (j = some L.length ∨ j = none))) : SeqC P Γ f caps L := by
  refine ⟨hcal, fun n l J w I lb hJ hv hgl hr hy h0 => ?_⟩
  refine callsIn_of_wp hf hb trivial ?_
  rw [hnt]
  have hrep : yD w I (.v (.func (.yield l) #[] #[]) :: caps) (.func (.yield l) #[] #[] :: lb) := by
    simp only [yD]
    exact ⟨[.func (.yield l) #[] #[]], lb, rfl, by simp [RepC, Value.cells, plain], hr⟩
  have S0 := start_simG (P := P) (Γ := Γ) (N := N) (K := 100000) hv hgl hrep (by simpa using Nat.le_of_ble_eq_true hN)
  have e : (#[.func (.yield l) #[] #[]] ++ List.toArray lb : Array Value) = List.toArray (.func (.yield l) #[] #[] :: lb) := by simp
  rw [e]
  refine wpIn_mono (h n l J hJ hy _ w (gh0 I) S0 h0) ?_
  rintro e a' w' ⟨st', j', G', ⟨he, hj⟩, S', k'⟩
  have fin : a'.defers = [] ∧ ∃ v, (results fn a'.tmps).run P w' = .ok v w' ∧ ∃ v' I', Ending.returned v = .returned v' ∧ (J (some L.length) I' w' ∨ J none I' w') := by
    refine ⟨S'.dfs, .tuple #[], ?_, _, G'.I, rfl, ?_⟩
    · unfold results; rw [hres]; simp
    · rcases hj with rfl | rfl
      · exact .inl k'
      · exact .inr k'
  rcases he with rfl | rfl <;> exact fin
end Go.Al
namespace Go.Al
open Go.RowKit
theorem Holds.kind {w0 : World} {E : Nat → Prop} {G : Gh} {a : Act} {w : World} {k b : Nat} {x : SV} (r : Holds w0 E G a w k x) (h : zm G k b x) {o : Obj} (ho : w.heap[b]? = some o) : isBook o = false := by
  cases x <;> simp only [zm] at h <;> simp only [Holds] at r
  case box T x =>
    obtain ⟨_, ⟨cs, fr, h1, _⟩, _⟩ := r
    rw [h, ho] at h1; cases h1; rfl
  case mpr ks vs =>
    obtain ⟨_, ⟨es, h1, _⟩, _⟩ := r
    rw [h, ho] at h1; cases h1; rfl
  case gen R => exact R.kind _ _ _ _ r.2 h ho
  case row l =>
    obtain ⟨ad, n', c, h1, h2⟩ := h
    rcases r.2 with ⟨e, _⟩ | ⟨b', cap, e, _, _, _, ⟨cs, T, h5, _⟩, _⟩
    · rw [e] at h1; cases h1
    · rw [e] at h1; cases h1; rw [← h2, h5] at ho; cases ho; rfl
  case itr m n s =>
    have h1 := r.2.1
    rw [h, ho] at h1; cases h1; rfl
  case tok n l =>
    obtain ⟨ad, n', c, h1, h2⟩ := h
    rcases r.2 with ⟨e, _⟩ | ⟨b', cap, e, _, _, _, _, ⟨cs, T, fr, h5, _⟩, _⟩
    · rw [e] at h1; cases h1
    · rw [e] at h1; cases h1; rw [← h2, h5] at ho; cases ho; rfl
theorem cell_book {w : World} {d : Nat} {o : Obj} (h : w.heap[d]? = some o) (ho : isBook o = true) (n : Nat) : w.cell? ⟨d, n, none⟩ = none := by
  unfold World.cell?
  cases o <;> simp_all [isBook]
theorem putObj_size (w : World) (d : Nat) (o : Obj) : (w.putObj d o).heap.size = w.heap.size := by simp [World.putObj]
theorem SimG.book {C : Cx} {A : Nat → SV} {G : Gh} {a : Act} {w : World} (S : SimG C A G a w) {d : Nat} {o o' : Obj} (h : w.heap[d]? = some o) (ho : isBook o = true) (ho' : isBook o' = true) (hd : C.w0.heap.size ≤ d ∨ C.E d) :
    SimG C A G a (w.putObj d o') := by
  have hlt : d < w.heap.size := (Array.getElem?_eq_some_iff.1 h).1
  have hsame : (w.putObj d o').heap[d]? = some o' := World.putObj_heap_same hlt
  have hoth : ∀ k, k ≠ d → (w.putObj d o').heap[k]? = w.heap[k]? := fun k hk => World.putObj_heap_other hk
  have hle : Le w G.I (w.putObj d o') G.I := by
    intro b n hi
    refine ⟨hi, ?_⟩
    by_cases e : b = d
    · subst e
      refine ⟨by rw [cell_book hsame ho', cell_book h ho], fun es ck h1 => ?_⟩
      rw [h] at h1; cases h1; cases ho
    · exact yO (hoth b e)
  refine ⟨S.os, S.tape, S.output, by rw [putObj_size]; exact S.size, fun k h1 h2 => ?_, S.sub.trans hle, S.rel, S.glob.mono hle, S.new, fun b o h => by rw [putObj_size]; exact S.val b o h, S.nts, S.dfs, fun k => ?_, S.apart⟩
  · have : k ≠ d := by
      rintro rfl
      rcases hd with hd | hd
      · omega
      · exact h2 hd
    rw [hoth k this]; exact S.block k h1 h2
  · refine (S.holds k).keep (Gs := []) hle (fun _ _ => ⟨rfl, .inl ⟨rfl, rfl⟩⟩) (wU.1 _) (by rw [putObj_size]; exact Nat.le_refl _) (fun h => ⟨h, rfl⟩) (fun _ => ⟨rfl, rfl, rfl⟩) (fun b hbk => ?_)
    have hne : b ≠ d := by
      rintro rfl
      have := (S.holds k).kind hbk h
      rw [ho] at this; cases this
    exact ⟨hoth b hne, fun _ hi => hi⟩
theorem SimG.newBook {C : Cx} {A : Nat → SV} {G : Gh} {a : Act} {w : World} (S : SimG C A G a w) (o : Obj) : SimG C A G a (w.alloc o) := by
  have hb : Below w.heap.size w (w.alloc o) := (Below.refl _ w).alloc (Nat.le_refl _) _
  have hle : Le w G.I (w.alloc o) G.I := fun b n hi => ⟨hi, yO (hb.block b (S.val b n hi))⟩
  exact S.called hb hle (fun _ _ h => .inl h) (fun b n hi => by have := S.val b n hi; simp; omega)
def own (A : Nat → SV) (G : Gh) (b : Nat) : Prop := ∃ k, zm G k b (A k)
theorem SimG.switch {C : Cx} {A : Nat → SV} {G : Gh} {a : Act} {w : World} (S : SimG C A G a w) (K : Nat) : SimG ⟨C.P, w, G.I, own A G, C.N, K, G, C.Γ, C.D, C.R⟩ A G a w := by
  refine ⟨rfl, rfl, rfl, Nat.le_refl _, fun _ _ _ => rfl, Le.refl _ _, fun _ _ => ⟨rfl, .inl ⟨rfl, rfl⟩⟩, S.glob, fun _ _ h => .inl h, S.val, S.nts, S.dfs, fun k => ?_, S.apart⟩
  cases hr : (A k).res
  · exact (S.holds k).mono_slot hr (Le.refl _ _) (GRel.refl _)
  · exact (S.holds k).reown hr (fun b h1 _ _ => .inr ⟨k, h1⟩)
theorem SimG.back {C : Cx} {A A' : Nat → SV} {G G' : Gh} {a a' : Act} {w w' : World} (S : SimG C A G a w) {K : Nat} {D : List Deferred} {R : Option Nat} (hK : K ≤ C.K)
    (S' : SimG ⟨C.P, w, G.I, own A G, C.N, K, G, C.Γ, D, R⟩ A' G' a' w') : SimG ⟨C.P, C.w0, C.I0, C.E, C.N, C.K, C.G0, C.Γ, D, R⟩ A' G' a' w' := by
  have hown : ∀ b, own A G b → C.w0.heap.size ≤ b ∨ C.E b := fun b ⟨k, hk⟩ => ((S.holds k).owned hk).1
  have hsz : w.heap.size ≤ w'.heap.size := S'.size
  refine ⟨S'.os.trans S.os, S'.tape.trans S.tape, S'.output.trans S.output, Nat.le_trans S.size hsz, fun k h1 h2 => ?_, S.sub.trans S'.sub, fun g hg => (S.rel g hg).trans (S'.rel g (Nat.le_trans hK hg)), S'.glob, fun b o hi => ?_, S'.val, S'.nts, S'.dfs, fun k => ?_, S'.apart⟩
  · have hno : ¬ own A G k := by
      intro ho
      rcases hown k ho with h | h
      · exact absurd h1 (by show ¬ k < C.w0.heap.size; omega)
      · exact h2 h
    exact (S'.block k (Nat.lt_of_lt_of_le h1 S.size) hno).trans (S.block k h1 h2)
  · rcases S'.new b o hi with h | h | h
    · exact S.new b o h
    · exact .inr (.inl (Nat.le_trans S.size h))
    · exact .inr (hown b h)
  · cases hr : (A' k).res
    · exact (S'.holds k).mono_slot hr (Le.refl _ _) (GRel.refl _)
    · exact (S'.holds k).reown hr (fun b _ _ h => by
        rcases h with h | h
        · exact .inl (Nat.le_trans S.size h)
        · exact hown b h)
theorem SimG.redefer {P : Program} {w0 : World} {I0 : Nat → Nat → Prop} {E : Nat → Prop} {N K : Nat} {G0 : Gh} {Γ : List (Nat × AV)} {D : List Deferred} {R : Option Nat} {A : Nat → SV} {G : Gh} {a : Act} {w : World}
    (S : SimG ⟨P, w0, I0, E, N, K, G0, Γ, D, R⟩ A G a w) (D' : List Deferred) (R' : Option Nat) : SimG ⟨P, w0, I0, E, N, K, G0, Γ, D', R'⟩ A G { tmps := a.tmps, defers := D' } w := by
  refine ⟨S.os, S.tape, S.output, S.size, S.block, S.sub, S.rel, S.glob, S.new, S.val, S.nts, rfl, fun k => ?_, S.apart⟩
  have h := S.holds k
  generalize A k = x at h
  cases x <;> simp only [Holds] at h ⊢ <;> exact h
def mark (d : Nat) : Deferred := { target := .collected d, args := #[] }
structure Sw (C : Cx) (w1 : World) (I1 : Nat → Nat → Prop) (E1 : Nat → Prop) (G1 : Gh) (Ds : List Nat) : Prop where
  os : w1.os = C.w0.os
  tape : w1.tape = C.w0.tape
  output : w1.output = C.w0.output
  size : C.w0.heap.size ≤ w1.heap.size
  block : ∀ k, k < C.w0.heap.size → ¬ C.E k → w1.heap[k]? = C.w0.heap[k]?
  own : ∀ b, (w1.heap.size ≤ b ∨ E1 b) → C.w0.heap.size ≤ b ∨ C.E b
  sub : Le C.w0 C.I0 w1 I1
  rel : ∀ g, C.K ≤ g → Turns C.G0 G1 g
  new : ∀ b o, I1 b o → C.I0 b o ∨ C.w0.heap.size ≤ b ∨ C.E b
  marks : ∀ d ∈ Ds, d < w1.heap.size ∧ ¬ E1 d ∧ C.w0.heap.size ≤ d ∧ w1.heap[d]? = some (.deferred (some []))
  nodup : Ds.Nodup
def upC (C : Cx) (w1 : World) (I1 : Nat → Nat → Prop) (E1 : Nat → Prop) (G1 : Gh) (D1 : List Deferred) : Cx := ⟨C.P, w1, I1, E1, C.N, C.K, G1, C.Γ, D1, C.R⟩
def SimX (C : Cx) (A : Nat → SV) (a : Act) (w : World) : Prop := ∃ w1 I1 E1 G1 Ds, Sw C w1 I1 E1 G1 Ds ∧ Sim (upC C w1 I1 E1 G1 (Ds.map mark)) A a w
theorem Sw.start (C : Cx) : Sw C C.w0 C.I0 C.E C.G0 [] :=
  ⟨rfl, rfl, rfl, Nat.le_refl _, fun _ _ _ => rfl, fun _ h => h, Le.refl _ _, fun _ _ => ⟨rfl, .inl ⟨rfl, rfl⟩⟩, fun _ _ h => .inl h, fun d h => (by cases h), List.nodup_nil⟩
theorem Sw.back {C : Cx} {w1 : World} {I1 : Nat → Nat → Prop} {E1 : Nat → Prop} {G1 : Gh} {Ds : List Nat} (h : Sw C w1 I1 E1 G1 Ds) {D1 : List Deferred} {A : Nat → SV} {G : Gh} {a : Act} {w : World} (S : SimG (upC C w1 I1 E1 G1 D1) A G a w) :
    SimG ⟨C.P, C.w0, C.I0, C.E, C.N, C.K, C.G0, C.Γ, D1, C.R⟩ A G a w := by
  refine ⟨S.os.trans h.os, S.tape.trans h.tape, S.output.trans h.output, Nat.le_trans h.size S.size, fun k h1 h2 => ?_, h.sub.trans S.sub, fun g hg => (h.rel g hg).trans (S.rel g hg), S.glob, fun b o hi => ?_, S.val, S.nts, S.dfs, fun k => ?_, S.apart⟩
  · have hno : ¬ E1 k := by
      intro ho
      rcases h.own k (.inr ho) with h3 | h3
      · exact absurd h1 (by show ¬ k < C.w0.heap.size; omega)
      · exact h2 h3
    exact (S.block k (Nat.lt_of_lt_of_le h1 h.size) hno).trans (h.block k h1 h2)
  · rcases S.new b o hi with h3 | h3 | h3
    · exact h.new b o h3
    · exact .inr (h.own b (.inl h3))
    · exact .inr (h.own b (.inr h3))
  · cases hr : (A k).res
    · exact (S.holds k).mono_slot hr (Le.refl _ _) (GRel.refl _)
    · exact (S.holds k).reown hr (fun b _ _ h3 => h.own b h3)
theorem Sw.mark_at {C : Cx} {w1 : World} {I1 : Nat → Nat → Prop} {E1 : Nat → Prop} {G1 : Gh} {Ds : List Nat} (h : Sw C w1 I1 E1 G1 Ds) {D1 : List Deferred} {A : Nat → SV} {G : Gh} {a : Act} {w : World} (S : SimG (upC C w1 I1 E1 G1 D1) A G a w) :
    ∀ d ∈ Ds, w.heap[d]? = some (.deferred (some [])) ∧ C.w0.heap.size ≤ d ∧ d < w1.heap.size := by
  intro d hd
  obtain ⟨h1, h2, h3, h4⟩ := h.marks d hd
  exact ⟨(S.block d h1 h2).trans h4, h3, h1⟩
def FW (C : Cx) (c : Code) (st : St) (Q : Exit → St → Prop) : Prop :=
  ∀ a w, SimX C (look st) a w → ∀ n, c.wpIn (fen C.R) n C.P (fun e a' w' => ∃ st', Q e st' ∧ SimX C (look st') a' w') a w
theorem fw_aw {P : Program} {w0 : World} {I0 : Nat → Nat → Prop} {E : Nat → Prop} {N : Nat} {G0 : Gh} {Γ : List (Nat × AV)} {c : Code} {st : St} {Q : Exit → St → Prop}
    (h : ∀ w1 I1 E1 G1 D1, AW ⟨P, w1, I1, E1, N, 100000, G1, Γ, D1, none⟩ c st Q) : FW ⟨P, w0, I0, E, N, 100000, G0, Γ, [], none⟩ c st Q := by
  rintro a w ⟨w1, I1, E1, G1, Ds, sw, S⟩ n
  refine wpIn_mono (h w1 I1 E1 G1 _ a w S n) ?_
  rintro e a' w' ⟨st', q, S'⟩
  exact ⟨st', q, w1, I1, E1, G1, Ds, sw, S'⟩
theorem fw_seq {C : Cx} {x y : Code} {st : St} {Q : Exit → St → Prop} (h : FW C x st (thn (fun st' => FW C y st' Q) Q)) : FW C (.seq x y) st Q := by
  intro a w S n
  refine wpIn_seq (wpIn_mono (h a w S n) ?_)
  rintro e a' w' ⟨st', q, S'⟩
  cases e with
  | normal => exact q a' w' S' n
  | exit id => exact ⟨st', q, S'⟩
  | goto l => exact ⟨st', q, S'⟩
  | ret => exact ⟨st', q, S'⟩
  | panic c => exact ⟨st', q, S'⟩
  | outgrown => exact ⟨st', q, S'⟩
theorem fw_block {C : Cx} {id : Nat} {c : Code} {st : St} {Q : Exit → St → Prop} (h : FW C c st (blk id (fun st' => Q .normal st') Q)) : FW C (.block id c) st Q := by
  intro a w S n
  refine wpIn_block (wpIn_mono (h a w S n) ?_)
  rintro e a' w' ⟨st', q, S'⟩
  cases e with
  | normal => exact ⟨st', q, S'⟩
  | exit i =>
    simp only [blk] at q
    simp only [Exit.inBlock]
    split
    · rename_i hi; rw [if_pos hi] at q; exact ⟨st', q, S'⟩
    · rename_i hi; rw [if_neg hi] at q; exact ⟨st', q, S'⟩
  | goto l => exact ⟨st', q, S'⟩
  | ret => exact ⟨st', q, S'⟩
  | panic c => exact ⟨st', q, S'⟩
  | outgrown => exact ⟨st', q, S'⟩
theorem leaves_of {P : Program} {w : World} {I : Nat → Nat → Prop} {N K : Nat} {G0 : Gh} {Γ : List (Nat × AV)} {D : List Deferred} {R : Option Nat} {st : St} {G : Gh} {a : Act} {w' : World} {fn : Func} {rs : List AV}
    (S : SimG ⟨P, w, I, fun _ => False, N, K, G0, Γ, D, R⟩ (look st) G a w') (q : retAll P st fn.results.toList rs) : ∃ v, (results fn a.tmps).run P w' = .ok v w' ∧ Leaves w I rs (.returned v) w' := by
  obtain ⟨vs, h1, h2⟩ := ret_run S _ _ q
  have hb : Below w.heap.size w w' := ⟨S.os, S.tape, S.output, S.size, fun k hk => S.block k hk (fun h => h)⟩
  have hni : NewI w I G.I := fun b o hi => by
    rcases S.new b o hi with h | h | h
    · exact .inl h
    · exact .inr h
    · exact h.elim
  have hrun : (results fn a.tmps).run P w' = .ok (if h : vs.length = 1 then vs[0] else .tuple (List.toArray vs)) w' := by
    have e : results fn a.tmps = (do let vs ← fn.results.mapM (rvSem a.tmps); pure (if h : vs.size = 1 then vs[0] else .tuple vs)) := by
      unfold results
      congr 1
    rw [e, Array.mapM_eq_mapM_toList]
    simp only [Sem.run_bind, Sem.run_map, h1, Result.andThen_ok, Sem.run_pure]
    simp
  refine ⟨_, hrun, _, G.I, rfl, hb, S.sub, hni, S.val, ?_⟩
  have hlen := vD h2
  unfold resV
  split
  · rename_i r
    simp at hlen
    rw [dif_pos hlen]
    obtain ⟨v, h3, h4⟩ := repVs_get (j := 0) h2 rfl
    have : vs[0] = v := by rw [List.getElem?_eq_getElem (by omega)] at h3; exact Option.some.inj h3
    rw [this]; exact h4
  · rename_i h0
    have : ¬ vs.length = 1 := by
      intro h1
      rw [h1] at hlen
      match rs, hlen with
      | [r], _ => exact h0 r rfl
    rw [dif_neg this]
    exact ⟨vs, rfl, h2⟩
theorem leavesM {P : Program} {w : World} {I : Nat → Nat → Prop} {N K : Nat} {G0 : Gh} {Γ : List (Nat × AV)} {D : List Deferred} {R : Option Nat} {st : St} {G : Gh} {a : Act} {fn : Func} {rs : List AV} {n : Nat} (q : retAll P st fn.results.toList rs) :
    ∀ (Ds : List Nat) (w' : World), Ds.Nodup → (∀ d ∈ Ds, w'.heap[d]? = some (.deferred (some [])) ∧ w.heap.size ≤ d) → SimG ⟨P, w, I, fun _ => False, N, K, G0, Γ, D, R⟩ (look st) G a w' →
    LeavesInM Fence.wide n P fn a.tmps (Leaves w I rs) (Ds.map mark) .returning w'
  | [], w', _, _, S => leaves_of S q
  | d :: Ds, w', hn, hm, S => by
    obtain ⟨h1, h2⟩ := hm d List.mem_cons_self
    refine ⟨by simp, .inl ⟨d, _, rfl, run_takeDeferred h1, ?_⟩⟩
    rw [List.nodup_cons] at hn
    refine leavesM q Ds _ hn.2 (fun d' hd' => ?_) (S.book h1 rfl rfl (.inl h2))
    obtain ⟨h3, h4⟩ := hm d' (List.mem_cons_of_mem _ hd')
    have : d' ≠ d := by rintro rfl; exact hn.1 hd'
    exact ⟨(World.putObj_heap_other this).trans h3, h4⟩
theorem pcall_of_fw {P : Program} {Γ : List (Nat × AV)} {f : FuncId} {fn : Func} {c : Code} {N : Nat} {xs rs : List AV} (hf : P.funcs[f]? = some fn) (hb : fn.body = some c) (hnt : fn.ntmps = N) (hcal : callable P f = true)
    (hN : Nat.ble xs.length N = true) (h : ∀ w0 I0 G0, FW ⟨P, w0, I0, fun _ => False, N, 100000, G0, Γ, [], none⟩ c (params 0 xs) (Post P fn rs)) : zj P Γ f xs rs := by
  refine ⟨hcal, fun w I args hv hgl hr => (callsIn_wide (n := 0)).1 (callsIn_of_wp_marks hf hb trivial ?_)⟩
  rw [hnt]
  have S0 := start_simG (P := P) (K := 100000) hv hgl hr (Nat.le_of_ble_eq_true hN)
  refine wpIn_mono (h w I (gh0 I) _ w ⟨_, _, _, _, _, Sw.start _, _, S0⟩ 0) ?_
  rintro e a' w' ⟨st', q, w1, I1, E1, G1, Ds, sw, G, S⟩
  have fin : retAll P st' fn.results.toList rs → LeavesInM Fence.wide 0 P fn a'.tmps (Leaves w I rs) a'.defers .returning w' := by
    intro q
    have hd : a'.defers = Ds.map mark := S.dfs
    rw [hd]
    exact leavesM q Ds w' sw.nodup (fun d hd => ⟨(sw.mark_at S d hd).1, (sw.mark_at S d hd).2.1⟩) (sw.back S)
  cases e <;> first | exact fin q | exact q.elim
end Go.Al
namespace Go.Al
open Go.RowKit
theorem le_book {w : World} {I : Nat → Nat → Prop} {d : Nat} {o o' : Obj} (h : w.heap[d]? = some o) (ho : isBook o = true) (ho' : isBook o' = true) : Le w I (w.putObj d o') I := by
  have hlt : d < w.heap.size := (Array.getElem?_eq_some_iff.1 h).1
  have hsame : (w.putObj d o').heap[d]? = some o' := World.putObj_heap_same hlt
  intro b n hi
  refine ⟨hi, ?_⟩
  by_cases e : b = d
  · subst e
    refine ⟨by rw [cell_book hsame ho', cell_book h ho], fun es ck h1 => ?_⟩
    rw [h] at h1; cases h1; cases ho
  · exact yO (World.putObj_heap_other e)
def okT (N : Nat) : St → Bool
  | [] => true
  | (k, x) :: st => Nat.blt k N && (match x with | .imm _ => true | .ptr g _ => Nat.ble 50000 g | _ => false) && okT N st
theorem okT_spec {N : Nat} : ∀ {T : St}, okT N T = true → ∀ k, has T k = true → (∃ x, look T k = .imm x) ∨ ∃ g o, look T k = .ptr g o ∧ 50000 ≤ g
  | [], _, k, h => by simp [has] at h
  | (j, x) :: T, h, k, hk => by
    simp only [okT, Bool.and_eq_true] at h
    simp only [look, upd]
    simp only [has, Bool.or_eq_true] at hk
    cases hb : Nat.beq j k
    · exact okT_spec h.2 k (by simpa [hb] using hk)
    · cases x with
      | imm x => exact .inl ⟨x, rfl⟩
      | ptr g o => exact .inr ⟨g, o, rfl, Nat.le_of_ble_eq_true h.1.2⟩
      | _ => exact absurd h.1.2 (by simp)
theorem look_in {T H : St} {k : Nat} (h : has T k = true) : look (T ++ H) k = look T k := by
  rw [← xP]
  show upd (look H) T k = upd (fun _ => .dead) T k
  exact upd_congr T k h
theorem look_out {T H : St} {k : Nat} (h : has T k = false) : look (T ++ H) k = look H k := by
  rw [← xP]; exact xf _ _ _ h
theorem next_round {C : Cx} {T H H' st2 : St} {G G2 : Gh} {a0 a2 : Act} {w w3 : World} {D2 : List Deferred} {R : Option Nat} (S : SimG C (look (T ++ H)) G a0 w)
    (S3 : SimG ⟨C.P, C.w0, C.I0, C.E, C.N, C.K, C.G0, C.Γ, D2, R⟩ (look st2) G2 a2 w3) (hle : Le w G.I w3 G2.I) (hrel : ∀ g, 50000 ≤ g → G2.blk g = G.blk g)
    (hT : okT C.N T = true) (hH : wL C.N H' = true) (hs : sub st2 H') : SimG C (look (T ++ H')) G2 a0 w3 := by
  have hown : ∀ k b, zm G2 k b (look (T ++ H') k) → zm G2 k b (look st2 k) := by
    intro k b h
    cases hk : has T k
    · rw [look_out hk] at h
      rcases sub_spec hs k with e | e
      · rw [e] at h; simp only [zm] at h
      · rw [e] at h; exact h
    · rw [look_in hk] at h
      rcases okT_spec hT k hk with ⟨x, e⟩ | ⟨g, o, e, _⟩ <;> rw [e] at h <;> simp only [zm] at h
  refine ⟨S3.os, S3.tape, S3.output, S3.size, S3.block, S3.sub, S3.rel, S3.glob, S3.new, S3.val, S.nts, S.dfs, fun k => ?_, fun k j b hkj h1 h2 => S3.apart k j b hkj (hown k b h1) (hown j b h2)⟩
  cases hk : has T k
  · rw [look_out hk]
    rcases resAll_spec hH k with e | ⟨e, _⟩
    · rw [e]; simp only [Holds]
    · rcases sub_spec hs k with e1 | e1
      · rw [e1]; simp only [Holds]
      · have h := S3.holds k
        rw [← e1] at h
        exact h.reown e (fun b _ _ h => h)
  · have hS := S.holds k
    rw [look_in hk] at hS ⊢
    rcases okT_spec hT k hk with ⟨x, e⟩ | ⟨g, o, e, hg⟩
    · rw [e] at hS ⊢
      simp only [Holds] at hS ⊢
      refine ⟨hS.1, ?_⟩
      obtain ⟨c, h1, h2⟩ := hS.2
      simp only [RepS] at h1
      exact ⟨c, by simp only [RepS]; exact RepC.mono hle _ _ h1, h2⟩
    · rw [e] at hS ⊢
      simp only [Holds] at hS ⊢
      refine ⟨hS.1, ?_⟩
      obtain ⟨c, h1, h2⟩ := hS.2
      simp only [RepS] at h1
      exact ⟨c, by simp only [RepS]; rw [hrel g hg]; exact h1, h2⟩
def putsSt : List Nat → List AV → St → St
  | p :: ps, x :: xs, st => putsSt ps xs ((p, .imm x) :: st)
  | _, _, st => st
theorem SimG.puts {C : Cx} {G : Gh} {w : World} : ∀ (ps : List Nat) (xs : List AV) (vs : List Value) (st : St) (a : Act), ps.all (fun p => Nat.blt p C.N) = true → yD w G.I xs vs → SimG C (look st) G a w →
    SimG C (look (putsSt ps xs st)) G { tmps := (ps.zip vs).foldl (fun t (p : Nat × Value) => t.setIfInBounds p.1 p.2) a.tmps, defers := a.defers } w
  | [], _, _, st, a, _, _, S => by simpa [putsSt] using S
  | p :: ps, [], vs, st, a, _, h, S => by simp only [yD] at h; subst h; simpa [putsSt] using S
  | p :: ps, x :: xs, vs, st, a, hp, h, S => by
    simp only [yD] at h
    obtain ⟨c, r, rfl, h1, h2⟩ := h
    simp only [List.all_cons, Bool.and_eq_true] at hp
    have S1 := S.put (d := p) (by simpa [Nat.blt_eq] using hp.1) (x := .imm x) (v := mkV x c) (zt.2 ⟨c, h1, rfl⟩)
    have S2 := SimG.puts ps xs r ((p, .imm x) :: st) (a.put (some p) (mkV x c)) hp.2 h2 S1
    simpa [putsSt, Act.put] using S2
def bodyQ (N : Nat) (T : St) (H : Nat → St) (ok : Nat → Prop) (Q : Exit → St → Prop) (i : Nat) : Exit → St → Prop
  | .normal, st => ok (i + 1) ∧ sub st (H (i + 1))
  | .exit id, st => ∃ Hx, wL N Hx = true ∧ sub st Hx ∧ Q (.exit id) (T ++ Hx)
  | .ret, st => ∃ Hx, wL N Hx = true ∧ sub st Hx ∧ Q .ret (T ++ Hx)
  | _, _ => False
def RJ (C1 : Cx) (T : St) (H : Nat → St) (ok : Nat → Prop) (Q : Exit → St → Prop) (a0 : Act) (l d : Nat) (rec : LoopState → Option Code → Loop) : Option Nat → (Nat → Nat → Prop) → World → Prop
  | some i, I, W => ∃ G : Gh, ok i ∧ G.I = I ∧ SimG C1 (look (T ++ H i)) G a0 W ∧ W.heap[l]? = some (.loop (rec .ready none)) ∧ W.heap[d]? = some (.deferred (some []))
  | none, I, W => ∃ (G : Gh) (c : Code) (Hx : St), G.I = I ∧ SimG C1 (look (T ++ Hx)) G a0 W ∧ W.heap[l]? = some (.loop (rec .done (some c))) ∧ W.heap[d]? = some (.deferred (some [])) ∧
      ((∃ id, c = .exit id ∧ Q (.exit id) (T ++ Hx)) ∨ (c = .ret ∧ Q .ret (T ++ Hx)))
theorem rj_grow {C1 : Cx} {T : St} {H : Nat → St} {ok : Nat → Prop} {Q : Exit → St → Prop} {a0 : Act} {l d : Nat} {rec : LoopState → Option Code → Loop} : Grow (RJ C1 T H ok Q a0 l d rec) := by
  intro j I w I' w' h hb hle hn hv
  have keep : ∀ {k : Nat} {o : Obj}, w.heap[k]? = some o → w'.heap[k]? = some o := fun h => (hb.block _ (Array.getElem?_eq_some_iff.1 h).1).trans h
  cases j with
  | some i =>
    obtain ⟨G, h0, rfl, S, h1, h2⟩ := h
    exact ⟨{ G with I := I' }, h0, rfl, S.called hb hle hn hv, keep h1, keep h2⟩
  | none =>
    obtain ⟨G, c, Hx, rfl, S, h1, h2, h3⟩ := h
    exact ⟨{ G with I := I' }, c, Hx, rfl, S.called hb hle hn hv, keep h1, keep h2, h3⟩
theorem not_own {C : Cx} {A : Nat → SV} {G : Gh} {a : Act} {w : World} (S : SimG C A G a w) {k : Nat} {o : Obj} (h : w.heap[k]? = some o) (ho : isBook o = true) : ¬ own A G k := by
  rintro ⟨j, hj⟩
  have := (S.holds j).kind hj h
  rw [ho] at this; cases this
theorem rj_round {P : Program} {w1 : World} {I1 : Nat → Nat → Prop} {E1 : Nat → Prop} {N : Nat} {G1 : Gh} {Γ : List (Nat × AV)} {T : St} {H : Nat → St} {ok : Nat → Prop} {Q : Exit → St → Prop} {a0 : Act} {l d m : Nat} {fn : FuncId} {ps : Array Tmp} {assign body : Code}
    {L : List (List AV)} (hD0 : a0.defers = []) (hl1 : w1.heap.size ≤ l) (hT : okT N T = true) (hld : l ≠ d) (hH : ∀ i, wL N (H i) = true) (hps : ∀ xs ∈ L, xs.length = ps.size) (hpN : ps.toList.all (fun p => Nat.blt p N) = true)
    (hbody : ∀ i xs, ok i → L[i]? = some xs → ∀ w1 I1 E1 G1 R, AW ⟨P, w1, I1, E1, N, 50000, G1, Γ, [], R⟩ assign (putsSt ps.toList xs (T ++ H i))
      (thn (fun st1 => ∀ w1 I1 E1 G1, AW ⟨P, w1, I1, E1, N, 50000, G1, Γ, [], R⟩ body st1 (bodyQ N T H ok Q i)) (fun _ _ => False)))
    {i : Nat} {xs : List AV} {I : Nat → Nat → Prop} {W : World} {vs : List Value} (hx : L[i]? = some xs)
    (hj : RJ ⟨P, w1, I1, E1, N, 100000, G1, Γ, [], none⟩ T H ok Q a0 l d (fun st pe => { state := st, pending := pe, fn, tmps := a0.tmps, params := ps, assign, body, defers := d }) (some i) I W) (hv : yD W I xs vs) :
    YieldAt (fen none) m P l (List.toArray vs) W (YPost (RJ ⟨P, w1, I1, E1, N, 100000, G1, Γ, [], none⟩ T H ok Q a0 l d (fun st pe => { state := st, pending := pe, fn, tmps := a0.tmps, params := ps, assign, body, defers := d })) I W (some (i + 1)) none) := by
  obtain ⟨G, hok, rfl, S, hl, hd⟩ := hj
  have hlen : (List.toArray vs).size = ps.size := by
    have := vD hv
    rw [hps xs (List.mem_of_getElem? hx)] at this
    simpa using this
  have hy := run_yield (P := P) (args := List.toArray vs) hl hlen
  refine ⟨fn, _, assign, body, hy, roundIn_of_wpIn trivial ?_⟩
  have Sp := SimG.puts ps.toList xs vs _ a0 hpN hv S
  have htm : (ps.zip (List.toArray vs)).foldl (fun (t : Array Value) (p : Nat × Value) => t.setIfInBounds p.1 p.2) a0.tmps = (ps.toList.zip vs).foldl (fun t (p : Nat × Value) => t.setIfInBounds p.1 p.2) a0.tmps := by
    rw [← Array.foldl_toList]
    simp
  have Sa := (Sp.switch 50000).redefer [] (some l)
  rw [hD0] at Sa
  have haw := hbody i xs hok hx W G.I _ G (some l) _ W ⟨G, Sa⟩ m
  have hact : ({ tmps := (ps.zip (List.toArray vs)).foldl (fun (t : Array Value) (p : Nat × Value) => t.setIfInBounds p.1 p.2) a0.tmps, defers := [] } : Act) = { tmps := (ps.toList.zip vs).foldl (fun t (p : Nat × Value) => t.setIfInBounds p.1 p.2) a0.tmps, defers := [] } := by rw [htm]
  refine hact ▸ wpIn_mono haw ?_
  rintro e a1 W2 ⟨st1, q, G2, S2⟩
  cases e with
  | normal =>
    have hl2 := (S2.block l (Array.getElem?_eq_some_iff.1 hl).1 (not_own Sp hl rfl)).trans hl
    have hd2 := (S2.block d (Array.getElem?_eq_some_iff.1 hd).1 (not_own Sp hd rfl)).trans hd
    refine ⟨_, run_beginRound hl2 rfl, ?_⟩
    have S2' := Sp.back (K := 50000) (by show 50000 ≤ 100000; omega) S2
    have S3 := S2'.book hl2 (o' := .loop { state := .busy, pending := none, fn, tmps := a0.tmps, params := ps, assign, body, defers := d }) rfl rfl (.inl hl1)
    have hle23 : Le W2 G2.I (W2.putObj l (.loop { state := .busy, pending := none, fn, tmps := a0.tmps, params := ps, assign, body, defers := d })) G2.I := le_book hl2 rfl rfl
    have hl3 : (W2.putObj l (.loop { state := .busy, pending := none, fn, tmps := a0.tmps, params := ps, assign, body, defers := d })).heap[l]? = some (.loop { state := .busy, pending := none, fn, tmps := a0.tmps, params := ps, assign, body, defers := d }) := World.putObj_heap_same (Array.getElem?_eq_some_iff.1 hl2).1
    have hd3 : (W2.putObj l (.loop { state := .busy, pending := none, fn, tmps := a0.tmps, params := ps, assign, body, defers := d })).heap[d]? = some (.deferred (some [])) := (World.putObj_heap_other (Ne.symm hld)).trans hd2
    generalize (W2.putObj l (.loop { state := .busy, pending := none, fn, tmps := a0.tmps, params := ps, assign, body, defers := d })) = W3 at S3 hle23 hl3 hd3 ⊢
    refine wpIn_mono (q W3 G2.I _ G2 a1 W3 ⟨G2, S3.switch 50000⟩ m) ?_
    rintro e a3 W4 ⟨st3, q3, G3, S4⟩
    have S4' := S3.back (K := 50000) (by show 50000 ≤ 100000; omega) S4
    have hl4 := (S4.block l (Array.getElem?_eq_some_iff.1 hl3).1 (not_own S3 hl3 rfl)).trans hl3
    have hd4 := (S4.block d (Array.getElem?_eq_some_iff.1 hd3).1 (not_own S3 hd3 rfl)).trans hd3
    have hle : Le W G.I W4 G3.I := (S2.sub.trans hle23).trans S4.sub
    have hrel : ∀ g, 50000 ≤ g → G3.blk g = G.blk g := fun g hg => (S4.rel g hg).1.trans (S2.rel g hg).1
    have fin : ∀ (jump : Option Code) (Hx : St), wL N Hx = true → sub st3 Hx → ∃ W5, (Instr.endRound l jump).run P W4 = .ok (.bool jump.isNone) W5 ∧ Le W G.I W5 G3.I ∧ ValI W5 G3.I ∧
        SimG ⟨P, w1, I1, E1, N, 100000, G1, Γ, [], none⟩ (look (T ++ Hx)) G3 a0 W5 ∧ W5.heap[l]? = some (.loop { state := if jump.isNone then .ready else .done, pending := jump, fn, tmps := a0.tmps, params := ps, assign, body, defers := d }) ∧ W5.heap[d]? = some (.deferred (some [])) := by
      intro jump Hx hres hsub
      have Sn := next_round (C := ⟨P, w1, I1, E1, N, 100000, G1, Γ, [], none⟩) S S4' hle hrel hT hres hsub
      have S5 := Sn.book hl4 (o' := .loop { state := if jump.isNone then .ready else .done, pending := jump, fn, tmps := a0.tmps, params := ps, assign, body, defers := d }) rfl rfl (.inl hl1)
      exact ⟨_, run_endRound jump hl4, hle.trans (le_book hl4 rfl rfl), S5.val, S5, World.putObj_heap_same (Array.getElem?_eq_some_iff.1 hl4).1, (World.putObj_heap_other (Ne.symm hld)).trans hd4⟩
    cases e with
    | normal =>
      obtain ⟨W5, h1, h2, h3, h4, h5, h6⟩ := fin none _ (hH (i + 1)) q3.2
      exact ⟨_, W5, h1, true, G3.I, rfl, h2, h3, G3, q3.1, rfl, h4, h5, h6⟩
    | exit id =>
      obtain ⟨Hx, k1, k2, k3⟩ := q3
      obtain ⟨W5, h1, h2, h3, h4, h5, h6⟩ := fin (some (.exit id)) Hx k1 k2
      exact ⟨_, W5, h1, false, G3.I, rfl, h2, h3, G3, _, Hx, rfl, h4, h5, h6, .inl ⟨id, rfl, k3⟩⟩
    | ret =>
      obtain ⟨Hx, k1, k2, k3⟩ := q3
      obtain ⟨W5, h1, h2, h3, h4, h5, h6⟩ := fin (some .ret) Hx k1 k2
      exact ⟨_, W5, h1, false, G3.I, rfl, h2, h3, G3, _, Hx, rfl, h4, h5, h6, .inr ⟨rfl, k3⟩⟩
    | goto t => exact q3.elim
    | panic ch => exact q3.elim
    | outgrown => exact q3.elim
  | exit id => exact q.elim
  | goto t => exact q.elim
  | ret => exact q.elim
  | panic ch => exact q.elim
  | outgrown => exact q.elim
theorem simx_after {C : Cx} {w1 : World} {I1 : Nat → Nat → Prop} {E1 : Nat → Prop} {G1 : Gh} {Ds : List Nat} (hR : C.R = none) (sw : Sw C w1 I1 E1 G1 Ds) {X : St} {G : Gh} {a : Act} {W : World} {d : Nat} (hd1 : w1.heap.size ≤ d)
    (hd : W.heap[d]? = some (.deferred (some []))) (S : SimG (upC C w1 I1 E1 G1 []) (look X) G { tmps := a.tmps, defers := [] } W) (ha : a.defers = Ds.map mark) :
    SimX C (look X) { a with defers := [{ target := .collected d, args := #[] }] ++ a.defers } W := by
  have Sb := sw.back S
  refine ⟨W, G.I, own (look X) G, G, d :: Ds, ⟨Sb.os, Sb.tape, Sb.output, Sb.size, Sb.block, fun b h => ?_, Sb.sub, Sb.rel, Sb.new, fun d' h => ?_, ?_⟩, G, ?_⟩
  · rcases h with h | ⟨k, hk⟩
    · exact .inl (Nat.le_trans Sb.size h)
    · exact ((Sb.holds k).owned hk).1
  · rcases List.mem_cons.1 h with rfl | h
    · exact ⟨(Array.getElem?_eq_some_iff.1 hd).1, not_own Sb hd rfl, Nat.le_trans sw.size hd1, hd⟩
    · obtain ⟨h1, h2, h3⟩ := sw.mark_at S d' h
      exact ⟨(Array.getElem?_eq_some_iff.1 h1).1, not_own Sb h1 rfl, h2, h1⟩
  · rw [List.nodup_cons]
    refine ⟨fun h => ?_, sw.nodup⟩
    have := (sw.mark_at S d h).2.2
    omega
  · have S1 := (S.switch C.K).redefer ((d :: Ds).map mark) C.R
    have e : ({ a with defers := [{ target := .collected d, args := #[] }] ++ a.defers } : Act) = { tmps := a.tmps, defers := (d :: Ds).map mark } := by rw [ha]; rfl
    rw [e]; exact S1
theorem fw_range {P : Program} {w0 : World} {I0 : Nat → Nat → Prop} {E : Nat → Prop} {N : Nat} {G0 : Gh} {Γ : List (Nat × AV)} {gop : Operand} {ps : Array Tmp} {assign body : Code} {st : St} {Q : Exit → St → Prop} {f : FuncId} {caps : List AV} {L : List (List AV)}
    (T : St) (H : Nat → St) (ok : Nat → Prop) (ok0 : ok 0) (hseq : SeqC P Γ f caps L) (hg : opV (look st) gop = some (.fn (.func f) [] caps)) (h0 : sub st (T ++ H 0)) (hT : okT N T = true) (hH : ∀ i, wL N (H i) = true)
    (hps : ∀ xs ∈ L, xs.length = ps.size) (hpN : ps.toList.all (fun p => Nat.blt p N) = true)
    (hbody : ∀ i xs, ok i → L[i]? = some xs → ∀ w1 I1 E1 G1 R, AW ⟨P, w1, I1, E1, N, 50000, G1, Γ, [], R⟩ assign (putsSt ps.toList xs (T ++ H i))
      (thn (fun st1 => ∀ w1 I1 E1 G1, AW ⟨P, w1, I1, E1, N, 50000, G1, Γ, [], R⟩ body st1 (bodyQ N T H ok Q i)) (fun _ _ => False)))
    (hdone : ok L.length → Q .normal (T ++ H L.length)) : FW ⟨P, w0, I0, E, N, 100000, G0, Γ, [], none⟩ (.rangeFunc gop ps assign body) st Q := by
  rintro a w ⟨w1, I1, E1, G1, Ds, sw, G, S⟩ n
  obtain ⟨c, h1, h2⟩ := S.opV hg
  simp only [RepC, yD] at h1
  obtain ⟨fs, gs, rfl, rfl, hgs⟩ := h1
  have hev : a.eval gop = .func (.func f) #[] (List.toArray gs) := by rw [h2]; rfl
  have hda : a.defers = Ds.map mark := S.dfs
  have hsz : w1.heap.size ≤ w.heap.size := S.size
  refine wpIn_rangeFunc ?_
  intro fn hfn
  obtain ⟨W1, hW1⟩ : ∃ W1, (w.alloc (.deferred (some []))).alloc (.loop { state := .ready, pending := none, fn, tmps := a.tmps, params := ps, assign, body, defers := w.heap.size }) = W1 := ⟨_, rfl⟩
  have hL1 : W1.heap[w.heap.size + 1]? = some (.loop { state := .ready, pending := none, fn, tmps := a.tmps, params := ps, assign, body, defers := w.heap.size }) := by
    rw [← hW1]; have := World.alloc_heap_new (w.alloc (.deferred (some []))) (.loop { state := .ready, pending := none, fn, tmps := a.tmps, params := ps, assign, body, defers := w.heap.size }); rwa [World.size_alloc] at this
  have hK1 : W1.heap[w.heap.size]? = some (.deferred (some [])) := by
    rw [← hW1]; exact (Below.heap_alloc _ _ _ (by simp)).trans (World.alloc_heap_new w _)
  have S1 : SimG ⟨P, w1, I1, E1, N, 100000, G1, Γ, [], none⟩ (look (T ++ H 0)) G { tmps := a.tmps, defers := [] } W1 := by
    rw [← hW1]; exact (((S.weak (sub_spec h0)).newBook _).newBook _).redefer [] none
  have hle1 : Le w G.I W1 G.I := by
    intro b o hi
    refine ⟨hi, yO ?_⟩
    have hb := S.val b o hi
    rw [← hW1, Below.heap_alloc _ _ _ (by simp; omega), Below.heap_alloc _ _ _ hb]
  refine ⟨w.heap.size + 1, [{ target := .collected w.heap.size, args := #[] }], W1, { target := .fn (.func f) (List.toArray gs), args := #[.func (.yield (w.heap.size + 1)) #[] #[]] }, W1, f,
    #[.func (.yield (w.heap.size + 1)) #[] #[]] ++ List.toArray gs, W1, ?_, ?_, fun _ _ => trivial, ?_, fun h => by simp [fen, Fence.wide] at h, ?_⟩
  · rw [← hW1]; exact run_enterLoop_outer _ _ _ _ _
  · simp only [resolve, hev]
    simp [go_sem]
  · simp only [invoke, wg hseq.1]
  · have hcall := hseq.2 (n - 1) (w.heap.size + 1) (RJ ⟨P, w1, I1, E1, N, 100000, G1, Γ, [], none⟩ T H ok Q { tmps := a.tmps, defers := [] } (w.heap.size + 1) w.heap.size (fun st pe => { state := st, pending := pe, fn, tmps := a.tmps, params := ps, assign, body, defers := w.heap.size }))
      W1 G.I gs rj_grow S1.val S1.glob (yD.mono hle1 _ _ hgs)
      (fun i xs I W vs hx hj hv => rj_round rfl (by omega) hT (by omega) hH hps hpN hbody hx hj hv) ⟨G, ok0, rfl, S1, hL1, hK1⟩
    refine hcall.mono ?_
    rintro e W2 ⟨v, I', rfl, ⟨G2, hok, _, S2, hl2, hd2⟩ | ⟨G2, c, Hx, _, S2, hl2, hd2, hc⟩⟩
    · refine ⟨none, _, run_endLoop hl2 (by simp), T ++ H L.length, hdone hok, ?_⟩
      exact simx_after rfl sw hsz ((World.putObj_heap_other (by omega)).trans hd2) (S2.book hl2 rfl rfl (.inl (by show w1.heap.size ≤ _; omega))) hda
    · refine ⟨some c, _, run_endLoop hl2 (by simp), ?_⟩
      have hx := simx_after rfl sw hsz ((World.putObj_heap_other (by omega)).trans hd2) (S2.book hl2 (o' := .loop { state := .exhausted, pending := some c, fn, tmps := a.tmps, params := ps, assign, body, defers := w.heap.size }) rfl rfl (.inl (by show w1.heap.size ≤ _; omega))) hda
      rcases hc with ⟨id, rfl, hq⟩ | ⟨rfl, hq⟩
      · exact wpIn_exit ⟨_, hq, hx⟩
      · exact wpIn_ret ⟨_, hq, hx⟩
end Go.Al
namespace Go.Proofs
open Go Go.Al
theorem plC_app (i : Nat) : ∀ (k : Nat) (l m : List GScope), plC i k (l ++ m) = plC i k l ++ plC i (k + l.length) m
  | k, [], m => by simp [plC]
  | k, x :: l, m => by
    simp only [List.cons_append, plC, plC_app i (k + 1) l m, List.append_assoc, List.length_cons]
    rw [show k + 1 + l.length = k + (l.length + 1) by omega]
theorem plR_app : ∀ (i : Nat) (l m : List GRes), plR i (l ++ m) = plR i l ++ plR (i + l.length) m
  | i, [], m => by simp [plR]
  | i, x :: l, m => by
    simp only [List.cons_append, plR, plR_app (i + 1) l m, List.append_assoc, List.length_cons]
    rw [show i + 1 + l.length = i + (l.length + 1) by omega]
theorem nthC_at {l : List GScope} {k : Nat} (h : k < l.length) : l = l.take k ++ nthC l k :: l.drop (k + 1) := by
  have : nthC l k = l[k] := by simp [nthC, nth, h]
  rw [this, List.getElem_cons_drop, List.take_append_drop]
theorem nthR_at {l : List GRes} {k : Nat} (h : k < l.length) : l = l.take k ++ nthR l k :: l.drop (k + 1) := by
  have : nthR l k = l[k] := by simp [nthR, nth, h]
  rw [this, List.getElem_cons_drop, List.take_append_drop]
theorem plC_at {i : Nat} {l : List GScope} {k m : Nat} (hk : k < l.length) (hm : m < (nthC l k).spans.length) : (plC i 0 l)[(plC i 0 (l.take k)).length + m]? = some (i, k, m) := by
  conv => lhs; arg 1; rw [nthC_at hk]
  have hlen : (l.take k).length = k := by rw [List.length_take]; omega
  rw [plC_app, List.getElem?_append_right (by omega), Nat.add_sub_cancel_left, Nat.zero_add, hlen, plC, List.getElem?_append_left (by simpa using hm)]
  simp [hm]
theorem pl_at {b : List GRes} {i k m : Nat} (hi : i < b.length) (hk : k < (nthR b i).scopes.length) (hm : m < (nthC (nthR b i).scopes k).spans.length) :
    (plR 0 b)[(plR 0 (b.take i)).length + (plC i 0 ((nthR b i).scopes.take k)).length + m]? = some (i, k, m) := by
  conv => lhs; arg 1; rw [nthR_at hi]
  have hlen : (b.take i).length = i := by rw [List.length_take]; omega
  rw [plR_app, Nat.add_assoc, List.getElem?_append_right (by omega), Nat.add_sub_cancel_left, Nat.zero_add, hlen, plR]
  have h1 := plC_at (i := i) hk hm
  rw [List.getElem?_append_left (List.getElem?_eq_some_iff.1 h1).1]
  exact h1
def spAt (b : List GRes) (p : Nat × Nat × Nat) : GSpan := nthS (nthC (nthR b p.1).scopes p.2.1).spans p.2.2
def rowAt (b : List GRes) (p : Nat × Nat × Nat) : List AV := [plav p, (spAt b p).av]
def seqB (b : List GRes) : List (List AV) := (plR 0 b).map (rowAt b)
theorem seqB_len (b : List GRes) : (seqB b).length = (plR 0 b).length := List.length_map ..
theorem seqB_two (b : List GRes) : ∀ xs ∈ seqB b, xs.length = 2 := by
  intro xs h
  obtain ⟨p, _, rfl⟩ := List.mem_map.1 h
  rfl
theorem seqB_get {b : List GRes} {i : Nat} {xs : List AV} (h : (seqB b)[i]? = some xs) : ∃ p, (plR 0 b)[i]? = some p ∧ xs = [plav p, (spAt b p).av] := by
  unfold seqB at h
  rw [List.getElem?_map] at h
  cases hp : (plR 0 b)[i]? with
  | none => rw [hp] at h; cases h
  | some p => rw [hp] at h; exact ⟨p, rfl, (Option.some.inj h).symm⟩
theorem seq_at {b : List GRes} {i k m : Nat} (hi : i < b.length) (hk : k < (nthR b i).scopes.length) (hm : m < (nthC (nthR b i).scopes k).spans.length) :
    (seqB b)[(plR 0 (b.take i)).length + (plC i 0 ((nthR b i).scopes.take k)).length + m]? = some [plav (i, k, m), (nthS (nthC (nthR b i).scopes k).spans m).av] := by
  unfold seqB
  rw [List.getElem?_map, pl_at hi hk hm]; rfl
end Go.Proofs
namespace Go.Al
section
variable {C : Cx} {A : Nat → SV} {d : Nat} {ty : TypeId} {pos : String} {af : Array Edge} {gd : Option (Nat × Bool)} {x y : Operand} {T T' : TypeId}
end
theorem aw_upB {C : Cx} {c : Code} {st : St} {Q : Exit → St → Prop} (g : Nat) {T : TypeId} {X : SV} {x : AV} (y : AV) (hg : look st g = .box T X) (hx : toAV X = some x) (hu : Up x y) (h : AW C c ((g, .box T (.imm y)) :: st) Q) : AW C c st Q := by
  intro a w ⟨G, S⟩
  refine h a w ⟨G, S.os, S.tape, S.output, S.size, S.block, S.sub, S.rel, S.glob, S.new, S.val, S.nts, S.dfs, fun j => ?_, fun j j' b hj h1 h2 => ?_⟩
  · have e := yo (look st) g (.box T (.imm y)) j
    rw [xP] at e
    rw [show ((g, SV.box T (.imm y)) :: st) = [(g, SV.box T (.imm y))] ++ st from rfl, e]
    split
    · rename_i hjk; subst hjk
      have := S.holds j
      rw [hg] at this
      simp only [Holds, BoxS] at this ⊢
      obtain ⟨h1, ⟨cs, fr, hb, hr, hf⟩, h2⟩ := this
      exact ⟨h1, ⟨cs, fr, hb, by simp only [RepS]; exact hu.2.2 _ _ _ (xe X x _ hx hr), hf⟩, h2⟩
    · exact S.holds j
  · have conv : ∀ j b, zm G j b (look ((g, SV.box T (.imm y)) :: st) j) → zm G j b (look st j) := by
      intro j b hb
      have e := yo (look st) g (.box T (.imm y)) j
      rw [xP] at e
      rw [show ((g, SV.box T (.imm y)) :: st) = [(g, SV.box T (.imm y))] ++ st from rfl, e] at hb
      split at hb
      · rename_i hjk; subst hjk; rw [hg]; simp only [zm] at hb ⊢; exact hb
      · exact hb
    exact S.apart j j' b hj (conv j b h1) (conv j' b h2)
end Go.Al
namespace Go.Proofs
open Go Go.Al
set_option maxRecDepth 10000
set_option maxHeartbeats 4000000 in
theorem eqdS_c (a b : List GSpan) (fn : FuncId) (hl : a.length ≤ 1000000000) (hf : ∀ x ∈ a, ∀ y : GSpan, zj Tryz.prog Γ0 fn ([] ++ [x.av, y.av] ++ []) [bv (decide (x = y))]) : zj Tryz.prog Γ0 109 [(.sl 42 (a.map GSpan.av)), (.sl 42 (b.map GSpan.av)), .fn (.func fn) [] []] [bv (decide (a = b))] := by
  refine zb Tryz.func109 rfl Tryz.ntmps109 (by kernel_rfl) rfl fun w0 I0 G0 => ?_
  refine zD <| zB <| g_u (zE rfl rfl) <| zF <| zA <| zD <| zD <| zB <| g_u (zC rfl rfl) <| g_u (zx rfl rfl Tryz.underlying53) <| g_u (zC rfl rfl) <| g_u (zx rfl rfl Tryz.underlying53) <| g_u (xG rfl rfl rfl) <| zF <| zA ?_
  refine zN rfl (fun hb1 => ?_) (fun hb1 => ?_)
  · have q : ¬ a.length = b.length := by have e := qc.1 hb1; simp only [List.length_map] at e; omega
    refine zD <| zB <| g_u (zE rfl rfl) <| zF <| zA <| zJ <| zK ?_
    exact ⟨⟨(rfl : toAV (Al.look _ _) = some _).trans (congrArg some (by (exact congrArg bv (by first | exact (decide_eq_false (fun e => q (by rw [e]))).symm | exact (decide_eq_true (xL gs0 el (fun j hj => h2 j (by omega)))).symm)))), rfl⟩, trivial⟩
  · have el : a.length = b.length := by have e := qd.1 hb1; simp only [List.length_map] at e; omega
    refine zO <| zA <| zD <| zD <| zB <| g_u (zC rfl rfl) <| g_u (zx rfl rfl Tryz.underlying53) <| g_u (zC rfl rfl) <| zF <| zA <| zQ ?_
    refine zs (fun i : Nat => [(1, .imm (.sl 42 (b.map GSpan.av))), (2, .imm (.fn (.func fn) [] [])), (15, .imm (.sl 42 (a.map GSpan.av))), (16, .imm (iv (a.length : Int))), (17, .imm (iv (i : Int)))]) (fun i => i ≤ a.length ∧ ∀ j, j < i → nth a j gs0 = nth b j gs0) (fun i => a.length - i) (0) ?_ ⟨rfl, rfl, rfl, zV rfl (by rw [List.length_map]), rfl, trivial⟩ ?_
    · exact ⟨Nat.zero_le _, fun j h => absurd h (Nat.not_lt_zero _)⟩
    · rintro i ⟨h1, h2⟩; (try dsimp only at h1 h2)
      refine zD <| zB <| g_u (yU rfl rfl rfl) <| zF <| zA <| zD ?_
      refine zN rfl (fun hb2 => ?_) (fun hb2 => ?_)
      · have hi : i < a.length := by have := of_decide_eq_true hb2; (try simp only [List.length_map] at this); omega
        have hib : i < b.length := by omega
        refine zO <| zA <| zD <| zQ <| zD <| zB <| g_u (zC rfl rfl) ?_
        refine g_u (za rfl rfl rfl Tryz.underlying53 tS52 (by omega) (ixS hi)) ?_
        refine g_u (zW rfl rfl tA52 tS52 rfl (by first | exact xp (GSpan.width _) rfl | rfl)) ?_
        refine g_uG (zo 1008 rfl rfl rfl tZ52) rfl <| g_u (zE rfl rfl) ?_
        refine g_u (zL rfl rfl rfl tS52 (by first | exact beqW (GSpan.width _) | rfl) (by first | exact setS_w (z52_w.trans (GSpan.width _).symm) rfl | rfl)) ?_
        refine zF <| zA <| zD <| zB <| g_u (zC rfl rfl) <| g_u (zC rfl rfl) ?_
        refine g_u (za rfl rfl rfl Tryz.underlying53 tS52 (by omega) (ixS hib)) ?_
        refine g_u (zW rfl rfl tA52 tS52 rfl (by first | exact xp (GSpan.width _) rfl | rfl)) ?_
        refine g_uG (zo 1009 rfl rfl rfl tZ52) rfl ?_
        refine g_u (zL rfl rfl rfl tS52 (by first | exact beqW (GSpan.width _) | rfl) (by first | exact setS_w (z52_w.trans (GSpan.width _).symm) rfl | rfl)) ?_
        refine zF <| zA <| zD <| zB <| g_u (zC rfl rfl) ?_
        refine g_u (zH rfl rfl rfl tA52 tS52 rfl (by first | exact xp (GSpan.width _) rfl | rfl)) ?_
        refine g_u (zH rfl rfl rfl tA52 tS52 rfl (by first | exact xp (GSpan.width _) rfl | rfl)) ?_
        refine g_u (xQ (hf _ (nthS_mem hi) _) rfl rfl rfl) <| g_u (s_not rfl rfl) <| zF <| zA ?_
        refine zN rfl (fun hb3 => ?_) (fun hb3 => ?_)
        · have q : ¬ nthS a i = nthS b i := fun h => by have e := hb3; rw [decide_eq_true h] at e; cases e
          refine zD <| zB <| g_u (zE rfl rfl) <| zF <| zA <| zJ <| ze <| zK <| zK <| ze <| zK ?_
          exact ⟨⟨(rfl : toAV (Al.look _ _) = some _).trans (congrArg some (by (exact congrArg bv (by first | exact (decide_eq_false (fun e => q (by rw [e]))).symm | exact (decide_eq_true (xL gs0 el (fun j hj => h2 j (by omega)))).symm)))), rfl⟩, trivial⟩
        · have ev : nthS a i = nthS b i := by have e := hb3; simpa using e
          refine zO <| zM <| zA <| zB <| g_u (yB rfl rfl rfl) <| g_u (zC rfl rfl) <| zF <| zA ?_
          refine ⟨i + 1, ⟨hi, fun j hj => by rcases Nat.lt_or_ge j i with h | h; exact h2 j h; rw [show j = i by omega]; exact ev⟩, ⟨rfl, rfl, rfl, rfl, zV rfl (by rw [zZ (by omega) (by omega)]; rfl), trivial⟩, by (try dsimp only); omega⟩
      · have hin : i = a.length := by have := of_decide_eq_false hb2; (try simp only [List.length_map] at this); omega
        refine zv <| zU <| zU <| zp <| zA <| zD <| zB <| g_u (zE rfl rfl) <| zF <| zA <| zJ ?_
        exact ⟨⟨(rfl : toAV (Al.look _ _) = some _).trans (congrArg some (by (exact congrArg bv (by first | exact (decide_eq_false (fun e => q (by rw [e]))).symm | exact (decide_eq_true (xL gs0 el (fun j hj => h2 j (by omega)))).symm)))), rfl⟩, trivial⟩
set_option maxHeartbeats 4000000 in
theorem eqdC_c (a b : List GScope) (fn : FuncId) (hl : a.length ≤ 1000000000) (hf : ∀ x ∈ a, ∀ y : GScope, zj Tryz.prog Γ0 fn ([] ++ [x.av, y.av] ++ []) [bv (decide (x = y))]) : zj Tryz.prog Γ0 76 [(.sl 3 (a.map GScope.av)), (.sl 3 (b.map GScope.av)), .fn (.func fn) [] []] [bv (decide (a = b))] := by
  refine zb Tryz.func76 rfl Tryz.ntmps76 (by kernel_rfl) rfl fun w0 I0 G0 => ?_
  refine zD <| zB <| g_u (zE rfl rfl) <| zF <| zA <| zD <| zD <| zB <| g_u (zC rfl rfl) <| g_u (zx rfl rfl Tryz.underlying56) <| g_u (zC rfl rfl) <| g_u (zx rfl rfl Tryz.underlying56) <| g_u (xG rfl rfl rfl) <| zF <| zA ?_
  refine zN rfl (fun hb1 => ?_) (fun hb1 => ?_)
  · have q : ¬ a.length = b.length := by have e := qc.1 hb1; simp only [List.length_map] at e; omega
    refine zD <| zB <| g_u (zE rfl rfl) <| zF <| zA <| zJ <| zK ?_
    exact ⟨⟨(rfl : toAV (Al.look _ _) = some _).trans (congrArg some (by (exact congrArg bv (by first | exact (decide_eq_false (fun e => q (by rw [e]))).symm | exact (decide_eq_true (xL gc0 el (fun j hj => h2 j (by omega)))).symm)))), rfl⟩, trivial⟩
  · have el : a.length = b.length := by have e := qd.1 hb1; simp only [List.length_map] at e; omega
    refine zO <| zA <| zD <| zD <| zB <| g_u (zC rfl rfl) <| g_u (zx rfl rfl Tryz.underlying56) <| g_u (zC rfl rfl) <| zF <| zA <| zQ ?_
    refine zs (fun i : Nat => [(1, .imm (.sl 3 (b.map GScope.av))), (2, .imm (.fn (.func fn) [] [])), (15, .imm (.sl 3 (a.map GScope.av))), (16, .imm (iv (a.length : Int))), (17, .imm (iv (i : Int)))]) (fun i => i ≤ a.length ∧ ∀ j, j < i → nth a j gc0 = nth b j gc0) (fun i => a.length - i) (0) ?_ ⟨rfl, rfl, rfl, zV rfl (by rw [List.length_map]), rfl, trivial⟩ ?_
    · exact ⟨Nat.zero_le _, fun j h => absurd h (Nat.not_lt_zero _)⟩
    · rintro i ⟨h1, h2⟩; (try dsimp only at h1 h2)
      refine zD <| zB <| g_u (yU rfl rfl rfl) <| zF <| zA <| zD ?_
      refine zN rfl (fun hb2 => ?_) (fun hb2 => ?_)
      · have hi : i < a.length := by have := of_decide_eq_true hb2; (try simp only [List.length_map] at this); omega
        have hib : i < b.length := by omega
        refine zO <| zA <| zD <| zQ <| zD <| zB <| g_u (zC rfl rfl) ?_
        refine g_u (za rfl rfl rfl Tryz.underlying56 tS55 (by omega) (ixC hi)) ?_
        refine g_u (zW rfl rfl tA55 tS55 rfl rfl) <| g_uG (zo 1008 rfl rfl rfl tZ55) rfl <| g_u (zE rfl rfl) <| g_u (zL rfl rfl rfl tS55 rfl rfl) <| zF <| zA <| zD <| zB <| g_u (zC rfl rfl) <| g_u (zC rfl rfl) ?_
        refine g_u (za rfl rfl rfl Tryz.underlying56 tS55 (by omega) (ixC hib)) ?_
        refine g_u (zW rfl rfl tA55 tS55 rfl rfl) <| g_uG (zo 1009 rfl rfl rfl tZ55) rfl <| g_u (zL rfl rfl rfl tS55 rfl rfl) <| zF <| zA <| zD <| zB <| g_u (zC rfl rfl) <| g_u (zl rfl rfl rfl tA55 tS55 rfl rfl) <| g_u (zl rfl rfl rfl tA55 tS55 rfl rfl) <| g_u (xQ (hf _ (nthC_mem hi) _) rfl rfl rfl) <| g_u (s_not rfl rfl) <| zF <| zA ?_
        refine zN rfl (fun hb3 => ?_) (fun hb3 => ?_)
        · have q : ¬ nthC a i = nthC b i := fun h => by have e := hb3; rw [decide_eq_true h] at e; cases e
          refine zD <| zB <| g_u (zE rfl rfl) <| zF <| zA <| zJ <| ze <| zK <| zK <| ze <| zK ?_
          exact ⟨⟨(rfl : toAV (Al.look _ _) = some _).trans (congrArg some (by (exact congrArg bv (by first | exact (decide_eq_false (fun e => q (by rw [e]))).symm | exact (decide_eq_true (xL gc0 el (fun j hj => h2 j (by omega)))).symm)))), rfl⟩, trivial⟩
        · have ev : nthC a i = nthC b i := by have e := hb3; simpa using e
          refine zO <| zM <| zA <| zB <| g_u (yB rfl rfl rfl) <| g_u (zC rfl rfl) <| zF <| zA ?_
          refine ⟨i + 1, ⟨hi, fun j hj => by rcases Nat.lt_or_ge j i with h | h; exact h2 j h; rw [show j = i by omega]; exact ev⟩, ⟨rfl, rfl, rfl, rfl, zV rfl (by rw [zZ (by omega) (by omega)]; rfl), trivial⟩, by (try dsimp only); omega⟩
      · have hin : i = a.length := by have := of_decide_eq_false hb2; (try simp only [List.length_map] at this); omega
        refine zv <| zU <| zU <| zp <| zA <| zD <| zB <| g_u (zE rfl rfl) <| zF <| zA <| zJ ?_
        exact ⟨⟨(rfl : toAV (Al.look _ _) = some _).trans (congrArg some (by (exact congrArg bv (by first | exact (decide_eq_false (fun e => q (by rw [e]))).symm | exact (decide_eq_true (xL gc0 el (fun j hj => h2 j (by omega)))).symm)))), rfl⟩, trivial⟩
set_option maxHeartbeats 4000000 in
theorem eqdR_c (a b : List GRes) (fn : FuncId) (hl : a.length ≤ 1000000000) (hf : ∀ x ∈ a, ∀ y : GRes, zj Tryz.prog Γ0 fn ([] ++ [x.av, y.av] ++ []) [bv (decide (x = y))]) : zj Tryz.prog Γ0 44 [(.sl 2 (a.map GRes.av)), (.sl 2 (b.map GRes.av)), .fn (.func fn) [] []] [bv (decide (a = b))] := by
  refine zb Tryz.func44 rfl Tryz.ntmps44 (by kernel_rfl) rfl fun w0 I0 G0 => ?_
  refine zD <| zB <| g_u (zE rfl rfl) <| zF <| zA <| zD <| zD <| zB <| g_u (zC rfl rfl) <| g_u (zx rfl rfl Tryz.underlying22) <| g_u (zC rfl rfl) <| g_u (zx rfl rfl Tryz.underlying22) <| g_u (xG rfl rfl rfl) <| zF <| zA ?_
  refine zN rfl (fun hb1 => ?_) (fun hb1 => ?_)
  · have q : ¬ a.length = b.length := by have e := qc.1 hb1; simp only [List.length_map] at e; omega
    refine zD <| zB <| g_u (zE rfl rfl) <| zF <| zA <| zJ <| zK ?_
    exact ⟨⟨(rfl : toAV (Al.look _ _) = some _).trans (congrArg some (by (exact congrArg bv (by first | exact (decide_eq_false (fun e => q (by rw [e]))).symm | exact (decide_eq_true (xL gr0 el (fun j hj => h2 j (by omega)))).symm)))), rfl⟩, trivial⟩
  · have el : a.length = b.length := by have e := qd.1 hb1; simp only [List.length_map] at e; omega
    refine zO <| zA <| zD <| zD <| zB <| g_u (zC rfl rfl) <| g_u (zx rfl rfl Tryz.underlying22) <| g_u (zC rfl rfl) <| zF <| zA <| zQ ?_
    refine zs (fun i : Nat => [(1, .imm (.sl 2 (b.map GRes.av))), (2, .imm (.fn (.func fn) [] [])), (15, .imm (.sl 2 (a.map GRes.av))), (16, .imm (iv (a.length : Int))), (17, .imm (iv (i : Int)))]) (fun i => i ≤ a.length ∧ ∀ j, j < i → nth a j gr0 = nth b j gr0) (fun i => a.length - i) (0) ?_ ⟨rfl, rfl, rfl, zV rfl (by rw [List.length_map]), rfl, trivial⟩ ?_
    · exact ⟨Nat.zero_le _, fun j h => absurd h (Nat.not_lt_zero _)⟩
    · rintro i ⟨h1, h2⟩; (try dsimp only at h1 h2)
      refine zD <| zB <| g_u (yU rfl rfl rfl) <| zF <| zA <| zD ?_
      refine zN rfl (fun hb2 => ?_) (fun hb2 => ?_)
      · have hi : i < a.length := by have := of_decide_eq_true hb2; (try simp only [List.length_map] at this); omega
        have hib : i < b.length := by omega
        refine zO <| zA <| zD <| zQ <| zD <| zB <| g_u (zC rfl rfl) ?_
        refine g_u (za rfl rfl rfl Tryz.underlying22 tS58 (by omega) (ixR hi)) ?_
        refine g_u (zW rfl rfl tA58 tS58 rfl rfl) <| g_uG (zo 1008 rfl rfl rfl tZ58) rfl <| g_u (zE rfl rfl) <| g_u (zL rfl rfl rfl tS58 rfl rfl) <| zF <| zA <| zD <| zB <| g_u (zC rfl rfl) <| g_u (zC rfl rfl) ?_
        refine g_u (za rfl rfl rfl Tryz.underlying22 tS58 (by omega) (ixR hib)) ?_
        refine g_u (zW rfl rfl tA58 tS58 rfl rfl) <| g_uG (zo 1009 rfl rfl rfl tZ58) rfl <| g_u (zL rfl rfl rfl tS58 rfl rfl) <| zF <| zA <| zD <| zB <| g_u (zC rfl rfl) <| g_u (zl rfl rfl rfl tA58 tS58 rfl rfl) <| g_u (zl rfl rfl rfl tA58 tS58 rfl rfl) <| g_u (xQ (hf _ (vC hi) _) rfl rfl rfl) <| g_u (s_not rfl rfl) <| zF <| zA ?_
        refine zN rfl (fun hb3 => ?_) (fun hb3 => ?_)
        · have q : ¬ nthR a i = nthR b i := fun h => by have e := hb3; rw [decide_eq_true h] at e; cases e
          refine zD <| zB <| g_u (zE rfl rfl) <| zF <| zA <| zJ <| ze <| zK <| zK <| ze <| zK ?_
          exact ⟨⟨(rfl : toAV (Al.look _ _) = some _).trans (congrArg some (by (exact congrArg bv (by first | exact (decide_eq_false (fun e => q (by rw [e]))).symm | exact (decide_eq_true (xL gr0 el (fun j hj => h2 j (by omega)))).symm)))), rfl⟩, trivial⟩
        · have ev : nthR a i = nthR b i := by have e := hb3; simpa using e
          refine zO <| zM <| zA <| zB <| g_u (yB rfl rfl rfl) <| g_u (zC rfl rfl) <| zF <| zA ?_
          refine ⟨i + 1, ⟨hi, fun j hj => by rcases Nat.lt_or_ge j i with h | h; exact h2 j h; rw [show j = i by omega]; exact ev⟩, ⟨rfl, rfl, rfl, rfl, zV rfl (by rw [zZ (by omega) (by omega)]; rfl), trivial⟩, by (try dsimp only); omega⟩
      · have hin : i = a.length := by have := of_decide_eq_false hb2; (try simp only [List.length_map] at this); omega
        refine zv <| zU <| zU <| zp <| zA <| zD <| zB <| g_u (zE rfl rfl) <| zF <| zA <| zJ ?_
        exact ⟨⟨(rfl : toAV (Al.look _ _) = some _).trans (congrArg some (by (exact congrArg bv (by first | exact (decide_eq_false (fun e => q (by rw [e]))).symm | exact (decide_eq_true (xL gr0 el (fun j hj => h2 j (by omega)))).symm)))), rfl⟩, trivial⟩
set_option maxHeartbeats 4000000 in
theorem psameC_c (a b : GScope) (hw : a.wt ≤ 1000000000) : zj Tryz.prog Γ0 77 [a.av, b.av] [bv (decide (a = b))] := by
  have qw : a.wt = 1 + a.name.size + a.version.size + zr GSpan.wt a.spans := rfl
  have ql := yJ GSpan.wt (fun e => by unfold GSpan.wt; omega) a.spans
  refine zb Tryz.func77 rfl Tryz.ntmps77 (by kernel_rfl) rfl fun w0 I0 G0 => ?_
  refine zD <| zB <| g_uG (zi 1002 rfl rfl rfl rfl) rfl <| g_uG (zi 1003 rfl rfl rfl rfl) rfl <| g_u (zE rfl rfl) <| zF <| zA <| zD <| zB <| g_u (zG rfl rfl fa55_0 rfl) <| g_u (zH rfl rfl rfl tA9 tS9 rfl rfl) <| g_u (zG rfl rfl fa55_0 rfl) <| g_u (zH rfl rfl rfl tA9 tS9 rfl rfl) <| g_u (s_eqS rfl rfl rfl) <| g_u (zC rfl rfl) <| zz (t := 10) rfl ?_
  rintro (hb1 | hb1)
  · rw [hb1]
    have f1 : a.name = b.name := by have e := hb1; rw [xJ] at e; simpa using e
    refine zP rfl rfl (zG rfl rfl fa55_1 rfl) <| zP rfl rfl (zH rfl rfl rfl tA9 tS9 rfl rfl) <| zP rfl rfl (zG rfl rfl fa55_1 rfl) <| zP rfl rfl (zH rfl rfl rfl tA9 tS9 rfl rfl) <| zP rfl rfl (s_eqS rfl rfl rfl) <| g_u (zX rfl rfl rfl) <| g_u (zC rfl rfl) <| zz (t := 17) rfl ?_
    rintro (hb2 | hb2)
    · rw [hb2]
      have f2 : a.version = b.version := by have e := hb2; rw [xJ] at e; simpa using e
      refine zP rfl rfl (zG rfl rfl fa55_2 rfl) <| zP rfl rfl (zH rfl rfl rfl tA53 tS53 rfl rfl) <| zP rfl rfl (zG rfl rfl fa55_2 rfl) <| zP rfl rfl (zH rfl rfl rfl tA53 tS53 rfl rfl) ?_
      refine zP rfl rfl (zT (eqdS_c a.spans b.spans 110 (by omega) (fun x hx y => psameS_c x y (by have h5 := yM GSpan.wt hx; omega))) rfl rfl) ?_
      refine g_u (zX rfl rfl rfl) <| g_u (zE rfl rfl) <| zF <| zA <| zJ ?_
      exact ⟨⟨(rfl : toAV (Al.look _ _) = some _).trans (congrArg some (by (exact congrArg bv (by first | exact (decide_eq_false (fun e => q (by rw [e]))).symm | (rw [Bool.eq_iff_iff, decide_eq_true_iff, decide_eq_true_iff]; exact ⟨fun h => GScope.ext' f1 f2 h, fun h => by rw [h]⟩))))), rfl⟩, trivial⟩
    · rw [hb2]
      have q : ¬ a.version = b.version := by have e := hb2; rw [xJ] at e; simpa using e
      refine zI rfl rfl rfl <| zI rfl rfl rfl <| zI rfl rfl rfl <| zI rfl rfl rfl <| zI rfl rfl rfl <| g_u (zg rfl rfl rfl) <| g_u (zE rfl rfl) <| zF <| zA <| zJ ?_
      exact ⟨⟨(rfl : toAV (Al.look _ _) = some _).trans (congrArg some (by (exact congrArg bv (by first | exact (decide_eq_false (fun e => q (by rw [e]))).symm | (rw [Bool.eq_iff_iff, decide_eq_true_iff, decide_eq_true_iff]; exact ⟨fun h => GScope.ext' f1 f2 h, fun h => by rw [h]⟩))))), rfl⟩, trivial⟩
  · rw [hb1]
    have q : ¬ a.name = b.name := by have e := hb1; rw [xJ] at e; simpa using e
    refine zI rfl rfl rfl <| zI rfl rfl rfl <| zI rfl rfl rfl <| zI rfl rfl rfl <| zI rfl rfl rfl <| g_u (zg rfl rfl rfl) <| g_u (zC rfl rfl) <| zI rfl rfl rfl <| zI rfl rfl rfl <| zI rfl rfl rfl <| zI rfl rfl rfl <| zI rfl rfl rfl <| g_u (zg rfl rfl rfl) <| g_u (zE rfl rfl) <| zF <| zA <| zJ ?_
    exact ⟨⟨(rfl : toAV (Al.look _ _) = some _).trans (congrArg some (by (exact congrArg bv (by first | exact (decide_eq_false (fun e => q (by rw [e]))).symm | (rw [Bool.eq_iff_iff, decide_eq_true_iff, decide_eq_true_iff]; exact ⟨fun h => GScope.ext' f1 f2 h, fun h => by rw [h]⟩))))), rfl⟩, trivial⟩
set_option maxHeartbeats 4000000 in
theorem psameR_c (a b : GRes) (hw : a.wt ≤ 1000000000) : zj Tryz.prog Γ0 45 [a.av, b.av] [bv (decide (a = b))] := by
  have qw : a.wt = 1 + wtAs a.attrs + zr GScope.wt a.scopes := rfl
  have ql := yJ GScope.wt (fun e => by unfold GScope.wt; omega) a.scopes
  refine zb Tryz.func45 rfl Tryz.ntmps45 (by kernel_rfl) rfl fun w0 I0 G0 => ?_
  refine zD <| zB <| g_uG (zi 1002 rfl rfl rfl rfl) rfl <| g_uG (zi 1003 rfl rfl rfl rfl) rfl <| g_u (zE rfl rfl) <| zF <| zA <| zD <| zB <| g_u (zG rfl rfl fa58_0 rfl) <| g_u (zH rfl rfl rfl tA46 tS46 rfl rfl) <| g_u (zG rfl rfl fa58_0 rfl) <| g_u (zH rfl rfl rfl tA46 tS46 rfl rfl) ?_
  refine g_u (zT (psameAs_c a.attrs b.attrs (by omega)) rfl rfl) ?_
  refine g_u (zC rfl rfl) <| zz (t := 10) rfl ?_
  rintro (hb1 | hb1)
  · rw [hb1]
    have f1 : a.attrs = b.attrs := (yb _ _).1 hb1
    refine zP rfl rfl (zG rfl rfl wJ rfl) <| zP rfl rfl (zH rfl rfl rfl tA56 tS56 rfl rfl) <| zP rfl rfl (zG rfl rfl wJ rfl) <| zP rfl rfl (zH rfl rfl rfl tA56 tS56 rfl rfl) ?_
    refine zP rfl rfl (zT (eqdC_c a.scopes b.scopes 77 (by omega) (fun x hx y => psameC_c x y (by have h5 := yM GScope.wt hx; omega))) rfl rfl) ?_
    refine g_u (zX rfl rfl rfl) <| g_u (zE rfl rfl) <| zF <| zA <| zJ ?_
    exact ⟨⟨(rfl : toAV (Al.look _ _) = some _).trans (congrArg some (by (exact congrArg bv (by first | exact (decide_eq_false (fun e => q (by rw [e]))).symm | (rw [Bool.eq_iff_iff, decide_eq_true_iff, decide_eq_true_iff]; exact ⟨fun h => GRes.ext' f1 h, fun h => by rw [h]⟩))))), rfl⟩, trivial⟩
  · rw [hb1]
    have q : ¬ a.attrs = b.attrs := fun h => by have e := hb1; rw [h, sameAs_refl] at e; cases e
    refine zI rfl rfl rfl <| zI rfl rfl rfl <| zI rfl rfl rfl <| zI rfl rfl rfl <| zI rfl rfl rfl <| g_u (zg rfl rfl rfl) <| g_u (zE rfl rfl) <| zF <| zA <| zJ ?_
    exact ⟨⟨(rfl : toAV (Al.look _ _) = some _).trans (congrArg some (by (exact congrArg bv (by first | exact (decide_eq_false (fun e => q (by rw [e]))).symm | (rw [Bool.eq_iff_iff, decide_eq_true_iff, decide_eq_true_iff]; exact ⟨fun h => GRes.ext' f1 h, fun h => by rw [h]⟩))))), rfl⟩, trivial⟩
theorem psameB_c (a b : List GRes) (hw : wtB a ≤ 1000000000) : zj Tryz.prog Γ0 21 [yp a, yp b] [bv (decide (a = b))] := by
  have ql := yJ GRes.wt (fun e => by unfold GRes.wt; omega) a
  have qw : wtB a = zr GRes.wt a := rfl
  refine zb Tryz.func21 rfl Tryz.ntmps21 (by kernel_rfl) rfl fun w0 I0 G0 => ?_
  refine zD <| zB <| g_uG (zi 1002 rfl rfl rfl rfl) rfl <| g_uG (zi 1003 rfl rfl rfl rfl) rfl <| g_u (zE rfl rfl) <| zF <| zA <| zD <| zB <| g_u (zG rfl rfl fa24_0 rfl) <| g_u (zH rfl rfl rfl tA22 tS22 rfl rfl) <| g_u (zG rfl rfl fa24_0 rfl) <| g_u (zH rfl rfl rfl tA22 tS22 rfl rfl) ?_
  refine g_u (zT (eqdR_c a b 45 (by omega) (fun x hx y => psameR_c x y (by have h5 := yM GRes.wt hx; omega))) rfl rfl) ?_
  refine g_u (zE rfl rfl) <| zF <| zA <| zJ ?_
  exact ⟨⟨(rfl : toAV (Al.look _ _) = some _).trans (congrArg some (by rfl)), rfl⟩, trivial⟩
end Go.Proofs
