/- Texts that the proofs of this claim share, part 4: the abstract logic, plain Lean on values and batches, and walks. No condition but those typed in each lemma. -/
import Derived.Maps.RangeRun
import Derived.Sort.OwnSorted
import Derived.Test.YtilolbiefnbccaaGreatDoorQ3
set_option linter.unusedSimpArgs false
set_option linter.unusedVariables false
set_option maxHeartbeats 400000
namespace Go.Proofs
open Go Go.Al
set_option maxRecDepth 10000
theorem z52_w : AV.width z52 = 42 := by kernel_rfl
theorem z107_w : AV.width z107 = 26 := by kernel_rfl
theorem sumA_c (l : List GA) (F : GA → Nat) (fn : FuncId) (caps : List AV) (hf : ∀ y ∈ l, zg Tryz.prog Γ0 fn (y.av :: caps) [iv (F y : Nat)]) (hl : l.length ≤ 1000000000000) (hF : zu F l ≤ 10000000000000000) : zg Tryz.prog Γ0 132 [.sl 7 (l.map avA), .fn (.func fn) [] caps] [iv (zu F l : Nat)] := by
  refine zU Tryz.func132 rfl Tryz.ntmps132 (by kernel_rfl) rfl fun w0 I0 G0 => ?_
  refine zC <| zB <| g_u (zE rfl rfl) <| zF <| zA <| zC <| zB <| g_u (zE rfl rfl) <| zF <| zA <| zC <| zC <| zB <| g_u (zD rfl rfl) <| g_u (yM rfl rfl Tryz.underlying46) <| g_u (zD rfl rfl) <| zF <| zA <| zT ?_
  refine z4 (fun i : Nat => [(1, .imm (.fn (.func fn) [] caps)), (5, .imm (iv (zu F (l.take i) : Nat))), (8, .imm (.sl 7 (l.map avA))), (9, .imm (iv (l.length : Int))), (10, .imm (iv (i : Int)))]) (fun i => i ≤ l.length) (fun i => l.length - i) (0) ?_ ⟨rfl, rfl, rfl, z_ rfl (by rw [List.length_map]), rfl, trivial⟩ ?_
  · exact Nat.zero_le _
  · rintro i h1; have h1 : i ≤ l.length := h1
    refine zC <| zB <| g_u (yh rfl rfl rfl) <| zF <| zA <| zC ?_
    refine zL rfl (fun hb1 => ?_) (fun hb1 => ?_)
    · have hi : i < l.length := by have := of_decide_eq_true hb1; (try simp only [List.length_map] at this); omega
      refine zO <| zA <| zC <| zT <| zC <| zB ?_
      refine g_u (zq rfl rfl rfl Tryz.underlying46 tS93 (by omega) (ixA hi)) ?_
      refine g_u (zb rfl rfl tA93 tS93 rfl rfl) <| g_uG (zx 1007 rfl rfl rfl tZ93) rfl <| g_u (zM rfl rfl rfl tS93 rfl rfl) <| zF <| zA <| zB <| g_u (zD rfl rfl) <| g_u (zD rfl rfl) <| g_u (zj rfl rfl rfl tA93 tS93 rfl rfl) <| g_u (wO (hf _ (xw hi)) rfl rfl rfl) <| g_u (z6 rfl rfl rfl) <| g_u (zE rfl rfl) <| zF <| zJ <| zA <| zB <| g_u (z6 rfl rfl rfl) <| g_u (zD rfl rfl) <| zF <| zA ?_
      have q1 := xg (F := F) (d := a0) hi
      have q2 := w_ (F := F) (d := a0) hi
      refine ⟨i + 1, hi, ⟨rfl, z_ rfl (by show IntKind.i64.wrap ((zu F (l.take i) : Int) + (F (nth l i a0) : Int)) = _; rw [zR (by omega) (by omega), q2]; rfl), rfl, rfl, z_ rfl (by rw [zR (by omega) (by omega)]; rfl), trivial⟩, by (try dsimp only); omega⟩
    · have hin : i = l.length := by have := of_decide_eq_false hb1; (try simp only [List.length_map] at this); omega
      refine yJ <| ze <| ze <| z8 <| zA <| zC <| zB <| g_u (zD rfl rfl) <| g_u (zE rfl rfl) <| zF <| zA <| zI ?_
      exact ⟨⟨(rfl : toAV (Al.look _ _) = some _).trans (congrArg some (by (exact congrArg iv (by rw [hin, List.take_length])))), rfl⟩, trivial⟩
theorem sumE_c (l : List GE) (F : GE → Nat) (fn : FuncId) (caps : List AV) (hf : ∀ y ∈ l, zg Tryz.prog Γ0 fn (y.av :: caps) [iv (F y : Nat)]) (hl : l.length ≤ 1000000000000) (hF : zu F l ≤ 10000000000000000) : zg Tryz.prog Γ0 187 [.sl 3 (l.map GE.av), .fn (.func fn) [] caps] [iv (zu F l : Nat)] := by
  refine zU Tryz.func187 rfl Tryz.ntmps187 (by kernel_rfl) rfl fun w0 I0 G0 => ?_
  refine zC <| zB <| g_u (zE rfl rfl) <| zF <| zA <| zC <| zB <| g_u (zE rfl rfl) <| zF <| zA <| zC <| zC <| zB <| g_u (zD rfl rfl) <| g_u (yM rfl rfl Tryz.underlying47) <| g_u (zD rfl rfl) <| zF <| zA <| zT ?_
  refine z4 (fun i : Nat => [(1, .imm (.fn (.func fn) [] caps)), (5, .imm (iv (zu F (l.take i) : Nat))), (8, .imm (.sl 3 (l.map GE.av))), (9, .imm (iv (l.length : Int))), (10, .imm (iv (i : Int)))]) (fun i => i ≤ l.length) (fun i => l.length - i) (0) ?_ ⟨rfl, rfl, rfl, z_ rfl (by rw [List.length_map]), rfl, trivial⟩ ?_
  · exact Nat.zero_le _
  · rintro i h1; have h1 : i ≤ l.length := h1
    refine zC <| zB <| g_u (yh rfl rfl rfl) <| zF <| zA <| zC ?_
    refine zL rfl (fun hb1 => ?_) (fun hb1 => ?_)
    · have hi : i < l.length := by have := of_decide_eq_true hb1; (try simp only [List.length_map] at this); omega
      refine zO <| zA <| zC <| zT <| zC <| zB ?_
      refine g_u (zq rfl rfl rfl Tryz.underlying47 tS95 (by omega) (ixE hi)) ?_
      refine g_u (zb rfl rfl tA95 tS95 rfl rfl) <| g_uG (zx 1007 rfl rfl rfl tZ95) rfl <| g_u (zM rfl rfl rfl tS95 rfl rfl) <| zF <| zA <| zB <| g_u (zD rfl rfl) <| g_u (zD rfl rfl) <| g_u (zj rfl rfl rfl tA95 tS95 rfl rfl) <| g_u (wO (hf _ (nthE_mem hi)) rfl rfl rfl) <| g_u (z6 rfl rfl rfl) <| g_u (zE rfl rfl) <| zF <| zJ <| zA <| zB <| g_u (z6 rfl rfl rfl) <| g_u (zD rfl rfl) <| zF <| zA ?_
      have q1 := xg (F := F) (d := ge0) hi
      have q2 := w_ (F := F) (d := ge0) hi
      refine ⟨i + 1, hi, ⟨rfl, z_ rfl (by show IntKind.i64.wrap ((zu F (l.take i) : Int) + (F (nth l i ge0) : Int)) = _; rw [zR (by omega) (by omega), q2]; rfl), rfl, rfl, z_ rfl (by rw [zR (by omega) (by omega)]; rfl), trivial⟩, by (try dsimp only); omega⟩
    · have hin : i = l.length := by have := of_decide_eq_false hb1; (try simp only [List.length_map] at this); omega
      refine yJ <| ze <| ze <| z8 <| zA <| zC <| zB <| g_u (zD rfl rfl) <| g_u (zE rfl rfl) <| zF <| zA <| zI ?_
      exact ⟨⟨(rfl : toAV (Al.look _ _) = some _).trans (congrArg some (by (exact congrArg iv (by rw [hin, List.take_length])))), rfl⟩, trivial⟩
theorem sumL_c (l : List GL) (F : GL → Nat) (fn : FuncId) (caps : List AV) (hf : ∀ y ∈ l, zg Tryz.prog Γ0 fn (y.av :: caps) [iv (F y : Nat)]) (hl : l.length ≤ 1000000000000) (hF : zu F l ≤ 10000000000000000) : zg Tryz.prog Γ0 189 [.sl 26 (l.map GL.av), .fn (.func fn) [] caps] [iv (zu F l : Nat)] := by
  refine zU Tryz.func189 rfl Tryz.ntmps189 (by kernel_rfl) rfl fun w0 I0 G0 => ?_
  refine zC <| zB <| g_u (zE rfl rfl) <| zF <| zA <| zC <| zB <| g_u (zE rfl rfl) <| zF <| zA <| zC <| zC <| zB <| g_u (zD rfl rfl) <| g_u (yM rfl rfl Tryz.underlying48) <| g_u (zD rfl rfl) <| zF <| zA <| zT ?_
  refine z4 (fun i : Nat => [(1, .imm (.fn (.func fn) [] caps)), (5, .imm (iv (zu F (l.take i) : Nat))), (8, .imm (.sl 26 (l.map GL.av))), (9, .imm (iv (l.length : Int))), (10, .imm (iv (i : Int)))]) (fun i => i ≤ l.length) (fun i => l.length - i) (0) ?_ ⟨rfl, rfl, rfl, z_ rfl (by rw [List.length_map]), rfl, trivial⟩ ?_
  · exact Nat.zero_le _
  · rintro i h1; have h1 : i ≤ l.length := h1
    refine zC <| zB <| g_u (yh rfl rfl rfl) <| zF <| zA <| zC ?_
    refine zL rfl (fun hb1 => ?_) (fun hb1 => ?_)
    · have hi : i < l.length := by have := of_decide_eq_true hb1; (try simp only [List.length_map] at this); omega
      refine zO <| zA <| zC <| zT <| zC <| zB ?_
      refine g_u (zq rfl rfl rfl Tryz.underlying48 tS107 (by omega) (ixL hi)) ?_
      refine g_u (zb rfl rfl tA107 tS107 rfl (by first | exact getS_w (GL.width _) rfl | rfl)) ?_
      refine g_uG (zx 1007 rfl rfl rfl tZ107) rfl ?_
      refine g_u (zM rfl rfl rfl tS107 (by first | exact beqW (GL.width _) | rfl) (by first | exact setS_w (z107_w.trans (GL.width _).symm) rfl | rfl)) ?_
      refine zF <| zA <| zB <| g_u (zD rfl rfl) <| g_u (zD rfl rfl) ?_
      refine g_u (zG rfl rfl rfl tA107 tS107 rfl (by first | exact getS_w (GL.width _) rfl | rfl)) ?_
      refine g_u (wO (hf _ (nthL_mem hi)) rfl rfl rfl) <| g_u (z6 rfl rfl rfl) <| g_u (zE rfl rfl) <| zF <| zJ <| zA <| zB <| g_u (z6 rfl rfl rfl) <| g_u (zD rfl rfl) <| zF <| zA ?_
      have q1 := xg (F := F) (d := gl0) hi
      have q2 := w_ (F := F) (d := gl0) hi
      refine ⟨i + 1, hi, ⟨rfl, z_ rfl (by show IntKind.i64.wrap ((zu F (l.take i) : Int) + (F (nth l i gl0) : Int)) = _; rw [zR (by omega) (by omega), q2]; rfl), rfl, rfl, z_ rfl (by rw [zR (by omega) (by omega)]; rfl), trivial⟩, by (try dsimp only); omega⟩
    · have hin : i = l.length := by have := of_decide_eq_false hb1; (try simp only [List.length_map] at this); omega
      refine yJ <| ze <| ze <| z8 <| zA <| zC <| zB <| g_u (zD rfl rfl) <| g_u (zE rfl rfl) <| zF <| zA <| zI ?_
      exact ⟨⟨(rfl : toAV (Al.look _ _) = some _).trans (congrArg some (by (exact congrArg iv (by rw [hin, List.take_length])))), rfl⟩, trivial⟩
theorem sumS_c (l : List GSpan) (F : GSpan → Nat) (fn : FuncId) (caps : List AV) (hf : ∀ y ∈ l, zg Tryz.prog Γ0 fn (y.av :: caps) [iv (F y : Nat)]) (hl : l.length ≤ 1000000000000) (hF : zu F l ≤ 10000000000000000) : zg Tryz.prog Γ0 134 [.sl 42 (l.map GSpan.av), .fn (.func fn) [] caps] [iv (zu F l : Nat)] := by
  refine zU Tryz.func134 rfl Tryz.ntmps134 (by kernel_rfl) rfl fun w0 I0 G0 => ?_
  refine zC <| zB <| g_u (zE rfl rfl) <| zF <| zA <| zC <| zB <| g_u (zE rfl rfl) <| zF <| zA <| zC <| zC <| zB <| g_u (zD rfl rfl) <| g_u (yM rfl rfl Tryz.underlying53) <| g_u (zD rfl rfl) <| zF <| zA <| zT ?_
  refine z4 (fun i : Nat => [(1, .imm (.fn (.func fn) [] caps)), (5, .imm (iv (zu F (l.take i) : Nat))), (8, .imm (.sl 42 (l.map GSpan.av))), (9, .imm (iv (l.length : Int))), (10, .imm (iv (i : Int)))]) (fun i => i ≤ l.length) (fun i => l.length - i) (0) ?_ ⟨rfl, rfl, rfl, z_ rfl (by rw [List.length_map]), rfl, trivial⟩ ?_
  · exact Nat.zero_le _
  · rintro i h1; have h1 : i ≤ l.length := h1
    refine zC <| zB <| g_u (yh rfl rfl rfl) <| zF <| zA <| zC ?_
    refine zL rfl (fun hb1 => ?_) (fun hb1 => ?_)
    · have hi : i < l.length := by have := of_decide_eq_true hb1; (try simp only [List.length_map] at this); omega
      refine zO <| zA <| zC <| zT <| zC <| zB ?_
      refine g_u (zq rfl rfl rfl Tryz.underlying53 tS52 (by omega) (ixS hi)) ?_
      refine g_u (zb rfl rfl tA52 tS52 rfl (by first | exact getS_w (GSpan.width _) rfl | rfl)) ?_
      refine g_uG (zx 1007 rfl rfl rfl tZ52) rfl ?_
      refine g_u (zM rfl rfl rfl tS52 (by first | exact beqW (GSpan.width _) | rfl) (by first | exact setS_w (z52_w.trans (GSpan.width _).symm) rfl | rfl)) ?_
      refine zF <| zA <| zB <| g_u (zD rfl rfl) <| g_u (zD rfl rfl) ?_
      refine g_u (zG rfl rfl rfl tA52 tS52 rfl (by first | exact getS_w (GSpan.width _) rfl | rfl)) ?_
      refine g_u (wO (hf _ (nthS_mem hi)) rfl rfl rfl) <| g_u (z6 rfl rfl rfl) <| g_u (zE rfl rfl) <| zF <| zJ <| zA <| zB <| g_u (z6 rfl rfl rfl) <| g_u (zD rfl rfl) <| zF <| zA ?_
      have q1 := xg (F := F) (d := gs0) hi
      have q2 := w_ (F := F) (d := gs0) hi
      refine ⟨i + 1, hi, ⟨rfl, z_ rfl (by show IntKind.i64.wrap ((zu F (l.take i) : Int) + (F (nth l i gs0) : Int)) = _; rw [zR (by omega) (by omega), q2]; rfl), rfl, rfl, z_ rfl (by rw [zR (by omega) (by omega)]; rfl), trivial⟩, by (try dsimp only); omega⟩
    · have hin : i = l.length := by have := of_decide_eq_false hb1; (try simp only [List.length_map] at this); omega
      refine yJ <| ze <| ze <| z8 <| zA <| zC <| zB <| g_u (zD rfl rfl) <| g_u (zE rfl rfl) <| zF <| zA <| zI ?_
      exact ⟨⟨(rfl : toAV (Al.look _ _) = some _).trans (congrArg some (by (exact congrArg iv (by rw [hin, List.take_length])))), rfl⟩, trivial⟩
theorem sumC_c (l : List GScope) (F : GScope → Nat) (fn : FuncId) (caps : List AV) (hf : ∀ y ∈ l, zg Tryz.prog Γ0 fn (y.av :: caps) [iv (F y : Nat)]) (hl : l.length ≤ 1000000000000) (hF : zu F l ≤ 10000000000000000) : zg Tryz.prog Γ0 87 [.sl 3 (l.map GScope.av), .fn (.func fn) [] caps] [iv (zu F l : Nat)] := by
  refine zU Tryz.func87 rfl Tryz.ntmps87 (by kernel_rfl) rfl fun w0 I0 G0 => ?_
  refine zC <| zB <| g_u (zE rfl rfl) <| zF <| zA <| zC <| zB <| g_u (zE rfl rfl) <| zF <| zA <| zC <| zC <| zB <| g_u (zD rfl rfl) <| g_u (yM rfl rfl Tryz.underlying56) <| g_u (zD rfl rfl) <| zF <| zA <| zT ?_
  refine z4 (fun i : Nat => [(1, .imm (.fn (.func fn) [] caps)), (5, .imm (iv (zu F (l.take i) : Nat))), (8, .imm (.sl 3 (l.map GScope.av))), (9, .imm (iv (l.length : Int))), (10, .imm (iv (i : Int)))]) (fun i => i ≤ l.length) (fun i => l.length - i) (0) ?_ ⟨rfl, rfl, rfl, z_ rfl (by rw [List.length_map]), rfl, trivial⟩ ?_
  · exact Nat.zero_le _
  · rintro i h1; have h1 : i ≤ l.length := h1
    refine zC <| zB <| g_u (yh rfl rfl rfl) <| zF <| zA <| zC ?_
    refine zL rfl (fun hb1 => ?_) (fun hb1 => ?_)
    · have hi : i < l.length := by have := of_decide_eq_true hb1; (try simp only [List.length_map] at this); omega
      refine zO <| zA <| zC <| zT <| zC <| zB ?_
      refine g_u (zq rfl rfl rfl Tryz.underlying56 tS55 (by omega) (ixC hi)) ?_
      refine g_u (zb rfl rfl tA55 tS55 rfl rfl) <| g_uG (zx 1007 rfl rfl rfl tZ55) rfl <| g_u (zM rfl rfl rfl tS55 rfl rfl) <| zF <| zA <| zB <| g_u (zD rfl rfl) <| g_u (zD rfl rfl) <| g_u (zj rfl rfl rfl tA55 tS55 rfl rfl) <| g_u (wO (hf _ (nthC_mem hi)) rfl rfl rfl) <| g_u (z6 rfl rfl rfl) <| g_u (zE rfl rfl) <| zF <| zJ <| zA <| zB <| g_u (z6 rfl rfl rfl) <| g_u (zD rfl rfl) <| zF <| zA ?_
      have q1 := xg (F := F) (d := gc0) hi
      have q2 := w_ (F := F) (d := gc0) hi
      refine ⟨i + 1, hi, ⟨rfl, z_ rfl (by show IntKind.i64.wrap ((zu F (l.take i) : Int) + (F (nth l i gc0) : Int)) = _; rw [zR (by omega) (by omega), q2]; rfl), rfl, rfl, z_ rfl (by rw [zR (by omega) (by omega)]; rfl), trivial⟩, by (try dsimp only); omega⟩
    · have hin : i = l.length := by have := of_decide_eq_false hb1; (try simp only [List.length_map] at this); omega
      refine yJ <| ze <| ze <| z8 <| zA <| zC <| zB <| g_u (zD rfl rfl) <| g_u (zE rfl rfl) <| zF <| zA <| zI ?_
      exact ⟨⟨(rfl : toAV (Al.look _ _) = some _).trans (congrArg some (by (exact congrArg iv (by rw [hin, List.take_length])))), rfl⟩, trivial⟩
theorem sumR_c (l : List GRes) (F : GRes → Nat) (fn : FuncId) (caps : List AV) (hf : ∀ y ∈ l, zg Tryz.prog Γ0 fn (y.av :: caps) [iv (F y : Nat)]) (hl : l.length ≤ 1000000000000) (hF : zu F l ≤ 10000000000000000) : zg Tryz.prog Γ0 52 [.sl 2 (l.map GRes.av), .fn (.func fn) [] caps] [iv (zu F l : Nat)] := by
  refine zU Tryz.func52 rfl Tryz.ntmps52 (by kernel_rfl) rfl fun w0 I0 G0 => ?_
  refine zC <| zB <| g_u (zE rfl rfl) <| zF <| zA <| zC <| zB <| g_u (zE rfl rfl) <| zF <| zA <| zC <| zC <| zB <| g_u (zD rfl rfl) <| g_u (yM rfl rfl Tryz.underlying22) <| g_u (zD rfl rfl) <| zF <| zA <| zT ?_
  refine z4 (fun i : Nat => [(1, .imm (.fn (.func fn) [] caps)), (5, .imm (iv (zu F (l.take i) : Nat))), (8, .imm (.sl 2 (l.map GRes.av))), (9, .imm (iv (l.length : Int))), (10, .imm (iv (i : Int)))]) (fun i => i ≤ l.length) (fun i => l.length - i) (0) ?_ ⟨rfl, rfl, rfl, z_ rfl (by rw [List.length_map]), rfl, trivial⟩ ?_
  · exact Nat.zero_le _
  · rintro i h1; have h1 : i ≤ l.length := h1
    refine zC <| zB <| g_u (yh rfl rfl rfl) <| zF <| zA <| zC ?_
    refine zL rfl (fun hb1 => ?_) (fun hb1 => ?_)
    · have hi : i < l.length := by have := of_decide_eq_true hb1; (try simp only [List.length_map] at this); omega
      refine zO <| zA <| zC <| zT <| zC <| zB ?_
      refine g_u (zq rfl rfl rfl Tryz.underlying22 tS58 (by omega) (ixR hi)) ?_
      refine g_u (zb rfl rfl tA58 tS58 rfl rfl) <| g_uG (zx 1007 rfl rfl rfl tZ58) rfl <| g_u (zM rfl rfl rfl tS58 rfl rfl) <| zF <| zA <| zB <| g_u (zD rfl rfl) <| g_u (zD rfl rfl) <| g_u (zj rfl rfl rfl tA58 tS58 rfl rfl) <| g_u (wO (hf _ (nthR_mem hi)) rfl rfl rfl) <| g_u (z6 rfl rfl rfl) <| g_u (zE rfl rfl) <| zF <| zJ <| zA <| zB <| g_u (z6 rfl rfl rfl) <| g_u (zD rfl rfl) <| zF <| zA ?_
      have q1 := xg (F := F) (d := gr0) hi
      have q2 := w_ (F := F) (d := gr0) hi
      refine ⟨i + 1, hi, ⟨rfl, z_ rfl (by show IntKind.i64.wrap ((zu F (l.take i) : Int) + (F (nth l i gr0) : Int)) = _; rw [zR (by omega) (by omega), q2]; rfl), rfl, rfl, z_ rfl (by rw [zR (by omega) (by omega)]; rfl), trivial⟩, by (try dsimp only); omega⟩
    · have hin : i = l.length := by have := of_decide_eq_false hb1; (try simp only [List.length_map] at this); omega
      refine yJ <| ze <| ze <| z8 <| zA <| zC <| zB <| g_u (zD rfl rfl) <| g_u (zE rfl rfl) <| zF <| zA <| zI ?_
      exact ⟨⟨(rfl : toAV (Al.look _ _) = some _).trans (congrArg some (by (exact congrArg iv (by rw [hin, List.take_length])))), rfl⟩, trivial⟩
theorem attrW_c (a : GA) (ho : a.ok) (hw : a.wt ≤ 10000000) : zg Tryz.prog Γ0 133 [a.av] [iv (attrW a : Nat)] := by
  have ek := a.wt_eq
  have q1 := textM_le a.val
  refine zU Tryz.func133 rfl Tryz.ntmps133 (by kernel_rfl) rfl fun w0 I0 G0 => ?_
  refine zC <| zB <| g_uG (zl 1001 rfl rfl rfl rfl) rfl <| g_u (zE rfl rfl) <| zF <| zA <| zC <| wH mixed <| g_u (zH rfl rfl fa93_0 rfl) <| g_u (zG rfl rfl rfl tA9 tS9 rfl rfl) <| g_u (xT rfl rfl Tryz.underlying9) <| g_u (s_mul rfl rfl rfl) <| g_u (z6 rfl rfl rfl) <| g_u (zH rfl rfl fa93_1 rfl) <| g_u (zG rfl rfl rfl tA91 tS91 rfl rfl) ?_
  refine g_u (zQ (text_c a.val ((GA.ok_iff a).1 ho).2 (by omega)) rfl rfl) ?_
  refine g_u (xT rfl rfl Tryz.underlying9) <| g_u (s_mul rfl rfl rfl) <| g_u (z6 rfl rfl rfl) <| g_u (zE rfl rfl) ?_
  refine zF ⟨by kernel_rfl, ?_⟩
  refine zA <| zI ?_
  exact ⟨⟨(rfl : toAV (Al.look _ _) = some _).trans (congrArg some (by (exact congrArg iv (by unfold attrW; ((try simp only [qa, qb, qc, ne_eq, beq_iff_eq, qd, beq_eq_false_iff_ne, Bool.not_eq_true', Bool.not_eq_false', gt_iff_lt, ge_iff_le] at *); (repeat simp (disch := omega) only [zR, zh] at *)); omega)))), rfl⟩, trivial⟩
theorem wattrs_c (l : List GA) (ho : ∀ a ∈ l, a.ok) (hw : wtAs l ≤ 10000000) : zg Tryz.prog Γ0 86 [.sl 7 (l.map avA)] [iv (wD l : Nat)] := by
  have q1 := attrsW_le l
  have q2 := y5 l
  refine zU Tryz.func86 rfl Tryz.ntmps86 (by kernel_rfl) rfl fun w0 I0 G0 => ?_
  refine zC <| zB <| g_u (zE rfl rfl) <| zF <| zA <| zC <| zB <| g_u (zD rfl rfl) ?_
  refine g_u (zQ (sumA_c l attrW 133 [] (fun a ha => attrW_c a (ho a ha) (by have := wk ha; omega)) (by omega) (by rw [← attrsW_sum]; omega)) rfl rfl) ?_
  refine g_u (zE rfl rfl) <| zF <| zA <| zI ?_
  exact ⟨⟨(rfl : toAV (Al.look _ _) = some _).trans (congrArg some (by (rw [attrsW_sum]))), rfl⟩, trivial⟩
end Go.Proofs
namespace Go.Proofs
open Go Go.Al
set_option maxRecDepth 10000
theorem cmp216 : cmpFn Tryz.prog 216 := ⟨_, Tryz.func216, by kernel_rfl, rfl, by kernel_rfl, by kernel_rfl⟩
theorem cmp_197_c (s t : ByteArray) : zg Tryz.prog Γ0 197 [sv s, sv t] [iv (cmpK s t)] := by
  refine zU Tryz.func197 rfl Tryz.ntmps197 (by kernel_rfl) rfl fun w0 I0 G0 => ?_
  refine zC <| zB <| g_u (zE rfl rfl) <| zF <| zA <| zC <| zB <| g_u (zD rfl rfl) <| g_u (zD rfl rfl) <| g_u (s_cmpS cmp216 rfl rfl rfl) <| g_u (zE rfl rfl) <| zF <| zA <| zI ?_
  exact ⟨⟨(rfl : toAV (Al.look _ _) = some _).trans (congrArg some (by rfl)), rfl⟩, trivial⟩
theorem cmp_149_c (s t : ByteArray) : zg Tryz.prog Γ0 149 [sv s, sv t] [iv (cmpK s t)] := by
  refine zU Tryz.func149 rfl Tryz.ntmps149 (by kernel_rfl) rfl fun w0 I0 G0 => ?_
  refine zC <| zB <| g_u (zE rfl rfl) <| zF <| zA <| zC <| zB <| g_u (zD rfl rfl) <| g_u (zD rfl rfl) <| g_u (zQ (cmp_197_c _ _) rfl rfl) <| g_u (zE rfl rfl) <| zF <| zA <| zI ?_
  exact ⟨⟨(rfl : toAV (Al.look _ _) = some _).trans (congrArg some (by rfl)), rfl⟩, trivial⟩
theorem cmpA_c (a : GA) (k : ByteArray) : zg Tryz.prog Γ0 148 [a.av, sv k] [iv (cmpK a.key k)] := by
  refine zU Tryz.func148 rfl Tryz.ntmps148 (by kernel_rfl) rfl fun w0 I0 G0 => ?_
  refine zC <| zB <| g_uG (zl 1002 rfl rfl rfl rfl) rfl <| g_u (zE rfl rfl) <| zF <| zA <| zC <| zB <| g_u (zH rfl rfl fa93_0 rfl) <| g_u (zG rfl rfl rfl tA9 tS9 rfl rfl) <| g_u (zD rfl rfl) <| g_u (zQ (cmp_149_c _ _) rfl rfl) <| g_u (zE rfl rfl) <| zF <| zA <| zI ?_
  exact ⟨⟨(rfl : toAV (Al.look _ _) = some _).trans (congrArg some (by rfl)), rfl⟩, trivial⟩
theorem bsf_c (l : List GA) (k : ByteArray) (hr : risA none l) (hl : l.length ≤ 1000000000000) : zg Tryz.prog Γ0 147 [.sl 7 (l.map avA), sv k, .fn (.func 148) [] []] [iv (posA l k : Nat), bv (hasA l k)] := by
  refine zU Tryz.func147 rfl Tryz.ntmps147 (by kernel_rfl) rfl fun w0 I0 G0 => ?_
  refine zC <| zB <| g_u (zE rfl rfl) <| g_u (zE rfl rfl) <| zF <| zA <| zC <| zB <| g_u (zD rfl rfl) <| g_u (yM rfl rfl Tryz.underlying46) <| g_u (zE rfl rfl) <| zF <| zA <| zC <| zB <| g_u (zD rfl rfl) <| g_u (zE rfl rfl) <| g_u (zE rfl rfl) <| zF <| zA <| zC <| zT ?_
  refine z4 (fun j : Nat × Nat => [(0, .imm (.sl 7 (l.map avA))), (1, .imm (sv k)), (2, .imm (.fn (.func 148) [] [])), (8, .imm (iv (l.length : Int))), (9, .imm (iv (j.1 : Int))), (10, .imm (iv (j.2 : Int)))]) (fun j => j.1 ≤ j.2 ∧ j.2 ≤ l.length ∧ (∀ i, i < j.1 → ltB (nthA l i).key k = true) ∧ (∀ i, j.2 ≤ i → i < l.length → ltB (nthA l i).key k = false)) (fun j => j.2 - j.1) (⟨0, l.length⟩) ?_ ⟨rfl, rfl, rfl, z_ rfl (by rw [List.length_map]), rfl, z_ rfl (by rw [List.length_map]), trivial⟩ ?_
  · exact ⟨Nat.zero_le _, Nat.le_refl _, fun i h => absurd h (Nat.not_lt_zero _), fun i h1 h2 => absurd h2 (Nat.not_lt.2 h1)⟩
  · rintro ⟨lo, hi⟩ ⟨h1, h2, h3, h4⟩; dsimp only at h1 h2 h3 h4
    have em : IntKind.i64.wrap ((IntKind.u64.wrap (IntKind.i64.wrap ((lo : Int) + (hi : Int)))).fdiv (2 ^ (min (1 : Int).toNat IntKind.u64.bits))) = (((lo + hi) / 2 : Nat) : Int) := by rw [zR (n := (lo : Int) + (hi : Int)) (by omega) (by omega), wrapu64 (by omega) (by omega), Int.fdiv_eq_ediv_of_nonneg _ (by decide), show (2 : Int) ^ (min (1 : Int).toNat IntKind.u64.bits) = 2 from by decide, zR (by omega) (by omega)]; omega
    refine zC <| zC <| zB <| g_u (zD rfl rfl) <| g_u (zD rfl rfl) <| g_u (yh rfl rfl rfl) <| zF <| zA ?_
    refine zL rfl (fun hb1 => ?_) (fun hb1 => ?_)
    · have hmid : (lo + hi) / 2 < l.length := by have := of_decide_eq_true hb1; omega
      refine zO <| zA <| zT <| zC <| zB <| g_u (zD rfl rfl) <| g_u (zD rfl rfl) <| g_u (z6 rfl rfl rfl) <| g_u (s_cvII rfl rfl Tryz.underlying3 Tryz.underlying194) ?_
      refine g_u (s_shr rfl rfl rfl (by first | decide | omega | (((try simp only [qa, qb, qc, ne_eq, beq_iff_eq, qd, beq_eq_false_iff_ne, Bool.not_eq_true', Bool.not_eq_false', gt_iff_lt, ge_iff_le] at *); (repeat simp (disch := omega) only [zR, zh] at *)); omega))) ?_
      refine g_u (s_cvII rfl rfl Tryz.underlying194 Tryz.underlying3) <| g_u (zE rfl rfl) <| zF <| zA <| zC <| zB <| g_u (zD rfl rfl) <| g_u (zD rfl rfl) <| g_u (zD rfl rfl) ?_
      refine g_u (zq rfl rfl rfl Tryz.underlying46 tS93 (by erw [em]; omega) ((congrArg (fun z : Int => (l.map avA)[z.toNat]?) em).trans (ixA hmid))) ?_
      refine g_u (zb rfl rfl tA93 tS93 rfl rfl) <| g_u (zD rfl rfl) <| g_u (wO (cmpA_c _ _) rfl rfl rfl) <| g_u (yh rfl rfl rfl) <| zF <| zA ?_
      refine zL rfl (fun hb2 => ?_) (fun hb2 => ?_)
      · have hk : ltB (nthA l ((lo + hi) / 2)).key k = true := (cmpK_lt _ _).1 (of_decide_eq_true hb2)
        refine zB <| g_u (zD rfl rfl) <| g_u (z6 rfl rfl rfl) <| g_u (zE rfl rfl) <| zF <| zJ <| zA ?_
        have hlt : lo < hi := by have := of_decide_eq_true hb1; omega
        first
          | exact ⟨⟨(lo + hi) / 2 + 1, hi⟩, ⟨by dsimp only; omega, h2, fun i hi1 => ris_left hr hmid hk (by dsimp only at hi1; omega), h4⟩, ⟨rfl, rfl, rfl, rfl, z_ rfl (by erw [em]; rw [zR (by omega) (by omega)]; rfl), rfl, trivial⟩, by dsimp only; omega⟩
          | exact ⟨⟨lo, (lo + hi) / 2⟩, ⟨by dsimp only; omega, by dsimp only; omega, h3, fun i hi1 hi2 => ris_right hr hk hi1 hi2⟩, ⟨rfl, rfl, rfl, rfl, rfl, z_ rfl em, trivial⟩, by dsimp only; omega⟩
      · have hk : ltB (nthA l ((lo + hi) / 2)).key k = false := by cases hq : ltB (nthA l ((lo + hi) / 2)).key k; rfl; exact absurd ((cmpK_lt _ _).2 hq) (of_decide_eq_false hb2)
        refine zB <| g_u (zD rfl rfl) <| g_u (zE rfl rfl) <| zF <| zJ <| zA ?_
        have hlt : lo < hi := by have := of_decide_eq_true hb1; omega
        first
          | exact ⟨⟨(lo + hi) / 2 + 1, hi⟩, ⟨by dsimp only; omega, h2, fun i hi1 => ris_left hr hmid hk (by dsimp only at hi1; omega), h4⟩, ⟨rfl, rfl, rfl, rfl, z_ rfl (by erw [em]; rw [zR (by omega) (by omega)]; rfl), rfl, trivial⟩, by dsimp only; omega⟩
          | exact ⟨⟨lo, (lo + hi) / 2⟩, ⟨by dsimp only; omega, by dsimp only; omega, h3, fun i hi1 hi2 => ris_right hr hk hi1 hi2⟩, ⟨rfl, rfl, rfl, rfl, rfl, z_ rfl em, trivial⟩, by dsimp only; omega⟩
    · have hlo : lo = hi := by have := of_decide_eq_false hb1; omega
      have hp : lo = posA l k := posA_spec l k lo (by omega) h3 (fun i hi1 hi2 => h4 i (by omega) hi2)
      refine yJ <| ze <| ze <| z8 <| zA <| zC <| zB <| g_u (zD rfl rfl) <| g_u (zD rfl rfl) <| g_u (zD rfl rfl) <| g_u (yh rfl rfl rfl) <| g_u (zD rfl rfl) <| yQ (t := 39) rfl ?_
      rintro (hb3 | hb3)
      · rw [hb3]
        have hll : lo < l.length := by have := of_decide_eq_true hb3; (try simp only [List.length_map] at this); omega
        refine zf rfl rfl (zD rfl rfl) <| zf rfl rfl (zD rfl rfl) <| zf rfl rfl (zD rfl rfl) ?_
        refine zf rfl rfl (zq rfl rfl rfl Tryz.underlying46 tS93 (by omega) (ixA hll)) ?_
        refine zf rfl rfl (zb rfl rfl tA93 tS93 rfl rfl) <| zf rfl rfl (zD rfl rfl) <| zf rfl rfl (wO (cmpA_c _ _) rfl rfl rfl) <| zf rfl rfl (yR rfl rfl rfl) <| g_u (zo rfl rfl rfl) <| g_u (zE rfl rfl) <| g_u (zE rfl rfl) <| zF <| zA <| zI ?_
        exact ⟨⟨(rfl : toAV (Al.look _ _) = some _).trans (congrArg (fun n : Nat => some (iv n)) hp), rfl⟩, ⟨(rfl : toAV (Al.look _ _) = some _).trans (congrArg (fun b => some (bv b)) (by rw [hasA, ← hp, decide_eq_true hll, Bool.true_and, ← Bool.coe_iff_coe]; simp only [beq_iff_eq, qa]; exact cmpK_eq _ _)), rfl⟩, trivial⟩
      · rw [hb3]
        have hll : ¬ lo < l.length := by have := of_decide_eq_false hb3; (try simp only [List.length_map] at this); omega
        refine zS rfl rfl rfl <| zS rfl rfl rfl <| zS rfl rfl rfl <| zS rfl rfl rfl <| zS rfl rfl rfl <| zS rfl rfl rfl <| zS rfl rfl rfl <| zS rfl rfl rfl <| g_u (z2 rfl rfl rfl) <| g_u (zE rfl rfl) <| g_u (zE rfl rfl) <| zF <| zA <| zI ?_
        exact ⟨⟨(rfl : toAV (Al.look _ _) = some _).trans (congrArg (fun n : Nat => some (iv n)) hp), rfl⟩, ⟨(rfl : toAV (Al.look _ _) = some _).trans (congrArg (fun b => some (bv b)) (by rw [hasA, ← hp, decide_eq_false hll, Bool.false_and])), rfl⟩, trivial⟩
theorem find_c (l : List GA) (k : ByteArray) (hr : risA none l) (hl : l.length ≤ 1000000000000) : zg Tryz.prog Γ0 97 [.sl 7 (l.map avA), sv k] [iv (posA l k : Nat), bv (hasA l k)] := by
  refine zU Tryz.func97 rfl Tryz.ntmps97 (by kernel_rfl) rfl fun w0 I0 G0 => ?_
  refine zC <| zB <| g_u (zE rfl rfl) <| g_u (zE rfl rfl) <| zF <| zA <| zC <| zB <| g_u (zD rfl rfl) <| g_u (zD rfl rfl) <| g_u (s_call2 (bsf_c l k hr hl) rfl rfl) <| g_u (zZ rfl rfl rfl rfl) <| g_u (zZ rfl rfl rfl rfl) <| g_u (zE rfl rfl) <| g_u (zE rfl rfl) <| zF <| zA <| zI ?_
  exact ⟨⟨(rfl : toAV (Al.look _ _) = some _).trans (congrArg some (by rfl)), rfl⟩, ⟨(rfl : toAV (Al.look _ _) = some _).trans (congrArg some (by rfl)), rfl⟩, trivial⟩
theorem get_c (l : List GA) (k : ByteArray) (hr : risA none l) (hl : l.length ≤ 1000000000000) : zg Tryz.prog Γ0 152 [.sl 7 (l.map avA), sv k] [((getA l k).getD zeroV).av, bv (getA l k).isSome] := by
  refine zU Tryz.func152 rfl Tryz.ntmps152 (by kernel_rfl) rfl fun w0 I0 G0 => ?_
  refine zC <| zB <| g_uG (zx 1004 rfl rfl rfl tZ91) rfl <| g_u (zE rfl rfl) <| zF <| zA <| zC <| zC <| zB <| g_u (zD rfl rfl) <| g_u (zD rfl rfl) <| g_u (s_call2 (find_c l k hr hl) rfl rfl) <| g_u (wn rfl rfl) <| g_u (zZ rfl rfl rfl rfl) <| g_u (zZ rfl rfl rfl rfl) <| g_u (zE rfl rfl) <| g_u (zE rfl rfl) <| zF <| zA <| zC <| zB <| g_u (zD rfl rfl) <| zF <| zA ?_
  refine zL rfl (fun hb1 => ?_) (fun hb1 => ?_)
  · have hh : hasA l k = true := hb1
    have hll : posA l k < l.length := by unfold hasA at hh; simp at hh; exact hh.1
    refine zC <| zB <| g_u (zD rfl rfl) <| g_u (zD rfl rfl) ?_
    refine g_u (zq rfl rfl rfl Tryz.underlying46 tS93 (by omega) (ixA hll)) ?_
    refine g_u (zY rfl rfl fa93_1 rfl rfl) <| g_u (zb rfl rfl tA91 tS91 rfl rfl) <| g_u (zM rfl rfl rfl tS91 rfl rfl) <| g_u (zE rfl rfl) <| zF <| zA <| zI <| zP ?_
    exact ⟨⟨_, _, _, _, _, _, _, rfl, rfl, tA91, tS91, rfl, rfl, (rfl : toAV _ = some _).trans (congrArg some (by (rw [getA_pos hr k, if_pos hh]; rfl)))⟩, ⟨(rfl : toAV (Al.look _ _) = some _).trans (congrArg some (by (rw [getA_pos hr k, if_pos hh]; rfl))), rfl⟩, trivial⟩
  · have hh : hasA l k = false := hb1
    refine zO <| zA <| zC <| zB <| g_u (xB rfl tU91 us91 pl91 rfl rfl rfl rfl) <| g_u (zM rfl rfl rfl tS91 rfl rfl) <| g_u (zE rfl rfl) <| zF <| zA <| zI ?_
    exact ⟨⟨_, _, _, _, _, _, _, rfl, rfl, tA91, tS91, rfl, rfl, (rfl : toAV _ = some _).trans (congrArg some (by (rw [getA_pos hr k, if_neg (by rw [hh]; decide)]; rfl)))⟩, ⟨(rfl : toAV (Al.look _ _) = some _).trans (congrArg some (by (rw [getA_pos hr k, if_neg (by rw [hh]; decide)]; rfl))), rfl⟩, trivial⟩
theorem getA_ok {l : List GA} (k : ByteArray) (h : ∀ a ∈ l, a.ok) : ((getA l k).getD zeroV).ok ∧ ((getA l k).getD zeroV).wt ≤ 1 + wtAs l := by
  cases hg : getA l k with
  | none => exact ⟨by simp only [Option.getD_none]; rw [GV.ok_iff]; exact ⟨by decide, by decide, by decide, by decide, fun x hx => absurd hx (by simp [zeroV, GV.list]), fun x hx => absurd hx (by simp [zeroV, GV.map])⟩, by simp only [Option.getD_none]; rw [GV.wt_eq]; simp [zeroV, GV.list, GV.map, GV.text, wtVs, wtAs]; exact Nat.zero_le _⟩
  | some v =>
    obtain ⟨a, ha, rfl, _⟩ := getA_mem hg
    have := wk ha
    have := a.wt_eq
    exact ⟨((GA.ok_iff a).1 (h a ha)).2, by simp only [Option.getD_some]; omega⟩
theorem textA_c (l : List GA) (k : ByteArray) (hr : risA none l) (hl : l.length ≤ 1000000000000) (ho : ∀ a ∈ l, a.ok) (hw : wtAs l ≤ 9000000) : zg Tryz.prog Γ0 99 [.sl 7 (l.map avA), sv k] [sv (textA l k)] := by
  refine zU Tryz.func99 rfl Tryz.ntmps99 (by kernel_rfl) rfl fun w0 I0 G0 => ?_
  refine zC <| zB <| g_u (zE rfl rfl) <| zF <| zA <| zC <| zB <| g_u (zD rfl rfl) <| g_u (zD rfl rfl) <| g_u (s_call2 (get_c l k hr hl) rfl rfl) <| g_u (wn rfl rfl) <| g_u (zZ rfl rfl rfl rfl) <| g_u (zZ rfl rfl rfl rfl) <| g_uG (zx 1005 rfl rfl rfl tZ91) rfl <| g_u (zM rfl rfl rfl tS91 rfl rfl) <| g_u (zE rfl rfl) <| zF <| zA <| zC <| zB <| g_u (zj rfl rfl rfl tA91 tS91 rfl rfl) ?_
  refine g_u (zQ (text_c _ (getA_ok k ho).1 (by have := (getA_ok k ho).2; omega)) rfl rfl) ?_
  refine g_u (zE rfl rfl) <| zF <| zA <| zI ?_
  exact ⟨⟨(rfl : toAV (Al.look _ _) = some _).trans (congrArg some (by rfl)), rfl⟩, trivial⟩
theorem service_c (r : GRes) (ho : ∀ a ∈ r.attrs, a.ok) (hw : wtAs r.attrs ≤ 9000000) (hr : risA none r.attrs) : zg Tryz.prog Γ0 68 [r.av] [sv (xK r)] := by
  have q1 := y5 r.attrs
  refine zU Tryz.func68 rfl Tryz.ntmps68 (by kernel_rfl) rfl fun w0 I0 G0 => ?_
  refine zC <| zB <| g_uG (zl 1001 rfl rfl rfl rfl) rfl <| g_u (zE rfl rfl) <| zF <| zA <| zC <| zB <| g_u (zH rfl rfl fa58_0 rfl) <| g_u (zG rfl rfl rfl tA46 tS46 rfl rfl) ?_
  refine g_u (zQ (textA_c r.attrs skey hr (by omega) ho hw) rfl rfl) ?_
  refine g_u (zE rfl rfl) <| zF <| zA <| zI ?_
  exact ⟨⟨(rfl : toAV (Al.look _ _) = some _).trans (congrArg some (by rfl)), rfl⟩, trivial⟩
end Go.Proofs
namespace Go.Proofs
open Go Go.Al
set_option maxRecDepth 10000
theorem evW_c (e : GE) (ho : e.ok) (hw : e.wt ≤ 10000000) : zg Tryz.prog Γ0 188 [e.av] [iv (evW e : Nat)] := by
  have q0 := evW_le e
  have q1 : evW e = 64 + 6 * e.name.size + wD e.attrs := rfl
  have q2 : e.wt = 1 + e.name.size + wtAs e.attrs := rfl
  refine zU Tryz.func188 rfl Tryz.ntmps188 (by kernel_rfl) rfl fun w0 I0 G0 => ?_
  refine zC <| zB <| g_uG (zl 1001 rfl rfl rfl rfl) rfl <| g_u (zE rfl rfl) <| zF <| zA <| zC <| wH mixed <| g_u (zH rfl rfl fa95_1 rfl) <| g_u (zG rfl rfl rfl tA9 tS9 rfl rfl) <| g_u (xT rfl rfl Tryz.underlying9) <| g_u (s_mul rfl rfl rfl) <| g_u (z6 rfl rfl rfl) <| g_u (zH rfl rfl fa95_2 rfl) <| g_u (zG rfl rfl rfl tA46 tS46 rfl rfl) ?_
  refine g_u (zQ (wattrs_c _ ho.2.2 (by omega)) rfl rfl) ?_
  refine g_u (z6 rfl rfl rfl) <| g_u (zE rfl rfl) ?_
  refine zF ⟨by kernel_rfl, ?_⟩
  refine zA <| zI ?_
  exact ⟨⟨(rfl : toAV (Al.look _ _) = some _).trans (congrArg some (by (exact congrArg iv (by rw [q1]; ((try simp only [qa, qb, qc, ne_eq, beq_iff_eq, qd, beq_eq_false_iff_ne, Bool.not_eq_true', Bool.not_eq_false', gt_iff_lt, ge_iff_le] at *); (repeat simp (disch := omega) only [zR, zh] at *)); omega)))), rfl⟩, trivial⟩
theorem lkW_c (e : GL) (ho : e.ok) (hw : e.wt ≤ 10000000) : zg Tryz.prog Γ0 190 [e.av] [iv (lkW e : Nat)] := by
  have q0 := lkW_le e
  have q1 : lkW e = 64 + 6 * e.state.size + wD e.attrs := rfl
  have q2 : e.wt = 1 + e.state.size + wtAs e.attrs := rfl
  refine zU Tryz.func190 rfl Tryz.ntmps190 (by kernel_rfl) rfl fun w0 I0 G0 => ?_
  refine zC <| zB <| g_uG (zl 1001 rfl rfl rfl rfl) rfl <| g_u (zE rfl rfl) <| zF <| zA <| zC <| wH mixed <| g_u (zH rfl rfl fa107_2 rfl) <| g_u (zG rfl rfl rfl tA9 tS9 rfl rfl) <| g_u (xT rfl rfl Tryz.underlying9) <| g_u (s_mul rfl rfl rfl) <| g_u (z6 rfl rfl rfl) <| g_u (zH rfl rfl fa107_3 rfl) <| g_u (zG rfl rfl rfl tA46 tS46 rfl rfl) ?_
  refine g_u (zQ (wattrs_c _ ho.2.2.2 (by omega)) rfl rfl) ?_
  refine g_u (z6 rfl rfl rfl) <| g_u (zE rfl rfl) ?_
  refine zF ⟨by kernel_rfl, ?_⟩
  refine zA <| zI ?_
  exact ⟨⟨(rfl : toAV (Al.look _ _) = some _).trans (congrArg some (by (exact congrArg iv (by rw [q1]; ((try simp only [qa, qb, qc, ne_eq, beq_iff_eq, qd, beq_eq_false_iff_ne, Bool.not_eq_true', Bool.not_eq_false', gt_iff_lt, ge_iff_le] at *); (repeat simp (disch := omega) only [zR, zh] at *)); omega)))), rfl⟩, trivial⟩
theorem spanW_c (s : GSpan) (t : ByteArray) (ho : s.ok) (hw : s.wt ≤ 1000000) (ht : t.size ≤ 10000000) : zg Tryz.prog Γ0 136 [s.av, sv t] [iv (spanW s t : Nat)] := by
  have q0 := spanW_le s t ht
  have qe := spanW_eq s t
  have qw : s.wt = 1 + s.state.size + s.name.size + s.note.size + wtAs s.attrs + zu GE.wt s.events + zu GL.wt s.links := rfl
  have ql := yW GE.wt (fun e => by unfold GE.wt; omega) s.events
  have qm := yW GL.wt (fun e => by unfold GL.wt; omega) s.links
  refine zU Tryz.func136 rfl Tryz.ntmps136 (by kernel_rfl) rfl fun w0 I0 G0 => ?_
  refine zC <| zB <| g_uG (zl 1002 rfl rfl rfl rfl) rfl <| g_u (zE rfl rfl) <| zF <| zA <| zC <| wH mixed <| g_u (zD rfl rfl) <| g_u (xT rfl rfl Tryz.underlying9) <| g_u (zH rfl rfl fa52_3 rfl) <| g_u (zG rfl rfl rfl tA9 tS9 rfl rfl) <| g_u (xT rfl rfl Tryz.underlying9) <| g_u (z6 rfl rfl rfl) <| g_u (zH rfl rfl fa52_4 rfl) <| g_u (zG rfl rfl rfl tA9 tS9 rfl rfl) <| g_u (xT rfl rfl Tryz.underlying9) <| g_u (z6 rfl rfl rfl) <| g_u (zH rfl rfl fa52_11 rfl) <| g_u (zH rfl rfl fa50_1 rfl) <| g_u (zG rfl rfl rfl tA9 tS9 rfl rfl) <| g_u (xT rfl rfl Tryz.underlying9) <| g_u (z6 rfl rfl rfl) <| g_u (s_mul rfl rfl rfl) <| g_u (z6 rfl rfl rfl) <| g_u (zH rfl rfl fa52_8 rfl) <| g_u (zG rfl rfl rfl tA46 tS46 rfl rfl) ?_
  refine g_u (zQ (wattrs_c _ ho.2.2.2.1 (by omega)) rfl rfl) ?_
  refine g_u (z6 rfl rfl rfl) <| g_u (zE rfl rfl) ?_
  refine zF ⟨by kernel_rfl, ?_⟩
  refine zA <| zC <| zB <| g_u (zD rfl rfl) <| g_u (zH rfl rfl fa52_9 rfl) <| g_u (zG rfl rfl rfl tA47 tS47 rfl rfl) ?_
  refine g_u (zQ (sumE_c s.events evW 188 [] (fun e he => evW_c e (ho.2.2.2.2.1 e he) (by have := yn GE.wt he; omega)) (by omega) (by omega)) rfl rfl) ?_
  refine g_u (z6 rfl rfl rfl) <| g_u (zE rfl rfl) <| zF <| zA <| zC <| zB <| g_u (zD rfl rfl) <| g_u (zH rfl rfl fa52_10 rfl) <| g_u (zG rfl rfl rfl tA48 tS48 rfl rfl) ?_
  refine g_u (zQ (sumL_c s.links lkW 190 [] (fun e he => lkW_c e (ho.2.2.2.2.2 e he) (by have := yn GL.wt he; omega)) (by omega) (by omega)) rfl rfl) ?_
  refine g_u (z6 rfl rfl rfl) <| g_u (zE rfl rfl) <| zF <| zA <| zI ?_
  exact ⟨⟨(rfl : toAV (Al.look _ _) = some _).trans (congrArg some (by (exact congrArg iv (by rw [qe]; ((try simp only [qa, qb, qc, ne_eq, beq_iff_eq, qd, beq_eq_false_iff_ne, Bool.not_eq_true', Bool.not_eq_false', gt_iff_lt, ge_iff_le] at *); (repeat simp (disch := omega) only [zR, zh] at *)); omega)))), rfl⟩, trivial⟩
end Go.Proofs
namespace Go.Proofs
open Go Go.Al
set_option maxRecDepth 10000
theorem scope1_c (s : GSpan) (t : ByteArray) (ho : s.ok) (hw : s.wt ≤ 1000000) (ht : t.size ≤ 10000000) : zg Tryz.prog Γ0 135 [s.av, .cp (sv t)] [iv (spanW s t : Nat)] := by
  refine zU Tryz.func135 rfl Tryz.ntmps135 (by kernel_rfl) rfl fun w0 I0 G0 => ?_
  refine zC <| zB <| g_uG (zl 1002 rfl rfl rfl rfl) rfl <| g_u (zE rfl rfl) <| zF <| zA <| zC <| zB ?_
  refine g_u (zG rfl rfl rfl tA52 tS52 rfl (by first | exact getS_w (GSpan.width _) rfl | rfl)) ?_
  refine g_u (zb rfl rfl tA9 tS9 rfl rfl) <| g_u (zQ (spanW_c s t ho hw ht) rfl rfl) <| g_u (zE rfl rfl) <| zF <| zA <| zI ?_
  exact ⟨⟨(rfl : toAV (Al.look _ _) = some _).trans (congrArg some (by rfl)), rfl⟩, trivial⟩
theorem scopeW_c (s : GScope) (t : ByteArray) (ho : s.ok) (hw : s.wt ≤ 1000000) (ht : t.size ≤ 10000000) : zg Tryz.prog Γ0 89 [s.av, sv t] [iv (scopeW s t : Nat)] := by
  have q0 := scopeW_le s t ht
  have qe : scopeW s t = 64 + 6 * (s.name.size + s.version.size) + zu (fun x => spanW x t) s.spans := rfl
  have qw : s.wt = 1 + s.name.size + s.version.size + zu GSpan.wt s.spans := rfl
  have ql := yW GSpan.wt (fun e => by unfold GSpan.wt; omega) s.spans
  refine zU Tryz.func89 rfl Tryz.ntmps89 (by kernel_rfl) rfl fun w0 I0 G0 => ?_
  refine zC <| zB <| g_uG (zl 1002 rfl rfl rfl rfl) rfl <| g_uG (zl 1003 rfl rfl rfl rfl) rfl <| g_u (zE rfl rfl) <| zF <| zA <| zC <| aw_share 1003 rfl rfl <| wH mixed <| g_u (zH rfl rfl fa55_0 rfl) <| g_u (zG rfl rfl rfl tA9 tS9 rfl rfl) <| g_u (xT rfl rfl Tryz.underlying9) <| g_u (zH rfl rfl fa55_1 rfl) <| g_u (zG rfl rfl rfl tA9 tS9 rfl rfl) <| g_u (xT rfl rfl Tryz.underlying9) <| g_u (z6 rfl rfl rfl) <| g_u (s_mul rfl rfl rfl) <| g_u (z6 rfl rfl rfl) <| g_u (zH rfl rfl fa55_2 rfl) <| g_u (zG rfl rfl rfl tA53 tS53 rfl rfl) <| g_u (yK rfl rfl rfl) ?_
  refine g_u (zQ (sumS_c s.spans (fun x => spanW x t) 135 [.cp (sv t)] (fun x hx => scope1_c x t (ho.2.2 x hx) (by have := yn GSpan.wt hx; omega) ht) (by omega) (by omega)) rfl rfl) ?_
  refine g_u (z6 rfl rfl rfl) <| g_u (zE rfl rfl) ?_
  refine zF ⟨by kernel_rfl, ?_⟩
  refine zA <| zI ?_
  exact ⟨⟨(rfl : toAV (Al.look _ _) = some _).trans (congrArg some (by (exact congrArg iv (by rw [qe]; ((try simp only [qa, qb, qc, ne_eq, beq_iff_eq, qd, beq_eq_false_iff_ne, Bool.not_eq_true', Bool.not_eq_false', gt_iff_lt, ge_iff_le] at *); (repeat simp (disch := omega) only [zR, zh] at *)); omega)))), rfl⟩, trivial⟩
theorem res1_c (s : GScope) (t : ByteArray) (ho : s.ok) (hw : s.wt ≤ 1000000) (ht : t.size ≤ 10000000) : zg Tryz.prog Γ0 88 [s.av, .cp (sv t)] [iv (scopeW s t : Nat)] := by
  refine zU Tryz.func88 rfl Tryz.ntmps88 (by kernel_rfl) rfl fun w0 I0 G0 => ?_
  refine zC <| zB <| g_uG (zl 1002 rfl rfl rfl rfl) rfl <| g_u (zE rfl rfl) <| zF <| zA <| zC <| zB <| g_u (zG rfl rfl rfl tA55 tS55 rfl rfl) <| g_u (zb rfl rfl tA9 tS9 rfl rfl) <| g_u (zQ (scopeW_c s t ho hw ht) rfl rfl) <| g_u (zE rfl rfl) <| zF <| zA <| zI ?_
  exact ⟨⟨(rfl : toAV (Al.look _ _) = some _).trans (congrArg some (by rfl)), rfl⟩, trivial⟩
theorem resW_c (r : GRes) (ho : r.ok) (hw : r.wt ≤ 60000) (hr : risA none r.attrs) : zg Tryz.prog Γ0 53 [r.av] [iv (resW r : Nat)] := by
  have ht : (xK r).size ≤ 10000000 := by have := serviceM_le r; omega
  have q0 := resW_le r ht
  have qe : resW r = 64 + wD r.attrs + zu (fun s => scopeW s (xK r)) r.scopes := rfl
  have qw : r.wt = 1 + wtAs r.attrs + zu GScope.wt r.scopes := rfl
  have ql := yW GScope.wt (fun e => by unfold GScope.wt; omega) r.scopes
  refine zU Tryz.func53 rfl Tryz.ntmps53 (by kernel_rfl) rfl fun w0 I0 G0 => ?_
  refine zC <| zB <| g_uG (zl 1001 rfl rfl rfl rfl) rfl <| g_u (zE rfl rfl) <| zF <| zA <| zC <| zB <| g_u (zG rfl rfl rfl tA58 tS58 rfl rfl) ?_
  refine g_u (zQ (service_c r ho.1 (by omega) hr) rfl rfl) ?_
  refine g_uG (zx 1003 rfl rfl rfl tZ9) rfl <| g_u (zM rfl rfl rfl tS9 rfl rfl) <| zF <| zA <| zC <| aw_share 1003 rfl rfl <| wH mixed <| g_u (zH rfl rfl fa58_0 rfl) <| g_u (zG rfl rfl rfl tA46 tS46 rfl rfl) ?_
  refine g_u (zQ (wattrs_c _ ho.1 (by omega)) rfl rfl) ?_
  refine g_u (z6 rfl rfl rfl) <| g_u (zH rfl rfl fa58_1 rfl) <| g_u (zG rfl rfl rfl tA56 tS56 rfl rfl) <| g_u (yK rfl rfl rfl) ?_
  refine g_u (zQ (sumC_c r.scopes (fun s => scopeW s (xK r)) 88 [.cp (sv (xK r))] (fun x hx => res1_c x _ (ho.2 x hx) (by have := yn GScope.wt hx; omega) ht) (by omega) (by omega)) rfl rfl) ?_
  refine g_u (z6 rfl rfl rfl) <| g_u (zE rfl rfl) ?_
  refine zF ⟨by kernel_rfl, ?_⟩
  refine zA <| zI ?_
  exact ⟨⟨(rfl : toAV (Al.look _ _) = some _).trans (congrArg some (by (exact congrArg iv (by rw [qe]; ((try simp only [qa, qb, qc, ne_eq, beq_iff_eq, qd, beq_eq_false_iff_ne, Bool.not_eq_true', Bool.not_eq_false', gt_iff_lt, ge_iff_le] at *); (repeat simp (disch := omega) only [zR, zh] at *)); omega)))), rfl⟩, trivial⟩
def fitR (r : GRes) : Prop := wtAs r.attrs ≤ 1000000 ∧ r.scopes.length ≤ 1000000 ∧ (xK r).size ≤ 10000000 ∧ ∀ c ∈ r.scopes, c.wt ≤ 1000000
theorem fit_small {r : GRes} (h : r.wt ≤ 60000) : fitR r := by
  have h1 := serviceM_le r
  have h2 : r.wt = 1 + wtAs r.attrs + zu GScope.wt r.scopes := rfl
  have h3 := yW GScope.wt (fun e => by unfold GScope.wt; omega) r.scopes
  exact ⟨by omega, by omega, by omega, fun c hc => by have := yn GScope.wt hc; omega⟩
def fitB (b : List GRes) : Prop := wtB b ≤ 3000000 ∧ ∀ r ∈ b, fitR r
theorem fitB_small {b : List GRes} (h : wtB b ≤ 60000) : fitB b := ⟨by omega, fun r hr => fit_small (by have := yn GRes.wt hr; unfold wtB at h; omega)⟩
theorem sumBy_le3 {α : Type} {F G : α → Nat} {k : Nat} : ∀ (l : List α), (∀ x ∈ l, F x ≤ k * G x) → zu F l ≤ k * zu G l
  | [], _ => by simp [zu]
  | x :: xs, h => by simp only [zu, Nat.mul_add]; have := h x List.mem_cons_self; have := sumBy_le3 xs (fun y hy => h y (List.mem_cons_of_mem _ hy)); omega
theorem batchW_c (b : List GRes) (ho : okB b) (hw : wtB b ≤ 60000) (hr : ∀ r ∈ b, risA none r.attrs) : zg Tryz.prog Γ0 30 [xp b] [iv (batchW b : Nat)] := by
  have ql := yW GRes.wt (fun e => by unfold GRes.wt; omega) b
  have q0 : zu resW b ≤ 100000000 * 60000 := by have h5 := sumBy_le3 (F := resW) (k := 100000000) (G := GRes.wt) b (fun r hr => resW_le r (by have := serviceM_le r; have h6 := yn GRes.wt hr; unfold wtB at hw; omega)); unfold wtB at hw; omega
  have qe : batchW b = 16 + zu resW b := rfl
  have qw : wtB b = zu GRes.wt b := rfl
  refine zU Tryz.func30 rfl Tryz.ntmps30 (by kernel_rfl) rfl fun w0 I0 G0 => ?_
  refine zC <| zB <| g_uG (zl 1001 rfl rfl rfl rfl) rfl <| g_u (zE rfl rfl) <| zF <| zA <| zC <| zB <| g_u (zH rfl rfl fa24_0 rfl) <| g_u (zG rfl rfl rfl tA22 tS22 rfl rfl) ?_
  refine g_u (zQ (sumR_c b resW 53 [] (fun r hx => resW_c r (ho r hx) (by have := yn GRes.wt hx; omega) (hr r hx)) (by omega) (by omega)) rfl rfl) ?_
  refine g_u (z6 rfl rfl rfl) <| g_u (zE rfl rfl) <| zF <| zA <| zI ?_
  exact ⟨⟨(rfl : toAV (Al.look _ _) = some _).trans (congrArg some (by (exact congrArg iv (by rw [qe]; ((try simp only [qa, qb, qc, ne_eq, beq_iff_eq, qd, beq_eq_false_iff_ne, Bool.not_eq_true', Bool.not_eq_false', gt_iff_lt, ge_iff_le] at *); (repeat simp (disch := omega) only [zR, zh] at *)); omega)))), rfl⟩, trivial⟩
end Go.Proofs
namespace Go.Proofs
open Go Go.Al
set_option maxRecDepth 10000
end Go.Proofs
namespace Go.Proofs
open Go Go.Al
set_option maxRecDepth 10000
end Go.Proofs
namespace Go.Proofs
open Go Go.Al
set_option maxRecDepth 10000
end Go.Proofs
namespace Go.Proofs
open Go Go.Al
set_option maxRecDepth 10000
end Go.Proofs
namespace Go.Proofs
open Go Go.Al
set_option maxRecDepth 10000
end Go.Proofs
namespace Go.Proofs
open Go Go.Al
set_option maxRecDepth 10000
end Go.Proofs
namespace Go.Proofs
open Go Go.Al
end Go.Proofs
namespace Go.Proofs
open Go Go.Al
set_option maxRecDepth 10000
end Go.Proofs
namespace Go.Proofs
open Go Go.Al
set_option maxRecDepth 10000
theorem length_c (c : Int) : zg Tryz.prog Γ0 218 [cv c] [iv (yH c)] := by
  refine zU Tryz.func218 rfl Tryz.ntmps218 (by kernel_rfl) rfl fun w0 I0 G0 => ?_
  refine zC <| zB <| g_u (zE rfl rfl) <| zF <| zA <| zC <| zT <| zC <| zB <| g_u (zD rfl rfl) <| g_u (yh rfl rfl rfl) <| g_u (zE rfl rfl) <| zF <| zA ?_
  refine zL rfl (fun hb1 => ?_) (fun hb1 => ?_)
  · refine zC ?_
    refine zB <| g_u (zE rfl rfl) <| zF <| zA <| zI <| zd <| zP ?_
    exact ⟨⟨(rfl : toAV (Al.look _ _) = some _).trans (congrArg some (by (unfold yH; (((try simp only [qa, qb, qc, ne_eq, beq_iff_eq, qd, beq_eq_false_iff_ne, Bool.not_eq_true', Bool.not_eq_false', gt_iff_lt, ge_iff_le] at *); (repeat simp (disch := omega) only [zR, zh] at *)); (repeat' split); all_goals first | rfl | omega)))), rfl⟩, trivial⟩
  · refine zC ?_
    refine zB <| g_u (zD rfl rfl) <| g_u (yh rfl rfl rfl) <| g_u (zE rfl rfl) <| zF <| zA ?_
    refine zL rfl (fun hb2 => ?_) (fun hb2 => ?_)
    · refine zC ?_
      refine zB <| g_u (zE rfl rfl) <| zF <| zA <| zI <| zd <| zP ?_
      exact ⟨⟨(rfl : toAV (Al.look _ _) = some _).trans (congrArg some (by (unfold yH; (((try simp only [qa, qb, qc, ne_eq, beq_iff_eq, qd, beq_eq_false_iff_ne, Bool.not_eq_true', Bool.not_eq_false', gt_iff_lt, ge_iff_le] at *); (repeat simp (disch := omega) only [zR, zh] at *)); (repeat' split); all_goals first | rfl | omega)))), rfl⟩, trivial⟩
    · refine zC ?_
      refine zB <| g_u (zD rfl rfl) <| g_u (yh rfl rfl rfl) <| g_u (zE rfl rfl) <| zF <| zA ?_
      refine zL rfl (fun hb3 => ?_) (fun hb3 => ?_)
      · refine zC ?_
        refine zB <| g_u (zE rfl rfl) <| zF <| zA <| zI <| zd <| zP ?_
        exact ⟨⟨(rfl : toAV (Al.look _ _) = some _).trans (congrArg some (by (unfold yH; (((try simp only [qa, qb, qc, ne_eq, beq_iff_eq, qd, beq_eq_false_iff_ne, Bool.not_eq_true', Bool.not_eq_false', gt_iff_lt, ge_iff_le] at *); (repeat simp (disch := omega) only [zR, zh] at *)); (repeat' split); all_goals first | rfl | omega)))), rfl⟩, trivial⟩
      · refine zC ?_
        refine zB <| g_u (zD rfl rfl) <| g_u (yh rfl rfl rfl) <| g_u (zE rfl rfl) <| zF <| zA ?_
        refine zL rfl (fun hb4 => ?_) (fun hb4 => ?_)
        · refine zC ?_
          refine zB <| g_u (zE rfl rfl) <| zF <| zA <| zI <| zd <| zP ?_
          exact ⟨⟨(rfl : toAV (Al.look _ _) = some _).trans (congrArg some (by (unfold yH; (((try simp only [qa, qb, qc, ne_eq, beq_iff_eq, qd, beq_eq_false_iff_ne, Bool.not_eq_true', Bool.not_eq_false', gt_iff_lt, ge_iff_le] at *); (repeat simp (disch := omega) only [zR, zh] at *)); (repeat' split); all_goals first | rfl | omega)))), rfl⟩, trivial⟩
        · refine zC ?_
          refine zB <| g_u (zD rfl rfl) <| g_u (yh rfl rfl rfl) <| g_u (zE rfl rfl) <| zF <| zA ?_
          refine zL rfl (fun hb5 => ?_) (fun hb5 => ?_)
          · refine zC ?_
            refine zB <| g_u (zE rfl rfl) <| zF <| zA <| zI <| zd <| zP ?_
            exact ⟨⟨(rfl : toAV (Al.look _ _) = some _).trans (congrArg some (by (unfold yH; (((try simp only [qa, qb, qc, ne_eq, beq_iff_eq, qd, beq_eq_false_iff_ne, Bool.not_eq_true', Bool.not_eq_false', gt_iff_lt, ge_iff_le] at *); (repeat simp (disch := omega) only [zR, zh] at *)); (repeat' split); all_goals first | rfl | omega)))), rfl⟩, trivial⟩
          · refine zO ?_
            refine zJ <| zA <| zC <| zB <| g_u (zE rfl rfl) <| zF <| zA <| zI ?_
            exact ⟨⟨(rfl : toAV (Al.look _ _) = some _).trans (congrArg some (by (unfold yH; (((try simp only [qa, qb, qc, ne_eq, beq_iff_eq, qd, beq_eq_false_iff_ne, Bool.not_eq_true', Bool.not_eq_false', gt_iff_lt, ge_iff_le] at *); (repeat simp (disch := omega) only [zR, zh] at *)); (repeat' split); all_goals first | rfl | omega)))), rfl⟩, trivial⟩
theorem least_c (k : Int) : zg Tryz.prog Γ0 219 [iv k] [rv (leastM k)] := by
  refine zU Tryz.func219 rfl Tryz.ntmps219 (by kernel_rfl) rfl fun w0 I0 G0 => ?_
  refine zC <| zB <| g_u (zE rfl rfl) <| zF <| zA <| zC <| zC <| zB <| g_u (zD rfl rfl) <| zF <| zA <| zT <| zC <| zB <| g_u (yR rfl rfl rfl) <| g_u (zE rfl rfl) <| zF <| zA ?_
  refine zL rfl (fun hb1 => ?_) (fun hb1 => ?_)
  · refine zC ?_
    refine zB <| g_u (zE rfl rfl) <| zF <| zA <| zI <| zd <| zP ?_
    exact ⟨⟨(rfl : toAV (Al.look _ _) = some _).trans (congrArg some (by (unfold leastM; (((try simp only [qa, qb, qc, ne_eq, beq_iff_eq, qd, beq_eq_false_iff_ne, Bool.not_eq_true', Bool.not_eq_false', gt_iff_lt, ge_iff_le] at *); (repeat simp (disch := omega) only [zR, zh] at *)); (repeat' split); all_goals first | rfl | omega)))), rfl⟩, trivial⟩
  · refine zC ?_
    refine zB <| g_u (yR rfl rfl rfl) <| g_u (zE rfl rfl) <| zF <| zA ?_
    refine zL rfl (fun hb2 => ?_) (fun hb2 => ?_)
    · refine zC ?_
      refine zB <| g_u (zE rfl rfl) <| zF <| zA <| zI <| zd <| zP ?_
      exact ⟨⟨(rfl : toAV (Al.look _ _) = some _).trans (congrArg some (by (unfold leastM; (((try simp only [qa, qb, qc, ne_eq, beq_iff_eq, qd, beq_eq_false_iff_ne, Bool.not_eq_true', Bool.not_eq_false', gt_iff_lt, ge_iff_le] at *); (repeat simp (disch := omega) only [zR, zh] at *)); (repeat' split); all_goals first | rfl | omega)))), rfl⟩, trivial⟩
    · refine zC ?_
      refine zB <| g_u (yR rfl rfl rfl) <| g_u (zE rfl rfl) <| zF <| zA ?_
      refine zL rfl (fun hb3 => ?_) (fun hb3 => ?_)
      · refine zC ?_
        refine zB <| g_u (zE rfl rfl) <| zF <| zA <| zI <| zd <| zP ?_
        exact ⟨⟨(rfl : toAV (Al.look _ _) = some _).trans (congrArg some (by (unfold leastM; (((try simp only [qa, qb, qc, ne_eq, beq_iff_eq, qd, beq_eq_false_iff_ne, Bool.not_eq_true', Bool.not_eq_false', gt_iff_lt, ge_iff_le] at *); (repeat simp (disch := omega) only [zR, zh] at *)); (repeat' split); all_goals first | rfl | omega)))), rfl⟩, trivial⟩
      · refine zO ?_
        refine zJ <| zA <| zC <| zB <| g_u (zE rfl rfl) <| zF <| zA <| zI ?_
        exact ⟨⟨(rfl : toAV (Al.look _ _) = some _).trans (congrArg some (by (unfold leastM; (((try simp only [qa, qb, qc, ne_eq, beq_iff_eq, qd, beq_eq_false_iff_ne, Bool.not_eq_true', Bool.not_eq_false', gt_iff_lt, ge_iff_le] at *); (repeat simp (disch := omega) only [zR, zh] at *)); (repeat' split); all_goals first | rfl | omega)))), rfl⟩, trivial⟩
theorem is_c (r : Int) : zg Tryz.prog Γ0 220 [rv r] [bv (isM r)] := by
  refine zU Tryz.func220 rfl Tryz.ntmps220 (by kernel_rfl) rfl fun w0 I0 G0 => ?_
  refine zC <| zB <| g_u (zE rfl rfl) <| zF <| zA <| zC <| zB <| g_u (zD rfl rfl) <| g_u (s_geI rfl rfl rfl) <| g_u (zD rfl rfl) <| yQ (t := 5) rfl ?_
  rintro (hb1 | hb1)
  · rw [hb1]
    refine zf rfl rfl (zD rfl rfl) <| zf rfl rfl (yh rfl rfl rfl) <| g_u (zo rfl rfl rfl) <| g_u (zD rfl rfl) <| yQ (t := 9) rfl ?_
    rintro (hb2 | hb2)
    · rw [hb2]
      refine zS rfl rfl rfl <| zS rfl rfl rfl <| zS rfl rfl rfl <| g_skip' rfl rfl rfl <| g_skip' rfl rfl rfl <| zS rfl rfl rfl <| g_u (zo rfl rfl rfl) <| g_u (zE rfl rfl) <| zF <| zA <| zI ?_
      exact ⟨⟨(rfl : toAV (Al.look _ _) = some _).trans (congrArg some (by (unfold isM; ((try simp only [qa, qb, qc, ne_eq, beq_iff_eq, qd, beq_eq_false_iff_ne, Bool.not_eq_true', Bool.not_eq_false', gt_iff_lt, ge_iff_le] at *); (repeat simp (disch := omega) only [zR, zh] at *)); refine congrArg bv ?_; first | exact (decide_eq_true (by omega)).symm | exact (decide_eq_false (by omega)).symm | exact decide_eq_decide.2 (by omega)))), rfl⟩, trivial⟩
    · rw [hb2]
      refine zf rfl rfl (zD rfl rfl) <| zf rfl rfl (s_geI rfl rfl rfl) <| zf rfl rfl (zD rfl rfl) <| yQ (t := 12) rfl ?_
      rintro (hb3 | hb3)
      · rw [hb3]
        refine zf rfl rfl (zD rfl rfl) <| zf rfl rfl (yh rfl rfl rfl) <| zf rfl rfl (zo rfl rfl rfl) <| g_u (z2 rfl rfl rfl) <| g_u (zE rfl rfl) <| zF <| zA <| zI ?_
        exact ⟨⟨(rfl : toAV (Al.look _ _) = some _).trans (congrArg some (by (unfold isM; ((try simp only [qa, qb, qc, ne_eq, beq_iff_eq, qd, beq_eq_false_iff_ne, Bool.not_eq_true', Bool.not_eq_false', gt_iff_lt, ge_iff_le] at *); (repeat simp (disch := omega) only [zR, zh] at *)); refine congrArg bv ?_; first | exact (decide_eq_true (by omega)).symm | exact (decide_eq_false (by omega)).symm | exact decide_eq_decide.2 (by omega)))), rfl⟩, trivial⟩
      · rw [hb3]
        refine zS rfl rfl rfl <| zS rfl rfl rfl <| zf rfl rfl (z2 rfl rfl rfl) <| g_u (z2 rfl rfl rfl) <| g_u (zE rfl rfl) <| zF <| zA <| zI ?_
        exact ⟨⟨(rfl : toAV (Al.look _ _) = some _).trans (congrArg some (by (unfold isM; ((try simp only [qa, qb, qc, ne_eq, beq_iff_eq, qd, beq_eq_false_iff_ne, Bool.not_eq_true', Bool.not_eq_false', gt_iff_lt, ge_iff_le] at *); (repeat simp (disch := omega) only [zR, zh] at *)); refine congrArg bv ?_; first | exact (decide_eq_true (by omega)).symm | exact (decide_eq_false (by omega)).symm | exact decide_eq_decide.2 (by omega)))), rfl⟩, trivial⟩
  · rw [hb1]
    refine zS rfl rfl rfl <| zS rfl rfl rfl <| g_u (z2 rfl rfl rfl) <| g_u (zD rfl rfl) <| zf rfl rfl (zD rfl rfl) <| zf rfl rfl (s_geI rfl rfl rfl) <| zf rfl rfl (zD rfl rfl) <| yQ (t := 12) rfl ?_
    rintro (hb4 | hb4)
    · rw [hb4]
      refine zf rfl rfl (zD rfl rfl) <| zf rfl rfl (yh rfl rfl rfl) <| zf rfl rfl (zo rfl rfl rfl) <| g_u (z2 rfl rfl rfl) <| g_u (zE rfl rfl) <| zF <| zA <| zI ?_
      exact ⟨⟨(rfl : toAV (Al.look _ _) = some _).trans (congrArg some (by (unfold isM; ((try simp only [qa, qb, qc, ne_eq, beq_iff_eq, qd, beq_eq_false_iff_ne, Bool.not_eq_true', Bool.not_eq_false', gt_iff_lt, ge_iff_le] at *); (repeat simp (disch := omega) only [zR, zh] at *)); refine congrArg bv ?_; first | exact (decide_eq_true (by omega)).symm | exact (decide_eq_false (by omega)).symm | exact decide_eq_decide.2 (by omega)))), rfl⟩, trivial⟩
    · rw [hb4]
      refine zS rfl rfl rfl <| zS rfl rfl rfl <| zf rfl rfl (z2 rfl rfl rfl) <| g_u (z2 rfl rfl rfl) <| g_u (zE rfl rfl) <| zF <| zA <| zI ?_
      exact ⟨⟨(rfl : toAV (Al.look _ _) = some _).trans (congrArg some (by (unfold isM; ((try simp only [qa, qb, qc, ne_eq, beq_iff_eq, qd, beq_eq_false_iff_ne, Bool.not_eq_true', Bool.not_eq_false', gt_iff_lt, ge_iff_le] at *); (repeat simp (disch := omega) only [zR, zh] at *)); refine congrArg bv ?_; first | exact (decide_eq_true (by omega)).symm | exact (decide_eq_false (by omega)).symm | exact decide_eq_decide.2 (by omega)))), rfl⟩, trivial⟩
theorem rune_c (s : ByteArray) (p : Int) (hs : s.size < 9223372036854775808) : zg Tryz.prog Γ0 210 [sv s, iv p] [rv (xu s p).1, iv (xu s p).2] := by
  have hk := lengthM_range (bAt s p)
  refine zU Tryz.func210 rfl Tryz.ntmps210 (by kernel_rfl) rfl fun w0 I0 G0 => ?_
  refine zC <| zB <| g_u (zE rfl rfl) <| g_u (zE rfl rfl) <| zF <| zA <| zC <| zC <| zB <| g_u (zD rfl rfl) <| g_u (yh rfl rfl rfl) <| g_u (zD rfl rfl) <| yQ (t := 11) rfl ?_
  rintro (hb1 | hb1)
  · rw [hb1]
    refine zS rfl rfl rfl <| zS rfl rfl rfl <| zS rfl rfl rfl <| zS rfl rfl rfl <| g_u (zo rfl rfl rfl) <| zF <| zA <| z7 rfl <| zC <| zB <| g_u (zE rfl rfl) <| g_u (zE rfl rfl) <| zF <| zA <| zI <| zP ?_
    exact ⟨⟨(rfl : toAV (Al.look _ _) = some _).trans (congrArg some (by (unfold xu; ((try simp only [qa, qb, qc, ne_eq, beq_iff_eq, qd, beq_eq_false_iff_ne, Bool.not_eq_true', Bool.not_eq_false', gt_iff_lt, ge_iff_le] at *); (repeat simp (disch := omega) only [zR, zh] at *)); first | (rw [if_pos (by omega)]; first | done | rfl) | (rw [if_neg (by omega), if_pos (by omega)]; first | done | rfl) | (rw [if_neg (by omega), if_neg (by omega), if_pos (by omega)]; first | done | rfl)))), rfl⟩, ⟨(rfl : toAV (Al.look _ _) = some _).trans (congrArg some (by (unfold xu; ((try simp only [qa, qb, qc, ne_eq, beq_iff_eq, qd, beq_eq_false_iff_ne, Bool.not_eq_true', Bool.not_eq_false', gt_iff_lt, ge_iff_le] at *); (repeat simp (disch := omega) only [zR, zh] at *)); first | (rw [if_pos (by omega)]; first | done | rfl) | (rw [if_neg (by omega), if_pos (by omega)]; first | done | rfl) | (rw [if_neg (by omega), if_neg (by omega), if_pos (by omega)]; first | done | rfl)))), rfl⟩, trivial⟩
  · rw [hb1]
    refine zf rfl rfl (zD rfl rfl) <| zf rfl rfl (zD rfl rfl) <| zf rfl rfl (xT rfl rfl Tryz.underlying9) <| zf rfl rfl (s_geI rfl rfl rfl) <| g_u (z2 rfl rfl rfl) <| zF <| zA ?_
    refine zL rfl (fun hb2 => ?_) (fun hb2 => ?_)
    · refine zC ?_
      refine zB <| g_u (zE rfl rfl) <| g_u (zE rfl rfl) <| zF <| zA <| zI <| zP ?_
      exact ⟨⟨(rfl : toAV (Al.look _ _) = some _).trans (congrArg some (by (unfold xu; ((try simp only [qa, qb, qc, ne_eq, beq_iff_eq, qd, beq_eq_false_iff_ne, Bool.not_eq_true', Bool.not_eq_false', gt_iff_lt, ge_iff_le] at *); (repeat simp (disch := omega) only [zR, zh] at *)); first | (rw [if_pos (by omega)]; first | done | rfl) | (rw [if_neg (by omega), if_pos (by omega)]; first | done | rfl) | (rw [if_neg (by omega), if_neg (by omega), if_pos (by omega)]; first | done | rfl)))), rfl⟩, ⟨(rfl : toAV (Al.look _ _) = some _).trans (congrArg some (by (unfold xu; ((try simp only [qa, qb, qc, ne_eq, beq_iff_eq, qd, beq_eq_false_iff_ne, Bool.not_eq_true', Bool.not_eq_false', gt_iff_lt, ge_iff_le] at *); (repeat simp (disch := omega) only [zR, zh] at *)); first | (rw [if_pos (by omega)]; first | done | rfl) | (rw [if_neg (by omega), if_pos (by omega)]; first | done | rfl) | (rw [if_neg (by omega), if_neg (by omega), if_pos (by omega)]; first | done | rfl)))), rfl⟩, trivial⟩
    · refine zO ?_
      refine zA <| zC <| zB <| g_u (zD rfl rfl) <| g_u (zD rfl rfl) ?_
      refine g_u (si_ix rfl rfl rfl Tryz.underlying9 (by ((try simp only [qa, qb, qc, ne_eq, beq_iff_eq, qd, beq_eq_false_iff_ne, Bool.not_eq_true', Bool.not_eq_false', gt_iff_lt, ge_iff_le] at *); (repeat simp (disch := omega) only [zR, zh] at *)); omega)) ?_
      refine g_u (zQ (length_c _) rfl rfl) <| g_u (zE rfl rfl) <| zF <| zA <| zC <| zC <| zB <| g_u (zD rfl rfl) <| g_u (yR rfl rfl rfl) <| g_u (zD rfl rfl) <| yQ (t := 23) rfl ?_
      rintro (hb3 | hb3)
      · rw [hb3]
        refine zS rfl rfl rfl <| zS rfl rfl rfl <| zS rfl rfl rfl <| zS rfl rfl rfl <| zS rfl rfl rfl <| zS rfl rfl rfl <| g_u (zo rfl rfl rfl) <| zF <| zA <| z7 rfl <| zC <| zB <| g_u (zE rfl rfl) <| g_u (zE rfl rfl) <| zF <| zA <| zI <| zP ?_
        exact ⟨⟨(rfl : toAV (Al.look _ _) = some _).trans (congrArg some (by (unfold xu; ((try simp only [qa, qb, qc, ne_eq, beq_iff_eq, qd, beq_eq_false_iff_ne, Bool.not_eq_true', Bool.not_eq_false', gt_iff_lt, ge_iff_le] at *); (repeat simp (disch := omega) only [zR, zh] at *)); first | (rw [if_pos (by omega)]; first | done | rfl) | (rw [if_neg (by omega), if_pos (by omega)]; first | done | rfl) | (rw [if_neg (by omega), if_neg (by omega), if_pos (by omega)]; first | done | rfl)))), rfl⟩, ⟨(rfl : toAV (Al.look _ _) = some _).trans (congrArg some (by (unfold xu; ((try simp only [qa, qb, qc, ne_eq, beq_iff_eq, qd, beq_eq_false_iff_ne, Bool.not_eq_true', Bool.not_eq_false', gt_iff_lt, ge_iff_le] at *); (repeat simp (disch := omega) only [zR, zh] at *)); first | (rw [if_pos (by omega)]; first | done | rfl) | (rw [if_neg (by omega), if_pos (by omega)]; first | done | rfl) | (rw [if_neg (by omega), if_neg (by omega), if_pos (by omega)]; first | done | rfl)))), rfl⟩, trivial⟩
      · rw [hb3]
        refine zf rfl rfl (zD rfl rfl) <| zf rfl rfl (zD rfl rfl) <| zf rfl rfl (xT rfl rfl Tryz.underlying9) <| zf rfl rfl (zD rfl rfl) <| zf rfl rfl (s_sub rfl rfl rfl) <| zf rfl rfl (wh rfl rfl rfl) <| g_u (z2 rfl rfl rfl) <| zF <| zA ?_
        refine zL rfl (fun hb4 => ?_) (fun hb4 => ?_)
        · refine zC ?_
          refine zB <| g_u (zE rfl rfl) <| g_u (zE rfl rfl) <| zF <| zA <| zI <| zP ?_
          exact ⟨⟨(rfl : toAV (Al.look _ _) = some _).trans (congrArg some (by (unfold xu; ((try simp only [qa, qb, qc, ne_eq, beq_iff_eq, qd, beq_eq_false_iff_ne, Bool.not_eq_true', Bool.not_eq_false', gt_iff_lt, ge_iff_le] at *); (repeat simp (disch := omega) only [zR, zh] at *)); first | (rw [if_pos (by omega)]; first | done | rfl) | (rw [if_neg (by omega), if_pos (by omega)]; first | done | rfl) | (rw [if_neg (by omega), if_neg (by omega), if_pos (by omega)]; first | done | rfl)))), rfl⟩, ⟨(rfl : toAV (Al.look _ _) = some _).trans (congrArg some (by (unfold xu; ((try simp only [qa, qb, qc, ne_eq, beq_iff_eq, qd, beq_eq_false_iff_ne, Bool.not_eq_true', Bool.not_eq_false', gt_iff_lt, ge_iff_le] at *); (repeat simp (disch := omega) only [zR, zh] at *)); first | (rw [if_pos (by omega)]; first | done | rfl) | (rw [if_neg (by omega), if_pos (by omega)]; first | done | rfl) | (rw [if_neg (by omega), if_neg (by omega), if_pos (by omega)]; first | done | rfl)))), rfl⟩, trivial⟩
        · refine zO ?_
          refine zA <| zC <| zC <| zB <| g_u (zD rfl rfl) <| g_u (yR rfl rfl rfl) <| zF <| zA ?_
          refine zL rfl (fun hb5 => ?_) (fun hb5 => ?_)
          · refine zC ?_
            refine zB <| g_u (zD rfl rfl) <| g_u (zD rfl rfl) ?_
            refine g_u (si_ix rfl rfl rfl Tryz.underlying9 (by ((try simp only [qa, qb, qc, ne_eq, beq_iff_eq, qd, beq_eq_false_iff_ne, Bool.not_eq_true', Bool.not_eq_false', gt_iff_lt, ge_iff_le] at *); (repeat simp (disch := omega) only [zR, zh] at *)); omega)) ?_
            refine g_u (s_cvII rfl rfl Tryz.underlying5 Tryz.underlying21) <| g_u (zE rfl rfl) <| g_u (zE rfl rfl) <| zF <| zA <| zI <| zP ?_
            exact ⟨⟨(rfl : toAV (Al.look _ _) = some _).trans (congrArg some (by (unfold xu; ((try simp only [qa, qb, qc, ne_eq, beq_iff_eq, qd, beq_eq_false_iff_ne, Bool.not_eq_true', Bool.not_eq_false', gt_iff_lt, ge_iff_le] at *); (repeat simp (disch := omega) only [zR, zh] at *)); first | (rw [if_pos (by omega)]; first | done | rfl) | (rw [if_neg (by omega), if_pos (by omega)]; first | done | rfl) | (rw [if_neg (by omega), if_neg (by omega), if_pos (by omega)]; first | done | rfl)))), rfl⟩, ⟨(rfl : toAV (Al.look _ _) = some _).trans (congrArg some (by (unfold xu; ((try simp only [qa, qb, qc, ne_eq, beq_iff_eq, qd, beq_eq_false_iff_ne, Bool.not_eq_true', Bool.not_eq_false', gt_iff_lt, ge_iff_le] at *); (repeat simp (disch := omega) only [zR, zh] at *)); first | (rw [if_pos (by omega)]; first | done | rfl) | (rw [if_neg (by omega), if_pos (by omega)]; first | done | rfl) | (rw [if_neg (by omega), if_neg (by omega), if_pos (by omega)]; first | done | rfl)))), rfl⟩, trivial⟩
          · refine zO ?_
            refine zA <| zC <| wH mixed <| g_u (zD rfl rfl) <| g_u (zD rfl rfl) ?_
            refine g_u (si_ix rfl rfl rfl Tryz.underlying9 (by ((try simp only [qa, qb, qc, ne_eq, beq_iff_eq, qd, beq_eq_false_iff_ne, Bool.not_eq_true', Bool.not_eq_false', gt_iff_lt, ge_iff_le] at *); (repeat simp (disch := omega) only [zR, zh] at *)); omega)) ?_
            refine g_u (s_cvII rfl rfl Tryz.underlying5 Tryz.underlying21) <| g_u (zD rfl rfl) ?_
            refine g_u (s_shr rfl rfl rfl (by first | decide | omega | (((try simp only [qa, qb, qc, ne_eq, beq_iff_eq, qd, beq_eq_false_iff_ne, Bool.not_eq_true', Bool.not_eq_false', gt_iff_lt, ge_iff_le] at *); (repeat simp (disch := omega) only [zR, zh] at *)); omega))) ?_
            refine g_u (s_and rfl rfl rfl) <| g_u (zE rfl rfl) ?_
            refine zF ⟨by kernel_rfl, ?_⟩
            refine zA <| zC <| zC <| zB <| g_u (zE rfl rfl) <| zF <| zA <| zT ?_
            refine z4 (fun j : Nat × Int × Int => [(0, .imm (sv s)), (1, .imm (iv p)), (4, .imm (rv j.2.2)), (6, .imm (iv (yH (bAt s p)))), (7, .imm (iv j.2.1))]) (fun j => 1 ≤ j.2.1 ∧ j.2.1 + j.1 = yH (bAt s p) ∧ xJ s p j.1 j.2.1 j.2.2 = xJ s p (yH (bAt s p) - 1).toNat 1 (r0M (bAt s p) (yH (bAt s p)))) (fun j => j.1) (⟨(yH (bAt s p) - 1).toNat, 1, r0M (bAt s p) (yH (bAt s p))⟩) ?_ ⟨rfl, rfl, rfl, rfl, rfl, trivial⟩ ?_
            · exact ⟨Int.le_refl 1, by ((try simp only [qa, qb, qc, ne_eq, beq_iff_eq, qd, beq_eq_false_iff_ne, Bool.not_eq_true', Bool.not_eq_false', gt_iff_lt, ge_iff_le] at *); (repeat simp (disch := omega) only [zR, zh] at *)); omega, rfl⟩
            · rintro ⟨n, i, r⟩ ⟨h1, h2, h3⟩; dsimp only at h1 h2 h3
              refine zC <| zC <| zB <| g_u (zD rfl rfl) <| g_u (zD rfl rfl) <| g_u (yh rfl rfl rfl) <| zF <| zA ?_
              refine zL rfl (fun hb6 => ?_) (fun hb6 => ?_)
              · refine zO ?_
                refine zA <| zC <| zT <| zC <| zB <| g_u (zD rfl rfl) <| g_u (zD rfl rfl) <| g_u (zD rfl rfl) <| g_u (z6 rfl rfl rfl) ?_
                refine g_u (si_ix rfl rfl rfl Tryz.underlying9 (by ((try simp only [qa, qb, qc, ne_eq, beq_iff_eq, qd, beq_eq_false_iff_ne, Bool.not_eq_true', Bool.not_eq_false', gt_iff_lt, ge_iff_le] at *); (repeat simp (disch := omega) only [zR, zh] at *)); omega)) ?_
                refine g_u (zE rfl rfl) <| zF <| zA <| zC <| zC <| zB <| g_u (zD rfl rfl) <| g_u (s_and rfl rfl rfl) <| g_u (xi rfl rfl rfl) <| zF <| zA ?_
                refine zL rfl (fun hb7 => ?_) (fun hb7 => ?_)
                · refine zC ?_
                  refine zB <| g_u (zE rfl rfl) <| g_u (zE rfl rfl) <| zF <| zA <| zI <| zP <| zd <| zP <| zP <| zd <| zP ?_
                  have e1 : IntKind.i64.wrap (p + i) = p + i := by ((try simp only [qa, qb, qc, ne_eq, beq_iff_eq, qd, beq_eq_false_iff_ne, Bool.not_eq_true', Bool.not_eq_false', gt_iff_lt, ge_iff_le] at *); (repeat simp (disch := omega) only [zR, zh] at *))
                  obtain ⟨m, rfl⟩ : ∃ m, n = m + 1 := ⟨n - 1, by ((try simp only [qa, qb, qc, ne_eq, beq_iff_eq, qd, beq_eq_false_iff_ne, Bool.not_eq_true', Bool.not_eq_false', gt_iff_lt, ge_iff_le] at *); (repeat simp (disch := omega) only [zR, zh] at *)); omega⟩
                  rw [e1] at hb7
                  change badM (bAt s (p + i)) = true at hb7
                  rw [xJ, if_pos hb7] at h3
                  have E : xu s p = (0, 0) := by
                    unfold xu; ((try simp only [qa, qb, qc, ne_eq, beq_iff_eq, qd, beq_eq_false_iff_ne, Bool.not_eq_true', Bool.not_eq_false', gt_iff_lt, ge_iff_le] at *); (repeat simp (disch := omega) only [zR, zh] at *)); rw [if_neg (by omega), if_neg (by omega), if_neg (by omega), ← h3]
                  exact ⟨⟨(rfl : toAV (Al.look _ _) = some _).trans (congrArg some (by rw [E])), rfl⟩, ⟨(rfl : toAV (Al.look _ _) = some _).trans (congrArg some (by rw [E])), rfl⟩, trivial⟩
                · refine zO ?_
                  refine zA <| zB <| g_u (zD rfl rfl) ?_
                  refine g_u (s_shl rfl rfl rfl (by first | decide | omega | (((try simp only [qa, qb, qc, ne_eq, beq_iff_eq, qd, beq_eq_false_iff_ne, Bool.not_eq_true', Bool.not_eq_false', gt_iff_lt, ge_iff_le] at *); (repeat simp (disch := omega) only [zR, zh] at *)); omega))) ?_
                  refine g_u (zD rfl rfl) <| g_u (s_and rfl rfl rfl) <| g_u (s_cvII rfl rfl Tryz.underlying5 Tryz.underlying21) <| g_u (s_or rfl rfl rfl) <| g_u (zE rfl rfl) <| zF <| zJ <| zA <| zB <| g_u (zD rfl rfl) <| g_u (z6 rfl rfl rfl) <| g_u (zE rfl rfl) <| zF <| zA ?_
                  have e1 : IntKind.i64.wrap (p + i) = p + i := by ((try simp only [qa, qb, qc, ne_eq, beq_iff_eq, qd, beq_eq_false_iff_ne, Bool.not_eq_true', Bool.not_eq_false', gt_iff_lt, ge_iff_le] at *); (repeat simp (disch := omega) only [zR, zh] at *))
                  have e2 : IntKind.i64.wrap (i + 1) = i + 1 := by ((try simp only [qa, qb, qc, ne_eq, beq_iff_eq, qd, beq_eq_false_iff_ne, Bool.not_eq_true', Bool.not_eq_false', gt_iff_lt, ge_iff_le] at *); (repeat simp (disch := omega) only [zR, zh] at *))
                  obtain ⟨m, rfl⟩ : ∃ m, n = m + 1 := ⟨n - 1, by ((try simp only [qa, qb, qc, ne_eq, beq_iff_eq, qd, beq_eq_false_iff_ne, Bool.not_eq_true', Bool.not_eq_false', gt_iff_lt, ge_iff_le] at *); (repeat simp (disch := omega) only [zR, zh] at *)); omega⟩
                  rw [e1] at hb7
                  change badM (bAt s (p + i)) = false at hb7
                  rw [xJ, if_neg (by rw [hb7]; decide)] at h3
                  refine ⟨⟨m, IntKind.i64.wrap (i + 1), stepM r (bAt s (IntKind.i64.wrap (p + i)))⟩, ⟨?_, ?_, ?_⟩, ⟨rfl, rfl, rfl, rfl, rfl, trivial⟩, Nat.lt_succ_self _⟩
                  · show 1 ≤ IntKind.i64.wrap (i + 1)
                    rw [e2]; omega
                  · show IntKind.i64.wrap (i + 1) + (m : Int) = _
                    rw [e2]; omega
                  · show xJ s p m (IntKind.i64.wrap (i + 1)) (stepM r (bAt s (IntKind.i64.wrap (p + i)))) = _
                    rw [e1, e2]; exact h3
              · refine yJ ?_
                refine ze <| ze <| z8 <| zA <| zC <| zC <| zB <| g_u (zD rfl rfl) <| g_u (zD rfl rfl) <| g_u (zQ (least_c _) rfl rfl) <| g_u (yh rfl rfl rfl) <| g_u (zD rfl rfl) <| yQ (t := 67) rfl ?_
                rintro (hb8 | hb8)
                · rw [hb8]
                  refine zS rfl rfl rfl <| zS rfl rfl rfl <| zS rfl rfl rfl <| g_u (zo rfl rfl rfl) <| zF <| zA <| z7 rfl <| zC <| zB <| g_u (zE rfl rfl) <| g_u (zE rfl rfl) <| zF <| zA <| zI <| zP ?_
                  obtain rfl : n = 0 := by ((try simp only [qa, qb, qc, ne_eq, beq_iff_eq, qd, beq_eq_false_iff_ne, Bool.not_eq_true', Bool.not_eq_false', gt_iff_lt, ge_iff_le] at *); (repeat simp (disch := omega) only [zR, zh] at *)); omega
                  change some r = _ at h3
                  have E : xu s p = (0, 0) := by
                    unfold xu; ((try simp only [qa, qb, qc, ne_eq, beq_iff_eq, qd, beq_eq_false_iff_ne, Bool.not_eq_true', Bool.not_eq_false', gt_iff_lt, ge_iff_le] at *); (repeat simp (disch := omega) only [zR, zh] at *)); rw [if_neg (by omega), if_neg (by omega), if_neg (by omega), ← h3]; dsimp only; rw [if_pos (.inl (by omega))]
                  exact ⟨⟨(rfl : toAV (Al.look _ _) = some _).trans (congrArg some (by rw [E])), rfl⟩, ⟨(rfl : toAV (Al.look _ _) = some _).trans (congrArg some (by rw [E])), rfl⟩, trivial⟩
                · rw [hb8]
                  refine zf rfl rfl (zD rfl rfl) <| zf rfl rfl (zQ (is_c _) rfl rfl) <| zf rfl rfl (s_not rfl rfl) <| g_u (z2 rfl rfl rfl) <| zF <| zA ?_
                  refine zL rfl (fun hb9 => ?_) (fun hb9 => ?_)
                  · refine zC ?_
                    refine zB <| g_u (zE rfl rfl) <| g_u (zE rfl rfl) <| zF <| zA <| zI <| zP ?_
                    obtain rfl : n = 0 := by ((try simp only [qa, qb, qc, ne_eq, beq_iff_eq, qd, beq_eq_false_iff_ne, Bool.not_eq_true', Bool.not_eq_false', gt_iff_lt, ge_iff_le] at *); (repeat simp (disch := omega) only [zR, zh] at *)); omega
                    change some r = _ at h3
                    have E : xu s p = (0, 0) := by
                      unfold xu; ((try simp only [qa, qb, qc, ne_eq, beq_iff_eq, qd, beq_eq_false_iff_ne, Bool.not_eq_true', Bool.not_eq_false', gt_iff_lt, ge_iff_le] at *); (repeat simp (disch := omega) only [zR, zh] at *)); rw [if_neg (by omega), if_neg (by omega), if_neg (by omega), ← h3]; dsimp only; rw [if_pos (.inr (by first | assumption | simp_all))]
                    exact ⟨⟨(rfl : toAV (Al.look _ _) = some _).trans (congrArg some (by rw [E])), rfl⟩, ⟨(rfl : toAV (Al.look _ _) = some _).trans (congrArg some (by rw [E])), rfl⟩, trivial⟩
                  · refine zO ?_
                    refine zA <| zC <| zB <| g_u (zD rfl rfl) <| g_u (zD rfl rfl) <| g_u (zE rfl rfl) <| g_u (zE rfl rfl) <| zF <| zA <| zI ?_
                    obtain rfl : n = 0 := by ((try simp only [qa, qb, qc, ne_eq, beq_iff_eq, qd, beq_eq_false_iff_ne, Bool.not_eq_true', Bool.not_eq_false', gt_iff_lt, ge_iff_le] at *); (repeat simp (disch := omega) only [zR, zh] at *)); omega
                    change some r = _ at h3
                    have E : xu s p = (r, yH (bAt s p)) := by
                      unfold xu; ((try simp only [qa, qb, qc, ne_eq, beq_iff_eq, qd, beq_eq_false_iff_ne, Bool.not_eq_true', Bool.not_eq_false', gt_iff_lt, ge_iff_le] at *); (repeat simp (disch := omega) only [zR, zh] at *)); rw [if_neg (by omega), if_neg (by omega), if_neg (by omega), ← h3]; dsimp only; rw [if_neg (by simp_all)]
                    exact ⟨⟨(rfl : toAV (Al.look _ _) = some _).trans (congrArg some (by rw [E])), rfl⟩, ⟨(rfl : toAV (Al.look _ _) = some _).trans (congrArg some (by rw [E])), rfl⟩, trivial⟩
attribute [local irreducible] xu rRuneM
theorem check_c (s : ByteArray) (hs : s.size < 9223372036854775808) : zg Tryz.prog Γ0 174 [sv s] [iv (xS s)] := by
  refine zU Tryz.func174 rfl Tryz.ntmps174 (by kernel_rfl) rfl fun w0 I0 G0 => ?_
  refine zC <| zB <| g_u (zE rfl rfl) <| zF <| zA <| zC <| zC <| zB <| g_u (zE rfl rfl) <| zF <| zA <| zT ?_
  refine z4 (fun j : Nat × Int × Int => [(0, .imm (sv s)), (3, .imm (iv j.2.1))]) (fun j => 0 ≤ j.2.1 ∧ j.2.1 ≤ s.size ∧ 0 ≤ j.2.2 ∧ j.2.2 ≤ j.2.1 ∧ (s.size : Int) < j.2.1 + j.1 ∧ goM (fM s) s.size j.1 j.2.1 j.2.2 = endM s) (fun j => j.1) (⟨s.size + 1, 0, 0⟩) ?_ ⟨rfl, rfl, trivial⟩ ?_
  · refine ⟨Int.le_refl 0, Int.natCast_nonneg _, Int.le_refl 0, Int.le_refl 0, ?_, rfl⟩; dsimp only; omega
  · rintro ⟨m, q, c⟩ ⟨h1, h2, h3, h4, h5, h6⟩; dsimp only at h1 h2 h3 h4 h5 h6; obtain ⟨m, rfl⟩ : ∃ k, m = k + 1 := ⟨m - 1, by omega⟩; have F := dec_fM s q
    refine zC <| zC <| zB <| g_u (zD rfl rfl) <| g_u (zD rfl rfl) <| g_u (xT rfl rfl Tryz.underlying9) <| g_u (yh rfl rfl rfl) <| zF <| zA ?_
    refine zL rfl (fun hb1 => ?_) (fun hb1 => ?_)
    · refine zO ?_
      refine zA <| zT <| zC <| zB <| g_u (zD rfl rfl) <| g_u (zD rfl rfl) ?_
      refine g_u (s_call2 (rune_c _ _ (by assumption)) rfl rfl) ?_
      refine g_u (wn rfl rfl) <| g_u (zZ rfl rfl rfl rfl) <| g_u (zZ rfl rfl rfl rfl) <| g_u (zE rfl rfl) <| g_u (zE rfl rfl) <| zF <| zA <| zC <| zC <| zB <| g_u (zD rfl rfl) <| g_u (yR rfl rfl rfl) <| zF <| zA ?_
      refine zL rfl (fun hb2 => ?_) (fun hb2 => ?_)
      · refine zC ?_
        refine zB <| g_u (zD rfl rfl) <| g_u (zE rfl rfl) <| zF <| zA <| zI <| zP <| zd <| zP <| zd <| zP ?_
        change decide (q < (s.size : Int)) = true at hb1
        change (fM s q == 0) = true at hb2
        rw [goM, if_pos (by ((try simp only [qa, qb, qc, ne_eq, beq_iff_eq, qd, beq_eq_false_iff_ne, Bool.not_eq_true', Bool.not_eq_false', gt_iff_lt, ge_iff_le] at *); (repeat simp (disch := omega) only [zR, zh] at *)); omega), if_pos (by ((try simp only [qa, qb, qc, ne_eq, beq_iff_eq, qd, beq_eq_false_iff_ne, Bool.not_eq_true', Bool.not_eq_false', gt_iff_lt, ge_iff_le] at *); (repeat simp (disch := omega) only [zR, zh] at *)); exact hb2)] at h6
        exact ⟨⟨(rfl : toAV (Al.look _ _) = some _).trans (congrArg some (by unfold xS; rw [← h6]; rw [if_pos (by ((try simp only [qa, qb, qc, ne_eq, beq_iff_eq, qd, beq_eq_false_iff_ne, Bool.not_eq_true', Bool.not_eq_false', gt_iff_lt, ge_iff_le] at *); (repeat simp (disch := omega) only [zR, zh] at *)); omega)])), rfl⟩, trivial⟩
      · refine zO ?_
        refine zA <| zB <| g_u (zD rfl rfl) <| g_u (zD rfl rfl) <| g_u (z6 rfl rfl rfl) <| g_u (zE rfl rfl) <| zF <| zJ <| zA ?_
        change decide (q < (s.size : Int)) = true at hb1
        have F := F h1 (by ((try simp only [qa, qb, qc, ne_eq, beq_iff_eq, qd, beq_eq_false_iff_ne, Bool.not_eq_true', Bool.not_eq_false', gt_iff_lt, ge_iff_le] at *); (repeat simp (disch := omega) only [zR, zh] at *)); omega)
        rw [goM, if_pos (by ((try simp only [qa, qb, qc, ne_eq, beq_iff_eq, qd, beq_eq_false_iff_ne, Bool.not_eq_true', Bool.not_eq_false', gt_iff_lt, ge_iff_le] at *); (repeat simp (disch := omega) only [zR, zh] at *)); omega)] at h6
        change ((fM s q) == 0) = false at hb2
        rw [if_neg (by ((try simp only [qa, qb, qc, ne_eq, beq_iff_eq, qd, beq_eq_false_iff_ne, Bool.not_eq_true', Bool.not_eq_false', gt_iff_lt, ge_iff_le] at *); (repeat simp (disch := omega) only [zR, zh] at *)); exact hb2)] at h6
        have F : 1 ≤ fM s q ∧ q + fM s q ≤ s.size := by ((try simp only [qa, qb, qc, ne_eq, beq_iff_eq, qd, beq_eq_false_iff_ne, Bool.not_eq_true', Bool.not_eq_false', gt_iff_lt, ge_iff_le] at *); (repeat simp (disch := omega) only [zR, zh] at *)); omega
        have e1 : IntKind.i64.wrap (q + fM s q) = q + fM s q := by ((try simp only [qa, qb, qc, ne_eq, beq_iff_eq, qd, beq_eq_false_iff_ne, Bool.not_eq_true', Bool.not_eq_false', gt_iff_lt, ge_iff_le] at *); (repeat simp (disch := omega) only [zR, zh] at *))
        have e2 : IntKind.i64.wrap (c + 1) = c + 1 := by ((try simp only [qa, qb, qc, ne_eq, beq_iff_eq, qd, beq_eq_false_iff_ne, Bool.not_eq_true', Bool.not_eq_false', gt_iff_lt, ge_iff_le] at *); (repeat simp (disch := omega) only [zR, zh] at *))
        refine ⟨⟨m, IntKind.i64.wrap (q + fM s q), IntKind.i64.wrap (c + 1)⟩, ⟨?_, ?_, ?_, ?_, ?_, ?_⟩, ⟨rfl, rfl, trivial⟩, Nat.lt_succ_self _⟩
        · dsimp only; rw [e1]; omega
        · dsimp only; rw [e1]; omega
        · dsimp only; rw [e2]; omega
        · dsimp only; rw [e1, e2]; omega
        · dsimp only; rw [e1]; omega
        · dsimp only; rw [e1, e2]; exact h6
    · refine yJ ?_
      refine ze <| ze <| z8 <| zA <| zC <| zB <| g_u (zE rfl rfl) <| zF <| zA <| zI ?_
      change decide (q < (s.size : Int)) = false at hb1
      rw [goM, if_neg (by ((try simp only [qa, qb, qc, ne_eq, beq_iff_eq, qd, beq_eq_false_iff_ne, Bool.not_eq_true', Bool.not_eq_false', gt_iff_lt, ge_iff_le] at *); (repeat simp (disch := omega) only [zR, zh] at *)); omega)] at h6
      exact ⟨⟨(rfl : toAV (Al.look _ _) = some _).trans (congrArg some (by unfold xS; rw [← h6]; rw [if_neg (by ((try simp only [qa, qb, qc, ne_eq, beq_iff_eq, qd, beq_eq_false_iff_ne, Bool.not_eq_true', Bool.not_eq_false', gt_iff_lt, ge_iff_le] at *); (repeat simp (disch := omega) only [zR, zh] at *)); omega)])), rfl⟩, trivial⟩
attribute [local irreducible] xS countM cutM rCheckM rCountM rCutM
attribute [local irreducible] bytesM bytesP
end Go.Proofs
namespace Go.Proofs
open Go Go.Al
theorem size0 (k : ByteArray) : k = ⟨#[]⟩ ↔ k.size = 0 := by
  constructor
  · rintro rfl; rfl
  · intro h; refine str_ext ?_; have : k.data.toList.length = 0 := by simpa using h
    rw [List.length_eq_zero_iff.1 this]
theorem check_range (s : ByteArray) : xS s = -1 ∨ 0 ≤ xS s := by
  have h := wq s
  unfold xS
  split
  · exact .inr h.2.2.1
  · exact .inl rfl
def prevOf (l : List GA) (i : Nat) : Option ByteArray := if i = 0 then none else some (nthA l (i - 1)).key
theorem entC_drop {l : List GA} {i : Nat} (d : Int) (h : i < l.length) : entC d (prevOf l i) (l.drop i) = orC (keyC (nthA l i).key) (if prevBad (prevOf l i) (nthA l i).key then 12 else orC (xx d (nthA l i).val) (entC d (prevOf l (i + 1)) (l.drop (i + 1)))) := by
  rw [x9 (d := a0) h, entC, checkA_eq]; rfl
theorem checkVs_drop {l : List GV} {i : Nat} (d : Int) (h : i < l.length) : xf d (l.drop i) = orC (xx d (nthV l i)) (xf d (l.drop (i + 1))) := by
  rw [x9 (d := v0) h, xf]; rfl
theorem prevBad_pos {l : List GA} {i : Nat} (h : i ≠ 0) (k : ByteArray) : prevBad (prevOf l i) k = !(ltB (nthA l (i - 1)).key k) := by unfold prevOf; rw [if_neg h]; rfl
theorem zm (a b : Int) (h : a = 0) : orC a b = b := by unfold orC; rw [if_neg (by omega)]
theorem yB (a b : Int) (h : a ≠ 0) : orC a b = a := by unfold orC; rw [if_pos h]
theorem yx (a : Int) : orC a 0 = a := by unfold orC; split <;> omega
def zK (v : GV) : GV := .mk v.kind (if v.kind = 1 ∨ v.kind = 5 then v.text else ⟨#[]⟩) (if v.kind = 2 ∨ v.kind = 3 then v.num else 0) (if v.kind = 4 then v.bits else 0) (if v.kind = 6 then v.list else []) (if v.kind = 7 then v.map else [])
def moreM (v : GV) : Bool := !(v.text.toList == (zK v).text.toList) || (v.num != (zK v).num) || (v.bits != (zK v).bits) || ((v.list.length : Int) != ((zK v).list.length : Int)) || ((v.map.length : Int) != ((zK v).map.length : Int))
theorem more_eq (v : GV) : moreM v = !emptyV v := by
  have e1 : (!(v.text.toList == (zK v).text.toList)) = !(v.kind == 1 || v.kind == 5 || decide (v.text.size = 0)) := by
    congr 1
    rw [str_beq]
    by_cases h : v.kind = 1 ∨ v.kind = 5
    · have : (zK v).text = v.text := by simp [zK, GV.text_mk, h]
      rw [this]
      rcases h with h | h <;> simp [h]
    · have : (zK v).text = ⟨#[]⟩ := by simp only [zK, GV.text_mk, if_neg h]
      rw [this]
      simp only [not_or] at h
      rw [Bool.eq_iff_iff]; simp [size0, h.1, h.2]
  have e2 : (v.num != (zK v).num) = !(v.kind == 2 || v.kind == 3 || v.num == 0) := by
    by_cases h : v.kind = 2 ∨ v.kind = 3
    · have : (zK v).num = v.num := by simp [zK, GV.num_mk, h]
      rw [this]; rcases h with h | h <;> simp [h]
    · have : (zK v).num = 0 := by simp only [zK, GV.num_mk, if_neg h]
      rw [this]; simp only [not_or] at h
      rw [beq_eq_false_iff_ne.2 h.1, beq_eq_false_iff_ne.2 h.2]; simp [bne]
  have e3 : (v.bits != (zK v).bits) = !(v.kind == 4 || v.bits == 0) := by
    by_cases h : v.kind = 4
    · have : (zK v).bits = v.bits := by simp [zK, GV.bits_mk, h]
      rw [this]; simp [h]
    · have : (zK v).bits = 0 := by simp only [zK, GV.bits_mk, if_neg h]
      rw [this, beq_eq_false_iff_ne.2 h]; simp [bne]
  have e4 : ((v.list.length : Int) != ((zK v).list.length : Int)) = !(v.kind == 6 || v.list.isEmpty) := by
    by_cases h : v.kind = 6
    · have : (zK v).list = v.list := by simp [zK, GV.list_mk, h]
      rw [this]; simp [h]
    · have : (zK v).list = [] := by simp only [zK, GV.list_mk, if_neg h]
      rw [this, Bool.eq_iff_iff]; simp [h]
  have e5 : ((v.map.length : Int) != ((zK v).map.length : Int)) = !(v.kind == 7 || v.map.isEmpty) := by
    by_cases h : v.kind = 7
    · have : (zK v).map = v.map := by simp [zK, GV.map_mk, h]
      rw [this]; simp [h]
    · have : (zK v).map = [] := by simp only [zK, GV.map_mk, if_neg h]
      rw [this, Bool.eq_iff_iff]; simp [h]
  unfold moreM emptyV
  rw [e1, e2, e3, e4, e5]
  simp only [Bool.not_and]
def xN (d : Int) (v : GV) : Int :=
  if v.kind = 1 then (if xS v.text ≠ -1 then 5 else 0) else if v.kind = 2 then (if v.num ≠ 0 ∧ v.num ≠ 1 then 4 else 0)
  else if v.kind = 6 then xf (d + 1) v.list else if v.kind = 7 then entC (d + 1) none v.map else 0
theorem xU {v : GV} {d : Int} (h7 : ¬ 7 < v.kind) (he : emptyV v = true) (h16 : ¬ (6 ≤ v.kind ∧ 16 ≤ d)) : xx d v = xN d v := by
  rw [yb, if_neg h7, if_neg (by rw [he]; decide), if_neg h16]
  have hl : v.kind ≠ 6 → v.list = [] := fun h => by
    unfold emptyV at he; simp only [Bool.and_eq_true, Bool.or_eq_true, beq_iff_eq, List.isEmpty_iff] at he
    exact he.1.2.resolve_left h
  have hm : v.kind ≠ 7 → v.map = [] := fun h => by
    unfold emptyV at he; simp only [Bool.and_eq_true, Bool.or_eq_true, beq_iff_eq, List.isEmpty_iff] at he
    exact he.2.resolve_left h
  unfold xN
  by_cases h1 : v.kind = 1
  · rw [if_pos h1, hl (by omega), hm (by omega)]
    simp only [h1, true_and, xf, entC, yx]
    split
    · rfl
    · rw [if_neg (by omega)]
  rw [if_neg (fun h => h1 h.1), if_neg h1]
  by_cases h2 : v.kind = 2
  · rw [if_pos h2, hl (by omega), hm (by omega)]
    simp only [h2, true_and, xf, entC, yx]
  rw [if_neg (fun h => h2 h.1), if_neg h2]
  by_cases h6 : v.kind = 6
  · rw [if_pos h6, hm (by omega)]; simp only [entC, yx]
  rw [if_neg h6, hl h6]
  by_cases h8 : v.kind = 7
  · rw [if_pos h8]; simp only [xf]; exact zm _ _ rfl
  · rw [if_neg h8, hm h8]; rfl
def textsC (l : List GA) : Int := if l.any (fun a => decide (1024 < (wI a.val).size)) then 35 else 0
theorem wW {l : List GA} {i : Nat} (h : i < l.length) : textsC (l.drop i) = if 1024 < (wI (nthA l i).val).size then 35 else textsC (l.drop (i + 1)) := by
  rw [x9 (d := a0) h]
  unfold textsC nthA
  by_cases hc : 1024 < (wI (nth l i a0).val).size
  · simp [hc]
  · simp [hc]
end Go.Proofs
namespace Go.Al
open Go.RowKit
end Go.Al
namespace Go.Proofs
open Go Go.Al
set_option maxRecDepth 10000
theorem keyP_c (k : ByteArray) (hk : k.size < 9223372036854775808) : zg Tryz.prog Γ0 113 [sv k] [iv (keyC k)] := by
  have cr := check_range k
  refine zU Tryz.func113 rfl Tryz.ntmps113 (by kernel_rfl) rfl fun w0 I0 G0 => ?_
  refine zC <| zB <| g_u (zE rfl rfl) <| zF <| zA <| zC <| zT <| zC <| zB <| g_u (zD rfl rfl) <| g_u (s_eqS rfl rfl rfl) <| g_u (zE rfl rfl) <| zF <| zA ?_
  refine zL rfl (fun hb1 => ?_) (fun hb1 => ?_)
  · have q : k.size = 0 := by have e := hb1; rw [str_beq] at e; exact (size0 k).1 (of_decide_eq_true e)
    refine zC <| zB <| g_u (zE rfl rfl) <| zF <| zA <| zI <| zd <| zP ?_
    exact ⟨⟨(rfl : toAV (Al.look _ _) = some _).trans (congrArg some (by (exact congrArg iv (by unfold keyC; (repeat' split) <;> first | rfl | omega)))), rfl⟩, trivial⟩
  · have q : ¬ k.size = 0 := by have e := hb1; rw [str_beq] at e; exact fun h => of_decide_eq_false e ((size0 k).2 h)
    refine zC <| zB <| g_u (zD rfl rfl) ?_
    refine g_u (zQ (check_c _ (by omega)) rfl rfl) ?_
    refine g_u (s_geI rfl rfl rfl) <| g_u (zE rfl rfl) <| zF <| zA ?_
    refine zL rfl (fun hb2 => ?_) (fun hb2 => ?_)
    · have q := of_decide_eq_true hb2
      refine zC <| zB <| g_u (zE rfl rfl) <| zF <| zA <| zI <| zd <| zP ?_
      exact ⟨⟨(rfl : toAV (Al.look _ _) = some _).trans (congrArg some (by (exact congrArg iv (by unfold keyC; (repeat' split) <;> first | rfl | omega)))), rfl⟩, trivial⟩
    · have q := of_decide_eq_false hb2
      refine zC <| zB <| g_u (zD rfl rfl) <| g_u (xT rfl rfl Tryz.underlying9) <| g_u (wh rfl rfl rfl) <| g_u (zE rfl rfl) <| zF <| zA ?_
      refine zL rfl (fun hb3 => ?_) (fun hb3 => ?_)
      · have q := of_decide_eq_true hb3
        refine zC <| zB <| g_u (zE rfl rfl) <| zF <| zA <| zI <| zd <| zP ?_
        exact ⟨⟨(rfl : toAV (Al.look _ _) = some _).trans (congrArg some (by (exact congrArg iv (by unfold keyC; (repeat' split) <;> first | rfl | omega)))), rfl⟩, trivial⟩
      · have q := of_decide_eq_false hb3
        refine zO <| zJ <| zA <| zC <| zB <| g_u (zE rfl rfl) <| zF <| zA <| zI ?_
        exact ⟨⟨(rfl : toAV (Al.look _ _) = some _).trans (congrArg some (by (exact congrArg iv (by unfold keyC; (repeat' split) <;> first | rfl | omega)))), rfl⟩, trivial⟩
set_option maxHeartbeats 2000000 in
theorem bare_c (v : GV) : zg Tryz.prog Γ0 211 [v.av] [(zK v).av] := by
  refine zU Tryz.func211 rfl Tryz.ntmps211 (by kernel_rfl) rfl fun w0 I0 G0 => ?_
  refine zC <| zB <| g_uG (zl 1001 rfl rfl rfl rfl) rfl <| g_uG (zx 1002 rfl rfl rfl tZ91) rfl <| zF <| zA <| zC <| zB <| g_u (zH rfl rfl fa91_0 rfl) <| g_u (zG rfl rfl rfl tA5 tS5 rfl rfl) <| g_u (xB rfl tU91 us91 pl91 rfl rfl rfl rfl) <| g_uG (zx 1003 rfl rfl rfl tZ91) rfl <| g_u (zM rfl rfl rfl tS91 rfl rfl) <| zF <| zA <| zC <| zC <| zB <| g_u (zH rfl rfl fa91_0 rfl) <| g_u (zG rfl rfl rfl tA5 tS5 rfl rfl) <| zF <| zA <| zT <| zC <| zC <| zB <| g_u (yR rfl rfl rfl) <| g_u (zE rfl rfl) <| zF <| zA ?_
  refine zL rfl (fun hb1 => ?_) (fun hb1 => ?_)
  · have q := beq_iff_eq.1 hb1
    refine zO <| zA ?_
    refine zL rfl (fun hb2 => ?_) (fun hb2 => ?_)
    · have q := beq_iff_eq.1 hb2
      refine zB <| g_u (zH rfl rfl fa91_1 rfl) <| g_u (zG rfl rfl rfl tA9 tS9 rfl rfl) <| g_u (zH rfl rfl fa91_1 rfl) <| g_u (zM rfl rfl rfl tS9 rfl rfl) <| zF <| zJ <| zA <| zC <| zB <| g_u (zj rfl rfl rfl tA91 tS91 rfl rfl) <| g_u (zM rfl rfl rfl tS91 rfl rfl) <| zF <| zA <| zI ?_
      exact ⟨⟨_, _, _, _, _, _, _, rfl, rfl, tA91, tS91, rfl, rfl, (rfl : toAV _ = some _).trans (congrArg some (by (first | (exfalso; omega) | (rw [show zK v = .mk v.kind v.text 0 0 [] [] from by unfold zK; rw [if_pos (by omega), if_neg (by omega), if_neg (by omega), if_neg (by omega), if_neg (by omega)]]; rfl) | (rw [show zK v = .mk v.kind ⟨#[]⟩ v.num 0 [] [] from by unfold zK; rw [if_neg (by omega), if_pos (by omega), if_neg (by omega), if_neg (by omega), if_neg (by omega)]]; rfl) | (rw [show zK v = .mk v.kind ⟨#[]⟩ 0 v.bits [] [] from by unfold zK; rw [if_neg (by omega), if_neg (by omega), if_pos (by omega), if_neg (by omega), if_neg (by omega)]]; rfl) | (rw [show zK v = .mk v.kind ⟨#[]⟩ 0 0 v.list [] from by unfold zK; rw [if_neg (by omega), if_neg (by omega), if_neg (by omega), if_pos (by omega), if_neg (by omega)]]; rfl) | (rw [show zK v = .mk v.kind ⟨#[]⟩ 0 0 [] v.map from by unfold zK; rw [if_neg (by omega), if_neg (by omega), if_neg (by omega), if_neg (by omega), if_pos (by omega)]]; rfl) | (rw [show zK v = .mk v.kind ⟨#[]⟩ 0 0 [] [] from by unfold zK; rw [if_neg (by omega), if_neg (by omega), if_neg (by omega), if_neg (by omega), if_neg (by omega)]]; rfl))))⟩, trivial⟩
    · have q := beq_eq_false_iff_ne.1 hb2
      refine zC <| zC <| zB <| g_u (yR rfl rfl rfl) <| g_u (zE rfl rfl) <| zF <| zA ?_
      refine zL rfl (fun hb3 => ?_) (fun hb3 => ?_)
      · have q := beq_iff_eq.1 hb3
        refine zO <| zA ?_
        refine zL rfl (fun hb4 => ?_) (fun hb4 => ?_)
        · have q := beq_iff_eq.1 hb4
          refine zB <| g_u (zH rfl rfl wo rfl) <| g_u (zG rfl rfl rfl tA3 tS3 rfl rfl) <| g_u (zH rfl rfl wo rfl) <| g_u (zM rfl rfl rfl tS3 rfl rfl) <| zF <| zJ <| zA <| zC <| zB <| g_u (zj rfl rfl rfl tA91 tS91 rfl rfl) <| g_u (zM rfl rfl rfl tS91 rfl rfl) <| zF <| zA <| zI ?_
          exact ⟨⟨_, _, _, _, _, _, _, rfl, rfl, tA91, tS91, rfl, rfl, (rfl : toAV _ = some _).trans (congrArg some (by (first | (exfalso; omega) | (rw [show zK v = .mk v.kind v.text 0 0 [] [] from by unfold zK; rw [if_pos (by omega), if_neg (by omega), if_neg (by omega), if_neg (by omega), if_neg (by omega)]]; rfl) | (rw [show zK v = .mk v.kind ⟨#[]⟩ v.num 0 [] [] from by unfold zK; rw [if_neg (by omega), if_pos (by omega), if_neg (by omega), if_neg (by omega), if_neg (by omega)]]; rfl) | (rw [show zK v = .mk v.kind ⟨#[]⟩ 0 v.bits [] [] from by unfold zK; rw [if_neg (by omega), if_neg (by omega), if_pos (by omega), if_neg (by omega), if_neg (by omega)]]; rfl) | (rw [show zK v = .mk v.kind ⟨#[]⟩ 0 0 v.list [] from by unfold zK; rw [if_neg (by omega), if_neg (by omega), if_neg (by omega), if_pos (by omega), if_neg (by omega)]]; rfl) | (rw [show zK v = .mk v.kind ⟨#[]⟩ 0 0 [] v.map from by unfold zK; rw [if_neg (by omega), if_neg (by omega), if_neg (by omega), if_neg (by omega), if_pos (by omega)]]; rfl) | (rw [show zK v = .mk v.kind ⟨#[]⟩ 0 0 [] [] from by unfold zK; rw [if_neg (by omega), if_neg (by omega), if_neg (by omega), if_neg (by omega), if_neg (by omega)]]; rfl))))⟩, trivial⟩
        · have q := beq_eq_false_iff_ne.1 hb4
          refine zC <| zB <| g_u (yR rfl rfl rfl) <| g_u (zE rfl rfl) <| zF <| zA ?_
          refine zL rfl (fun hb5 => ?_) (fun hb5 => ?_)
          · have q := beq_iff_eq.1 hb5
            refine zB <| g_u (zH rfl rfl fa91_3 rfl) <| g_u (zG rfl rfl rfl tA45 tS45 rfl rfl) <| g_u (zH rfl rfl fa91_3 rfl) <| g_u (zM rfl rfl rfl tS45 rfl rfl) <| zF <| zJ <| zA <| zC <| zB <| g_u (zj rfl rfl rfl tA91 tS91 rfl rfl) <| g_u (zM rfl rfl rfl tS91 rfl rfl) <| zF <| zA <| zI ?_
            exact ⟨⟨_, _, _, _, _, _, _, rfl, rfl, tA91, tS91, rfl, rfl, (rfl : toAV _ = some _).trans (congrArg some (by (first | (exfalso; omega) | (rw [show zK v = .mk v.kind v.text 0 0 [] [] from by unfold zK; rw [if_pos (by omega), if_neg (by omega), if_neg (by omega), if_neg (by omega), if_neg (by omega)]]; rfl) | (rw [show zK v = .mk v.kind ⟨#[]⟩ v.num 0 [] [] from by unfold zK; rw [if_neg (by omega), if_pos (by omega), if_neg (by omega), if_neg (by omega), if_neg (by omega)]]; rfl) | (rw [show zK v = .mk v.kind ⟨#[]⟩ 0 v.bits [] [] from by unfold zK; rw [if_neg (by omega), if_neg (by omega), if_pos (by omega), if_neg (by omega), if_neg (by omega)]]; rfl) | (rw [show zK v = .mk v.kind ⟨#[]⟩ 0 0 v.list [] from by unfold zK; rw [if_neg (by omega), if_neg (by omega), if_neg (by omega), if_pos (by omega), if_neg (by omega)]]; rfl) | (rw [show zK v = .mk v.kind ⟨#[]⟩ 0 0 [] v.map from by unfold zK; rw [if_neg (by omega), if_neg (by omega), if_neg (by omega), if_neg (by omega), if_pos (by omega)]]; rfl) | (rw [show zK v = .mk v.kind ⟨#[]⟩ 0 0 [] [] from by unfold zK; rw [if_neg (by omega), if_neg (by omega), if_neg (by omega), if_neg (by omega), if_neg (by omega)]]; rfl))))⟩, trivial⟩
          · have q := beq_eq_false_iff_ne.1 hb5
            refine zC <| zB <| g_u (yR rfl rfl rfl) <| g_u (zE rfl rfl) <| zF <| zA ?_
            refine zL rfl (fun hb6 => ?_) (fun hb6 => ?_)
            · have q := beq_iff_eq.1 hb6
              refine zB <| g_u (zH rfl rfl fa91_4 rfl) <| g_u (zG rfl rfl rfl tA89 tS89 rfl rfl) <| g_u (zH rfl rfl fa91_4 rfl) <| g_u (zM rfl rfl rfl tS89 rfl rfl) <| zF <| zJ <| zA <| zC <| zB <| g_u (zj rfl rfl rfl tA91 tS91 rfl rfl) <| g_u (zM rfl rfl rfl tS91 rfl rfl) <| zF <| zA <| zI ?_
              exact ⟨⟨_, _, _, _, _, _, _, rfl, rfl, tA91, tS91, rfl, rfl, (rfl : toAV _ = some _).trans (congrArg some (by (first | (exfalso; omega) | (rw [show zK v = .mk v.kind v.text 0 0 [] [] from by unfold zK; rw [if_pos (by omega), if_neg (by omega), if_neg (by omega), if_neg (by omega), if_neg (by omega)]]; rfl) | (rw [show zK v = .mk v.kind ⟨#[]⟩ v.num 0 [] [] from by unfold zK; rw [if_neg (by omega), if_pos (by omega), if_neg (by omega), if_neg (by omega), if_neg (by omega)]]; rfl) | (rw [show zK v = .mk v.kind ⟨#[]⟩ 0 v.bits [] [] from by unfold zK; rw [if_neg (by omega), if_neg (by omega), if_pos (by omega), if_neg (by omega), if_neg (by omega)]]; rfl) | (rw [show zK v = .mk v.kind ⟨#[]⟩ 0 0 v.list [] from by unfold zK; rw [if_neg (by omega), if_neg (by omega), if_neg (by omega), if_pos (by omega), if_neg (by omega)]]; rfl) | (rw [show zK v = .mk v.kind ⟨#[]⟩ 0 0 [] v.map from by unfold zK; rw [if_neg (by omega), if_neg (by omega), if_neg (by omega), if_neg (by omega), if_pos (by omega)]]; rfl) | (rw [show zK v = .mk v.kind ⟨#[]⟩ 0 0 [] [] from by unfold zK; rw [if_neg (by omega), if_neg (by omega), if_neg (by omega), if_neg (by omega), if_neg (by omega)]]; rfl))))⟩, trivial⟩
            · have q := beq_eq_false_iff_ne.1 hb6
              refine zC <| zB <| g_u (yR rfl rfl rfl) <| g_u (zE rfl rfl) <| zF <| zA ?_
              refine zL rfl (fun hb7 => ?_) (fun hb7 => ?_)
              · have q := beq_iff_eq.1 hb7
                refine zB <| g_u (zH rfl rfl fa91_5 rfl) <| g_u (zG rfl rfl rfl tA46 tS46 rfl rfl) <| g_u (zH rfl rfl fa91_5 rfl) <| g_u (zM rfl rfl rfl tS46 rfl rfl) <| zF <| zJ <| zA <| zC <| zB <| g_u (zj rfl rfl rfl tA91 tS91 rfl rfl) <| g_u (zM rfl rfl rfl tS91 rfl rfl) <| zF <| zA <| zI ?_
                exact ⟨⟨_, _, _, _, _, _, _, rfl, rfl, tA91, tS91, rfl, rfl, (rfl : toAV _ = some _).trans (congrArg some (by (first | (exfalso; omega) | (rw [show zK v = .mk v.kind v.text 0 0 [] [] from by unfold zK; rw [if_pos (by omega), if_neg (by omega), if_neg (by omega), if_neg (by omega), if_neg (by omega)]]; rfl) | (rw [show zK v = .mk v.kind ⟨#[]⟩ v.num 0 [] [] from by unfold zK; rw [if_neg (by omega), if_pos (by omega), if_neg (by omega), if_neg (by omega), if_neg (by omega)]]; rfl) | (rw [show zK v = .mk v.kind ⟨#[]⟩ 0 v.bits [] [] from by unfold zK; rw [if_neg (by omega), if_neg (by omega), if_pos (by omega), if_neg (by omega), if_neg (by omega)]]; rfl) | (rw [show zK v = .mk v.kind ⟨#[]⟩ 0 0 v.list [] from by unfold zK; rw [if_neg (by omega), if_neg (by omega), if_neg (by omega), if_pos (by omega), if_neg (by omega)]]; rfl) | (rw [show zK v = .mk v.kind ⟨#[]⟩ 0 0 [] v.map from by unfold zK; rw [if_neg (by omega), if_neg (by omega), if_neg (by omega), if_neg (by omega), if_pos (by omega)]]; rfl) | (rw [show zK v = .mk v.kind ⟨#[]⟩ 0 0 [] [] from by unfold zK; rw [if_neg (by omega), if_neg (by omega), if_neg (by omega), if_neg (by omega), if_neg (by omega)]]; rfl))))⟩, trivial⟩
              · have q := beq_eq_false_iff_ne.1 hb7
                refine zO <| zJ <| zA <| zC <| zB <| g_u (zj rfl rfl rfl tA91 tS91 rfl rfl) <| g_u (zM rfl rfl rfl tS91 rfl rfl) <| zF <| zA <| zI ?_
                exact ⟨⟨_, _, _, _, _, _, _, rfl, rfl, tA91, tS91, rfl, rfl, (rfl : toAV _ = some _).trans (congrArg some (by (first | (exfalso; omega) | (rw [show zK v = .mk v.kind v.text 0 0 [] [] from by unfold zK; rw [if_pos (by omega), if_neg (by omega), if_neg (by omega), if_neg (by omega), if_neg (by omega)]]; rfl) | (rw [show zK v = .mk v.kind ⟨#[]⟩ v.num 0 [] [] from by unfold zK; rw [if_neg (by omega), if_pos (by omega), if_neg (by omega), if_neg (by omega), if_neg (by omega)]]; rfl) | (rw [show zK v = .mk v.kind ⟨#[]⟩ 0 v.bits [] [] from by unfold zK; rw [if_neg (by omega), if_neg (by omega), if_pos (by omega), if_neg (by omega), if_neg (by omega)]]; rfl) | (rw [show zK v = .mk v.kind ⟨#[]⟩ 0 0 v.list [] from by unfold zK; rw [if_neg (by omega), if_neg (by omega), if_neg (by omega), if_pos (by omega), if_neg (by omega)]]; rfl) | (rw [show zK v = .mk v.kind ⟨#[]⟩ 0 0 [] v.map from by unfold zK; rw [if_neg (by omega), if_neg (by omega), if_neg (by omega), if_neg (by omega), if_pos (by omega)]]; rfl) | (rw [show zK v = .mk v.kind ⟨#[]⟩ 0 0 [] [] from by unfold zK; rw [if_neg (by omega), if_neg (by omega), if_neg (by omega), if_neg (by omega), if_neg (by omega)]]; rfl))))⟩, trivial⟩
      · have q := beq_eq_false_iff_ne.1 hb3
        refine zB <| g_u (yR rfl rfl rfl) <| g_u (zE rfl rfl) <| zF <| zA ?_
        refine zL rfl (fun hb8 => ?_) (fun hb8 => ?_)
        · have q := beq_iff_eq.1 hb8
          refine zB <| g_u (zH rfl rfl wo rfl) <| g_u (zG rfl rfl rfl tA3 tS3 rfl rfl) <| g_u (zH rfl rfl wo rfl) <| g_u (zM rfl rfl rfl tS3 rfl rfl) <| zF <| zJ <| zA <| zC <| zB <| g_u (zj rfl rfl rfl tA91 tS91 rfl rfl) <| g_u (zM rfl rfl rfl tS91 rfl rfl) <| zF <| zA <| zI ?_
          exact ⟨⟨_, _, _, _, _, _, _, rfl, rfl, tA91, tS91, rfl, rfl, (rfl : toAV _ = some _).trans (congrArg some (by (first | (exfalso; omega) | (rw [show zK v = .mk v.kind v.text 0 0 [] [] from by unfold zK; rw [if_pos (by omega), if_neg (by omega), if_neg (by omega), if_neg (by omega), if_neg (by omega)]]; rfl) | (rw [show zK v = .mk v.kind ⟨#[]⟩ v.num 0 [] [] from by unfold zK; rw [if_neg (by omega), if_pos (by omega), if_neg (by omega), if_neg (by omega), if_neg (by omega)]]; rfl) | (rw [show zK v = .mk v.kind ⟨#[]⟩ 0 v.bits [] [] from by unfold zK; rw [if_neg (by omega), if_neg (by omega), if_pos (by omega), if_neg (by omega), if_neg (by omega)]]; rfl) | (rw [show zK v = .mk v.kind ⟨#[]⟩ 0 0 v.list [] from by unfold zK; rw [if_neg (by omega), if_neg (by omega), if_neg (by omega), if_pos (by omega), if_neg (by omega)]]; rfl) | (rw [show zK v = .mk v.kind ⟨#[]⟩ 0 0 [] v.map from by unfold zK; rw [if_neg (by omega), if_neg (by omega), if_neg (by omega), if_neg (by omega), if_pos (by omega)]]; rfl) | (rw [show zK v = .mk v.kind ⟨#[]⟩ 0 0 [] [] from by unfold zK; rw [if_neg (by omega), if_neg (by omega), if_neg (by omega), if_neg (by omega), if_neg (by omega)]]; rfl))))⟩, trivial⟩
        · have q := beq_eq_false_iff_ne.1 hb8
          refine zC <| zB <| g_u (yR rfl rfl rfl) <| g_u (zE rfl rfl) <| zF <| zA ?_
          refine zL rfl (fun hb9 => ?_) (fun hb9 => ?_)
          · have q := beq_iff_eq.1 hb9
            refine zB <| g_u (zH rfl rfl fa91_3 rfl) <| g_u (zG rfl rfl rfl tA45 tS45 rfl rfl) <| g_u (zH rfl rfl fa91_3 rfl) <| g_u (zM rfl rfl rfl tS45 rfl rfl) <| zF <| zJ <| zA <| zC <| zB <| g_u (zj rfl rfl rfl tA91 tS91 rfl rfl) <| g_u (zM rfl rfl rfl tS91 rfl rfl) <| zF <| zA <| zI ?_
            exact ⟨⟨_, _, _, _, _, _, _, rfl, rfl, tA91, tS91, rfl, rfl, (rfl : toAV _ = some _).trans (congrArg some (by (first | (exfalso; omega) | (rw [show zK v = .mk v.kind v.text 0 0 [] [] from by unfold zK; rw [if_pos (by omega), if_neg (by omega), if_neg (by omega), if_neg (by omega), if_neg (by omega)]]; rfl) | (rw [show zK v = .mk v.kind ⟨#[]⟩ v.num 0 [] [] from by unfold zK; rw [if_neg (by omega), if_pos (by omega), if_neg (by omega), if_neg (by omega), if_neg (by omega)]]; rfl) | (rw [show zK v = .mk v.kind ⟨#[]⟩ 0 v.bits [] [] from by unfold zK; rw [if_neg (by omega), if_neg (by omega), if_pos (by omega), if_neg (by omega), if_neg (by omega)]]; rfl) | (rw [show zK v = .mk v.kind ⟨#[]⟩ 0 0 v.list [] from by unfold zK; rw [if_neg (by omega), if_neg (by omega), if_neg (by omega), if_pos (by omega), if_neg (by omega)]]; rfl) | (rw [show zK v = .mk v.kind ⟨#[]⟩ 0 0 [] v.map from by unfold zK; rw [if_neg (by omega), if_neg (by omega), if_neg (by omega), if_neg (by omega), if_pos (by omega)]]; rfl) | (rw [show zK v = .mk v.kind ⟨#[]⟩ 0 0 [] [] from by unfold zK; rw [if_neg (by omega), if_neg (by omega), if_neg (by omega), if_neg (by omega), if_neg (by omega)]]; rfl))))⟩, trivial⟩
          · have q := beq_eq_false_iff_ne.1 hb9
            refine zC <| zB <| g_u (yR rfl rfl rfl) <| g_u (zE rfl rfl) <| zF <| zA ?_
            refine zL rfl (fun hb10 => ?_) (fun hb10 => ?_)
            · have q := beq_iff_eq.1 hb10
              refine zB <| g_u (zH rfl rfl fa91_4 rfl) <| g_u (zG rfl rfl rfl tA89 tS89 rfl rfl) <| g_u (zH rfl rfl fa91_4 rfl) <| g_u (zM rfl rfl rfl tS89 rfl rfl) <| zF <| zJ <| zA <| zC <| zB <| g_u (zj rfl rfl rfl tA91 tS91 rfl rfl) <| g_u (zM rfl rfl rfl tS91 rfl rfl) <| zF <| zA <| zI ?_
              exact ⟨⟨_, _, _, _, _, _, _, rfl, rfl, tA91, tS91, rfl, rfl, (rfl : toAV _ = some _).trans (congrArg some (by (first | (exfalso; omega) | (rw [show zK v = .mk v.kind v.text 0 0 [] [] from by unfold zK; rw [if_pos (by omega), if_neg (by omega), if_neg (by omega), if_neg (by omega), if_neg (by omega)]]; rfl) | (rw [show zK v = .mk v.kind ⟨#[]⟩ v.num 0 [] [] from by unfold zK; rw [if_neg (by omega), if_pos (by omega), if_neg (by omega), if_neg (by omega), if_neg (by omega)]]; rfl) | (rw [show zK v = .mk v.kind ⟨#[]⟩ 0 v.bits [] [] from by unfold zK; rw [if_neg (by omega), if_neg (by omega), if_pos (by omega), if_neg (by omega), if_neg (by omega)]]; rfl) | (rw [show zK v = .mk v.kind ⟨#[]⟩ 0 0 v.list [] from by unfold zK; rw [if_neg (by omega), if_neg (by omega), if_neg (by omega), if_pos (by omega), if_neg (by omega)]]; rfl) | (rw [show zK v = .mk v.kind ⟨#[]⟩ 0 0 [] v.map from by unfold zK; rw [if_neg (by omega), if_neg (by omega), if_neg (by omega), if_neg (by omega), if_pos (by omega)]]; rfl) | (rw [show zK v = .mk v.kind ⟨#[]⟩ 0 0 [] [] from by unfold zK; rw [if_neg (by omega), if_neg (by omega), if_neg (by omega), if_neg (by omega), if_neg (by omega)]]; rfl))))⟩, trivial⟩
            · have q := beq_eq_false_iff_ne.1 hb10
              refine zC <| zB <| g_u (yR rfl rfl rfl) <| g_u (zE rfl rfl) <| zF <| zA ?_
              refine zL rfl (fun hb11 => ?_) (fun hb11 => ?_)
              · have q := beq_iff_eq.1 hb11
                refine zB <| g_u (zH rfl rfl fa91_5 rfl) <| g_u (zG rfl rfl rfl tA46 tS46 rfl rfl) <| g_u (zH rfl rfl fa91_5 rfl) <| g_u (zM rfl rfl rfl tS46 rfl rfl) <| zF <| zJ <| zA <| zC <| zB <| g_u (zj rfl rfl rfl tA91 tS91 rfl rfl) <| g_u (zM rfl rfl rfl tS91 rfl rfl) <| zF <| zA <| zI ?_
                exact ⟨⟨_, _, _, _, _, _, _, rfl, rfl, tA91, tS91, rfl, rfl, (rfl : toAV _ = some _).trans (congrArg some (by (first | (exfalso; omega) | (rw [show zK v = .mk v.kind v.text 0 0 [] [] from by unfold zK; rw [if_pos (by omega), if_neg (by omega), if_neg (by omega), if_neg (by omega), if_neg (by omega)]]; rfl) | (rw [show zK v = .mk v.kind ⟨#[]⟩ v.num 0 [] [] from by unfold zK; rw [if_neg (by omega), if_pos (by omega), if_neg (by omega), if_neg (by omega), if_neg (by omega)]]; rfl) | (rw [show zK v = .mk v.kind ⟨#[]⟩ 0 v.bits [] [] from by unfold zK; rw [if_neg (by omega), if_neg (by omega), if_pos (by omega), if_neg (by omega), if_neg (by omega)]]; rfl) | (rw [show zK v = .mk v.kind ⟨#[]⟩ 0 0 v.list [] from by unfold zK; rw [if_neg (by omega), if_neg (by omega), if_neg (by omega), if_pos (by omega), if_neg (by omega)]]; rfl) | (rw [show zK v = .mk v.kind ⟨#[]⟩ 0 0 [] v.map from by unfold zK; rw [if_neg (by omega), if_neg (by omega), if_neg (by omega), if_neg (by omega), if_pos (by omega)]]; rfl) | (rw [show zK v = .mk v.kind ⟨#[]⟩ 0 0 [] [] from by unfold zK; rw [if_neg (by omega), if_neg (by omega), if_neg (by omega), if_neg (by omega), if_neg (by omega)]]; rfl))))⟩, trivial⟩
              · have q := beq_eq_false_iff_ne.1 hb11
                refine zO <| zJ <| zA <| zC <| zB <| g_u (zj rfl rfl rfl tA91 tS91 rfl rfl) <| g_u (zM rfl rfl rfl tS91 rfl rfl) <| zF <| zA <| zI ?_
                exact ⟨⟨_, _, _, _, _, _, _, rfl, rfl, tA91, tS91, rfl, rfl, (rfl : toAV _ = some _).trans (congrArg some (by (first | (exfalso; omega) | (rw [show zK v = .mk v.kind v.text 0 0 [] [] from by unfold zK; rw [if_pos (by omega), if_neg (by omega), if_neg (by omega), if_neg (by omega), if_neg (by omega)]]; rfl) | (rw [show zK v = .mk v.kind ⟨#[]⟩ v.num 0 [] [] from by unfold zK; rw [if_neg (by omega), if_pos (by omega), if_neg (by omega), if_neg (by omega), if_neg (by omega)]]; rfl) | (rw [show zK v = .mk v.kind ⟨#[]⟩ 0 v.bits [] [] from by unfold zK; rw [if_neg (by omega), if_neg (by omega), if_pos (by omega), if_neg (by omega), if_neg (by omega)]]; rfl) | (rw [show zK v = .mk v.kind ⟨#[]⟩ 0 0 v.list [] from by unfold zK; rw [if_neg (by omega), if_neg (by omega), if_neg (by omega), if_pos (by omega), if_neg (by omega)]]; rfl) | (rw [show zK v = .mk v.kind ⟨#[]⟩ 0 0 [] v.map from by unfold zK; rw [if_neg (by omega), if_neg (by omega), if_neg (by omega), if_neg (by omega), if_pos (by omega)]]; rfl) | (rw [show zK v = .mk v.kind ⟨#[]⟩ 0 0 [] [] from by unfold zK; rw [if_neg (by omega), if_neg (by omega), if_neg (by omega), if_neg (by omega), if_neg (by omega)]]; rfl))))⟩, trivial⟩
  · have q := beq_eq_false_iff_ne.1 hb1
    refine zB <| g_u (yR rfl rfl rfl) <| g_u (zE rfl rfl) <| zF <| zA ?_
    refine zL rfl (fun hb12 => ?_) (fun hb12 => ?_)
    · have q := beq_iff_eq.1 hb12
      refine zB <| g_u (zH rfl rfl fa91_1 rfl) <| g_u (zG rfl rfl rfl tA9 tS9 rfl rfl) <| g_u (zH rfl rfl fa91_1 rfl) <| g_u (zM rfl rfl rfl tS9 rfl rfl) <| zF <| zJ <| zA <| zC <| zB <| g_u (zj rfl rfl rfl tA91 tS91 rfl rfl) <| g_u (zM rfl rfl rfl tS91 rfl rfl) <| zF <| zA <| zI ?_
      exact ⟨⟨_, _, _, _, _, _, _, rfl, rfl, tA91, tS91, rfl, rfl, (rfl : toAV _ = some _).trans (congrArg some (by (first | (exfalso; omega) | (rw [show zK v = .mk v.kind v.text 0 0 [] [] from by unfold zK; rw [if_pos (by omega), if_neg (by omega), if_neg (by omega), if_neg (by omega), if_neg (by omega)]]; rfl) | (rw [show zK v = .mk v.kind ⟨#[]⟩ v.num 0 [] [] from by unfold zK; rw [if_neg (by omega), if_pos (by omega), if_neg (by omega), if_neg (by omega), if_neg (by omega)]]; rfl) | (rw [show zK v = .mk v.kind ⟨#[]⟩ 0 v.bits [] [] from by unfold zK; rw [if_neg (by omega), if_neg (by omega), if_pos (by omega), if_neg (by omega), if_neg (by omega)]]; rfl) | (rw [show zK v = .mk v.kind ⟨#[]⟩ 0 0 v.list [] from by unfold zK; rw [if_neg (by omega), if_neg (by omega), if_neg (by omega), if_pos (by omega), if_neg (by omega)]]; rfl) | (rw [show zK v = .mk v.kind ⟨#[]⟩ 0 0 [] v.map from by unfold zK; rw [if_neg (by omega), if_neg (by omega), if_neg (by omega), if_neg (by omega), if_pos (by omega)]]; rfl) | (rw [show zK v = .mk v.kind ⟨#[]⟩ 0 0 [] [] from by unfold zK; rw [if_neg (by omega), if_neg (by omega), if_neg (by omega), if_neg (by omega), if_neg (by omega)]]; rfl))))⟩, trivial⟩
    · have q := beq_eq_false_iff_ne.1 hb12
      refine zC <| zC <| zB <| g_u (yR rfl rfl rfl) <| g_u (zE rfl rfl) <| zF <| zA ?_
      refine zL rfl (fun hb13 => ?_) (fun hb13 => ?_)
      · have q := beq_iff_eq.1 hb13
        refine zO <| zA ?_
        refine zL rfl (fun hb14 => ?_) (fun hb14 => ?_)
        · have q := beq_iff_eq.1 hb14
          refine zB <| g_u (zH rfl rfl wo rfl) <| g_u (zG rfl rfl rfl tA3 tS3 rfl rfl) <| g_u (zH rfl rfl wo rfl) <| g_u (zM rfl rfl rfl tS3 rfl rfl) <| zF <| zJ <| zA <| zC <| zB <| g_u (zj rfl rfl rfl tA91 tS91 rfl rfl) <| g_u (zM rfl rfl rfl tS91 rfl rfl) <| zF <| zA <| zI ?_
          exact ⟨⟨_, _, _, _, _, _, _, rfl, rfl, tA91, tS91, rfl, rfl, (rfl : toAV _ = some _).trans (congrArg some (by (first | (exfalso; omega) | (rw [show zK v = .mk v.kind v.text 0 0 [] [] from by unfold zK; rw [if_pos (by omega), if_neg (by omega), if_neg (by omega), if_neg (by omega), if_neg (by omega)]]; rfl) | (rw [show zK v = .mk v.kind ⟨#[]⟩ v.num 0 [] [] from by unfold zK; rw [if_neg (by omega), if_pos (by omega), if_neg (by omega), if_neg (by omega), if_neg (by omega)]]; rfl) | (rw [show zK v = .mk v.kind ⟨#[]⟩ 0 v.bits [] [] from by unfold zK; rw [if_neg (by omega), if_neg (by omega), if_pos (by omega), if_neg (by omega), if_neg (by omega)]]; rfl) | (rw [show zK v = .mk v.kind ⟨#[]⟩ 0 0 v.list [] from by unfold zK; rw [if_neg (by omega), if_neg (by omega), if_neg (by omega), if_pos (by omega), if_neg (by omega)]]; rfl) | (rw [show zK v = .mk v.kind ⟨#[]⟩ 0 0 [] v.map from by unfold zK; rw [if_neg (by omega), if_neg (by omega), if_neg (by omega), if_neg (by omega), if_pos (by omega)]]; rfl) | (rw [show zK v = .mk v.kind ⟨#[]⟩ 0 0 [] [] from by unfold zK; rw [if_neg (by omega), if_neg (by omega), if_neg (by omega), if_neg (by omega), if_neg (by omega)]]; rfl))))⟩, trivial⟩
        · have q := beq_eq_false_iff_ne.1 hb14
          refine zC <| zB <| g_u (yR rfl rfl rfl) <| g_u (zE rfl rfl) <| zF <| zA ?_
          refine zL rfl (fun hb15 => ?_) (fun hb15 => ?_)
          · have q := beq_iff_eq.1 hb15
            refine zB <| g_u (zH rfl rfl fa91_3 rfl) <| g_u (zG rfl rfl rfl tA45 tS45 rfl rfl) <| g_u (zH rfl rfl fa91_3 rfl) <| g_u (zM rfl rfl rfl tS45 rfl rfl) <| zF <| zJ <| zA <| zC <| zB <| g_u (zj rfl rfl rfl tA91 tS91 rfl rfl) <| g_u (zM rfl rfl rfl tS91 rfl rfl) <| zF <| zA <| zI ?_
            exact ⟨⟨_, _, _, _, _, _, _, rfl, rfl, tA91, tS91, rfl, rfl, (rfl : toAV _ = some _).trans (congrArg some (by (first | (exfalso; omega) | (rw [show zK v = .mk v.kind v.text 0 0 [] [] from by unfold zK; rw [if_pos (by omega), if_neg (by omega), if_neg (by omega), if_neg (by omega), if_neg (by omega)]]; rfl) | (rw [show zK v = .mk v.kind ⟨#[]⟩ v.num 0 [] [] from by unfold zK; rw [if_neg (by omega), if_pos (by omega), if_neg (by omega), if_neg (by omega), if_neg (by omega)]]; rfl) | (rw [show zK v = .mk v.kind ⟨#[]⟩ 0 v.bits [] [] from by unfold zK; rw [if_neg (by omega), if_neg (by omega), if_pos (by omega), if_neg (by omega), if_neg (by omega)]]; rfl) | (rw [show zK v = .mk v.kind ⟨#[]⟩ 0 0 v.list [] from by unfold zK; rw [if_neg (by omega), if_neg (by omega), if_neg (by omega), if_pos (by omega), if_neg (by omega)]]; rfl) | (rw [show zK v = .mk v.kind ⟨#[]⟩ 0 0 [] v.map from by unfold zK; rw [if_neg (by omega), if_neg (by omega), if_neg (by omega), if_neg (by omega), if_pos (by omega)]]; rfl) | (rw [show zK v = .mk v.kind ⟨#[]⟩ 0 0 [] [] from by unfold zK; rw [if_neg (by omega), if_neg (by omega), if_neg (by omega), if_neg (by omega), if_neg (by omega)]]; rfl))))⟩, trivial⟩
          · have q := beq_eq_false_iff_ne.1 hb15
            refine zC <| zB <| g_u (yR rfl rfl rfl) <| g_u (zE rfl rfl) <| zF <| zA ?_
            refine zL rfl (fun hb16 => ?_) (fun hb16 => ?_)
            · have q := beq_iff_eq.1 hb16
              refine zB <| g_u (zH rfl rfl fa91_4 rfl) <| g_u (zG rfl rfl rfl tA89 tS89 rfl rfl) <| g_u (zH rfl rfl fa91_4 rfl) <| g_u (zM rfl rfl rfl tS89 rfl rfl) <| zF <| zJ <| zA <| zC <| zB <| g_u (zj rfl rfl rfl tA91 tS91 rfl rfl) <| g_u (zM rfl rfl rfl tS91 rfl rfl) <| zF <| zA <| zI ?_
              exact ⟨⟨_, _, _, _, _, _, _, rfl, rfl, tA91, tS91, rfl, rfl, (rfl : toAV _ = some _).trans (congrArg some (by (first | (exfalso; omega) | (rw [show zK v = .mk v.kind v.text 0 0 [] [] from by unfold zK; rw [if_pos (by omega), if_neg (by omega), if_neg (by omega), if_neg (by omega), if_neg (by omega)]]; rfl) | (rw [show zK v = .mk v.kind ⟨#[]⟩ v.num 0 [] [] from by unfold zK; rw [if_neg (by omega), if_pos (by omega), if_neg (by omega), if_neg (by omega), if_neg (by omega)]]; rfl) | (rw [show zK v = .mk v.kind ⟨#[]⟩ 0 v.bits [] [] from by unfold zK; rw [if_neg (by omega), if_neg (by omega), if_pos (by omega), if_neg (by omega), if_neg (by omega)]]; rfl) | (rw [show zK v = .mk v.kind ⟨#[]⟩ 0 0 v.list [] from by unfold zK; rw [if_neg (by omega), if_neg (by omega), if_neg (by omega), if_pos (by omega), if_neg (by omega)]]; rfl) | (rw [show zK v = .mk v.kind ⟨#[]⟩ 0 0 [] v.map from by unfold zK; rw [if_neg (by omega), if_neg (by omega), if_neg (by omega), if_neg (by omega), if_pos (by omega)]]; rfl) | (rw [show zK v = .mk v.kind ⟨#[]⟩ 0 0 [] [] from by unfold zK; rw [if_neg (by omega), if_neg (by omega), if_neg (by omega), if_neg (by omega), if_neg (by omega)]]; rfl))))⟩, trivial⟩
            · have q := beq_eq_false_iff_ne.1 hb16
              refine zC <| zB <| g_u (yR rfl rfl rfl) <| g_u (zE rfl rfl) <| zF <| zA ?_
              refine zL rfl (fun hb17 => ?_) (fun hb17 => ?_)
              · have q := beq_iff_eq.1 hb17
                refine zB <| g_u (zH rfl rfl fa91_5 rfl) <| g_u (zG rfl rfl rfl tA46 tS46 rfl rfl) <| g_u (zH rfl rfl fa91_5 rfl) <| g_u (zM rfl rfl rfl tS46 rfl rfl) <| zF <| zJ <| zA <| zC <| zB <| g_u (zj rfl rfl rfl tA91 tS91 rfl rfl) <| g_u (zM rfl rfl rfl tS91 rfl rfl) <| zF <| zA <| zI ?_
                exact ⟨⟨_, _, _, _, _, _, _, rfl, rfl, tA91, tS91, rfl, rfl, (rfl : toAV _ = some _).trans (congrArg some (by (first | (exfalso; omega) | (rw [show zK v = .mk v.kind v.text 0 0 [] [] from by unfold zK; rw [if_pos (by omega), if_neg (by omega), if_neg (by omega), if_neg (by omega), if_neg (by omega)]]; rfl) | (rw [show zK v = .mk v.kind ⟨#[]⟩ v.num 0 [] [] from by unfold zK; rw [if_neg (by omega), if_pos (by omega), if_neg (by omega), if_neg (by omega), if_neg (by omega)]]; rfl) | (rw [show zK v = .mk v.kind ⟨#[]⟩ 0 v.bits [] [] from by unfold zK; rw [if_neg (by omega), if_neg (by omega), if_pos (by omega), if_neg (by omega), if_neg (by omega)]]; rfl) | (rw [show zK v = .mk v.kind ⟨#[]⟩ 0 0 v.list [] from by unfold zK; rw [if_neg (by omega), if_neg (by omega), if_neg (by omega), if_pos (by omega), if_neg (by omega)]]; rfl) | (rw [show zK v = .mk v.kind ⟨#[]⟩ 0 0 [] v.map from by unfold zK; rw [if_neg (by omega), if_neg (by omega), if_neg (by omega), if_neg (by omega), if_pos (by omega)]]; rfl) | (rw [show zK v = .mk v.kind ⟨#[]⟩ 0 0 [] [] from by unfold zK; rw [if_neg (by omega), if_neg (by omega), if_neg (by omega), if_neg (by omega), if_neg (by omega)]]; rfl))))⟩, trivial⟩
              · have q := beq_eq_false_iff_ne.1 hb17
                refine zO <| zJ <| zA <| zC <| zB <| g_u (zj rfl rfl rfl tA91 tS91 rfl rfl) <| g_u (zM rfl rfl rfl tS91 rfl rfl) <| zF <| zA <| zI ?_
                exact ⟨⟨_, _, _, _, _, _, _, rfl, rfl, tA91, tS91, rfl, rfl, (rfl : toAV _ = some _).trans (congrArg some (by (first | (exfalso; omega) | (rw [show zK v = .mk v.kind v.text 0 0 [] [] from by unfold zK; rw [if_pos (by omega), if_neg (by omega), if_neg (by omega), if_neg (by omega), if_neg (by omega)]]; rfl) | (rw [show zK v = .mk v.kind ⟨#[]⟩ v.num 0 [] [] from by unfold zK; rw [if_neg (by omega), if_pos (by omega), if_neg (by omega), if_neg (by omega), if_neg (by omega)]]; rfl) | (rw [show zK v = .mk v.kind ⟨#[]⟩ 0 v.bits [] [] from by unfold zK; rw [if_neg (by omega), if_neg (by omega), if_pos (by omega), if_neg (by omega), if_neg (by omega)]]; rfl) | (rw [show zK v = .mk v.kind ⟨#[]⟩ 0 0 v.list [] from by unfold zK; rw [if_neg (by omega), if_neg (by omega), if_neg (by omega), if_pos (by omega), if_neg (by omega)]]; rfl) | (rw [show zK v = .mk v.kind ⟨#[]⟩ 0 0 [] v.map from by unfold zK; rw [if_neg (by omega), if_neg (by omega), if_neg (by omega), if_neg (by omega), if_pos (by omega)]]; rfl) | (rw [show zK v = .mk v.kind ⟨#[]⟩ 0 0 [] [] from by unfold zK; rw [if_neg (by omega), if_neg (by omega), if_neg (by omega), if_neg (by omega), if_neg (by omega)]]; rfl))))⟩, trivial⟩
      · have q := beq_eq_false_iff_ne.1 hb13
        refine zB <| g_u (yR rfl rfl rfl) <| g_u (zE rfl rfl) <| zF <| zA ?_
        refine zL rfl (fun hb18 => ?_) (fun hb18 => ?_)
        · have q := beq_iff_eq.1 hb18
          refine zB <| g_u (zH rfl rfl wo rfl) <| g_u (zG rfl rfl rfl tA3 tS3 rfl rfl) <| g_u (zH rfl rfl wo rfl) <| g_u (zM rfl rfl rfl tS3 rfl rfl) <| zF <| zJ <| zA <| zC <| zB <| g_u (zj rfl rfl rfl tA91 tS91 rfl rfl) <| g_u (zM rfl rfl rfl tS91 rfl rfl) <| zF <| zA <| zI ?_
          exact ⟨⟨_, _, _, _, _, _, _, rfl, rfl, tA91, tS91, rfl, rfl, (rfl : toAV _ = some _).trans (congrArg some (by (first | (exfalso; omega) | (rw [show zK v = .mk v.kind v.text 0 0 [] [] from by unfold zK; rw [if_pos (by omega), if_neg (by omega), if_neg (by omega), if_neg (by omega), if_neg (by omega)]]; rfl) | (rw [show zK v = .mk v.kind ⟨#[]⟩ v.num 0 [] [] from by unfold zK; rw [if_neg (by omega), if_pos (by omega), if_neg (by omega), if_neg (by omega), if_neg (by omega)]]; rfl) | (rw [show zK v = .mk v.kind ⟨#[]⟩ 0 v.bits [] [] from by unfold zK; rw [if_neg (by omega), if_neg (by omega), if_pos (by omega), if_neg (by omega), if_neg (by omega)]]; rfl) | (rw [show zK v = .mk v.kind ⟨#[]⟩ 0 0 v.list [] from by unfold zK; rw [if_neg (by omega), if_neg (by omega), if_neg (by omega), if_pos (by omega), if_neg (by omega)]]; rfl) | (rw [show zK v = .mk v.kind ⟨#[]⟩ 0 0 [] v.map from by unfold zK; rw [if_neg (by omega), if_neg (by omega), if_neg (by omega), if_neg (by omega), if_pos (by omega)]]; rfl) | (rw [show zK v = .mk v.kind ⟨#[]⟩ 0 0 [] [] from by unfold zK; rw [if_neg (by omega), if_neg (by omega), if_neg (by omega), if_neg (by omega), if_neg (by omega)]]; rfl))))⟩, trivial⟩
        · have q := beq_eq_false_iff_ne.1 hb18
          refine zC <| zB <| g_u (yR rfl rfl rfl) <| g_u (zE rfl rfl) <| zF <| zA ?_
          refine zL rfl (fun hb19 => ?_) (fun hb19 => ?_)
          · have q := beq_iff_eq.1 hb19
            refine zB <| g_u (zH rfl rfl fa91_3 rfl) <| g_u (zG rfl rfl rfl tA45 tS45 rfl rfl) <| g_u (zH rfl rfl fa91_3 rfl) <| g_u (zM rfl rfl rfl tS45 rfl rfl) <| zF <| zJ <| zA <| zC <| zB <| g_u (zj rfl rfl rfl tA91 tS91 rfl rfl) <| g_u (zM rfl rfl rfl tS91 rfl rfl) <| zF <| zA <| zI ?_
            exact ⟨⟨_, _, _, _, _, _, _, rfl, rfl, tA91, tS91, rfl, rfl, (rfl : toAV _ = some _).trans (congrArg some (by (first | (exfalso; omega) | (rw [show zK v = .mk v.kind v.text 0 0 [] [] from by unfold zK; rw [if_pos (by omega), if_neg (by omega), if_neg (by omega), if_neg (by omega), if_neg (by omega)]]; rfl) | (rw [show zK v = .mk v.kind ⟨#[]⟩ v.num 0 [] [] from by unfold zK; rw [if_neg (by omega), if_pos (by omega), if_neg (by omega), if_neg (by omega), if_neg (by omega)]]; rfl) | (rw [show zK v = .mk v.kind ⟨#[]⟩ 0 v.bits [] [] from by unfold zK; rw [if_neg (by omega), if_neg (by omega), if_pos (by omega), if_neg (by omega), if_neg (by omega)]]; rfl) | (rw [show zK v = .mk v.kind ⟨#[]⟩ 0 0 v.list [] from by unfold zK; rw [if_neg (by omega), if_neg (by omega), if_neg (by omega), if_pos (by omega), if_neg (by omega)]]; rfl) | (rw [show zK v = .mk v.kind ⟨#[]⟩ 0 0 [] v.map from by unfold zK; rw [if_neg (by omega), if_neg (by omega), if_neg (by omega), if_neg (by omega), if_pos (by omega)]]; rfl) | (rw [show zK v = .mk v.kind ⟨#[]⟩ 0 0 [] [] from by unfold zK; rw [if_neg (by omega), if_neg (by omega), if_neg (by omega), if_neg (by omega), if_neg (by omega)]]; rfl))))⟩, trivial⟩
          · have q := beq_eq_false_iff_ne.1 hb19
            refine zC <| zB <| g_u (yR rfl rfl rfl) <| g_u (zE rfl rfl) <| zF <| zA ?_
            refine zL rfl (fun hb20 => ?_) (fun hb20 => ?_)
            · have q := beq_iff_eq.1 hb20
              refine zB <| g_u (zH rfl rfl fa91_4 rfl) <| g_u (zG rfl rfl rfl tA89 tS89 rfl rfl) <| g_u (zH rfl rfl fa91_4 rfl) <| g_u (zM rfl rfl rfl tS89 rfl rfl) <| zF <| zJ <| zA <| zC <| zB <| g_u (zj rfl rfl rfl tA91 tS91 rfl rfl) <| g_u (zM rfl rfl rfl tS91 rfl rfl) <| zF <| zA <| zI ?_
              exact ⟨⟨_, _, _, _, _, _, _, rfl, rfl, tA91, tS91, rfl, rfl, (rfl : toAV _ = some _).trans (congrArg some (by (first | (exfalso; omega) | (rw [show zK v = .mk v.kind v.text 0 0 [] [] from by unfold zK; rw [if_pos (by omega), if_neg (by omega), if_neg (by omega), if_neg (by omega), if_neg (by omega)]]; rfl) | (rw [show zK v = .mk v.kind ⟨#[]⟩ v.num 0 [] [] from by unfold zK; rw [if_neg (by omega), if_pos (by omega), if_neg (by omega), if_neg (by omega), if_neg (by omega)]]; rfl) | (rw [show zK v = .mk v.kind ⟨#[]⟩ 0 v.bits [] [] from by unfold zK; rw [if_neg (by omega), if_neg (by omega), if_pos (by omega), if_neg (by omega), if_neg (by omega)]]; rfl) | (rw [show zK v = .mk v.kind ⟨#[]⟩ 0 0 v.list [] from by unfold zK; rw [if_neg (by omega), if_neg (by omega), if_neg (by omega), if_pos (by omega), if_neg (by omega)]]; rfl) | (rw [show zK v = .mk v.kind ⟨#[]⟩ 0 0 [] v.map from by unfold zK; rw [if_neg (by omega), if_neg (by omega), if_neg (by omega), if_neg (by omega), if_pos (by omega)]]; rfl) | (rw [show zK v = .mk v.kind ⟨#[]⟩ 0 0 [] [] from by unfold zK; rw [if_neg (by omega), if_neg (by omega), if_neg (by omega), if_neg (by omega), if_neg (by omega)]]; rfl))))⟩, trivial⟩
            · have q := beq_eq_false_iff_ne.1 hb20
              refine zC <| zB <| g_u (yR rfl rfl rfl) <| g_u (zE rfl rfl) <| zF <| zA ?_
              refine zL rfl (fun hb21 => ?_) (fun hb21 => ?_)
              · have q := beq_iff_eq.1 hb21
                refine zB <| g_u (zH rfl rfl fa91_5 rfl) <| g_u (zG rfl rfl rfl tA46 tS46 rfl rfl) <| g_u (zH rfl rfl fa91_5 rfl) <| g_u (zM rfl rfl rfl tS46 rfl rfl) <| zF <| zJ <| zA <| zC <| zB <| g_u (zj rfl rfl rfl tA91 tS91 rfl rfl) <| g_u (zM rfl rfl rfl tS91 rfl rfl) <| zF <| zA <| zI ?_
                exact ⟨⟨_, _, _, _, _, _, _, rfl, rfl, tA91, tS91, rfl, rfl, (rfl : toAV _ = some _).trans (congrArg some (by (first | (exfalso; omega) | (rw [show zK v = .mk v.kind v.text 0 0 [] [] from by unfold zK; rw [if_pos (by omega), if_neg (by omega), if_neg (by omega), if_neg (by omega), if_neg (by omega)]]; rfl) | (rw [show zK v = .mk v.kind ⟨#[]⟩ v.num 0 [] [] from by unfold zK; rw [if_neg (by omega), if_pos (by omega), if_neg (by omega), if_neg (by omega), if_neg (by omega)]]; rfl) | (rw [show zK v = .mk v.kind ⟨#[]⟩ 0 v.bits [] [] from by unfold zK; rw [if_neg (by omega), if_neg (by omega), if_pos (by omega), if_neg (by omega), if_neg (by omega)]]; rfl) | (rw [show zK v = .mk v.kind ⟨#[]⟩ 0 0 v.list [] from by unfold zK; rw [if_neg (by omega), if_neg (by omega), if_neg (by omega), if_pos (by omega), if_neg (by omega)]]; rfl) | (rw [show zK v = .mk v.kind ⟨#[]⟩ 0 0 [] v.map from by unfold zK; rw [if_neg (by omega), if_neg (by omega), if_neg (by omega), if_neg (by omega), if_pos (by omega)]]; rfl) | (rw [show zK v = .mk v.kind ⟨#[]⟩ 0 0 [] [] from by unfold zK; rw [if_neg (by omega), if_neg (by omega), if_neg (by omega), if_neg (by omega), if_neg (by omega)]]; rfl))))⟩, trivial⟩
              · have q := beq_eq_false_iff_ne.1 hb21
                refine zO <| zJ <| zA <| zC <| zB <| g_u (zj rfl rfl rfl tA91 tS91 rfl rfl) <| g_u (zM rfl rfl rfl tS91 rfl rfl) <| zF <| zA <| zI ?_
                exact ⟨⟨_, _, _, _, _, _, _, rfl, rfl, tA91, tS91, rfl, rfl, (rfl : toAV _ = some _).trans (congrArg some (by (first | (exfalso; omega) | (rw [show zK v = .mk v.kind v.text 0 0 [] [] from by unfold zK; rw [if_pos (by omega), if_neg (by omega), if_neg (by omega), if_neg (by omega), if_neg (by omega)]]; rfl) | (rw [show zK v = .mk v.kind ⟨#[]⟩ v.num 0 [] [] from by unfold zK; rw [if_neg (by omega), if_pos (by omega), if_neg (by omega), if_neg (by omega), if_neg (by omega)]]; rfl) | (rw [show zK v = .mk v.kind ⟨#[]⟩ 0 v.bits [] [] from by unfold zK; rw [if_neg (by omega), if_neg (by omega), if_pos (by omega), if_neg (by omega), if_neg (by omega)]]; rfl) | (rw [show zK v = .mk v.kind ⟨#[]⟩ 0 0 v.list [] from by unfold zK; rw [if_neg (by omega), if_neg (by omega), if_neg (by omega), if_pos (by omega), if_neg (by omega)]]; rfl) | (rw [show zK v = .mk v.kind ⟨#[]⟩ 0 0 [] v.map from by unfold zK; rw [if_neg (by omega), if_neg (by omega), if_neg (by omega), if_neg (by omega), if_pos (by omega)]]; rfl) | (rw [show zK v = .mk v.kind ⟨#[]⟩ 0 0 [] [] from by unfold zK; rw [if_neg (by omega), if_neg (by omega), if_neg (by omega), if_neg (by omega), if_neg (by omega)]]; rfl))))⟩, trivial⟩
theorem more_c (v : GV) : zg Tryz.prog Γ0 175 [v.av] [bv (!emptyV v)] := by
  refine zU Tryz.func175 rfl Tryz.ntmps175 (by kernel_rfl) rfl fun w0 I0 G0 => ?_
  refine zC <| zB <| g_uG (zl 1001 rfl rfl rfl rfl) rfl <| g_u (zE rfl rfl) <| zF <| zA <| zC <| zB <| g_u (zG rfl rfl rfl tA91 tS91 rfl rfl) <| g_u (zQ (bare_c _) rfl rfl) <| g_uG (zx 1003 rfl rfl rfl tZ91) rfl <| g_u (zM rfl rfl rfl tS91 rfl rfl) <| zF <| zA <| zC <| zB <| g_u (zH rfl rfl fa91_1 rfl) <| g_u (zG rfl rfl rfl tA9 tS9 rfl rfl) <| g_u (zH rfl rfl fa91_1 rfl) <| g_u (zG rfl rfl rfl tA9 tS9 rfl rfl) <| g_u (s_neS rfl rfl rfl) <| g_u (zD rfl rfl) <| yQ (t := 11) rfl ?_
  rintro (hb1 | hb1)
  · rw [hb1]
    refine zS rfl rfl rfl <| zS rfl rfl rfl <| zS rfl rfl rfl <| zS rfl rfl rfl <| zS rfl rfl rfl <| g_u (zo rfl rfl rfl) <| g_u (zD rfl rfl) <| zS rfl rfl rfl <| zS rfl rfl rfl <| zS rfl rfl rfl <| zS rfl rfl rfl <| zS rfl rfl rfl <| g_u (zo rfl rfl rfl) <| g_u (zD rfl rfl) <| zS rfl rfl rfl <| zS rfl rfl rfl <| zS rfl rfl rfl <| zS rfl rfl rfl <| zS rfl rfl rfl <| zS rfl rfl rfl <| zS rfl rfl rfl <| g_u (zo rfl rfl rfl) <| g_u (zD rfl rfl) <| zS rfl rfl rfl <| zS rfl rfl rfl <| zS rfl rfl rfl <| zS rfl rfl rfl <| zS rfl rfl rfl <| zS rfl rfl rfl <| zS rfl rfl rfl <| g_u (zo rfl rfl rfl) <| g_u (zE rfl rfl) <| zF <| zA <| zI ?_
    exact ⟨⟨(rfl : toAV (Al.look _ _) = some _).trans (congrArg some (by (exact congrArg bv (by (try simp only [List.length_map] at *); rw [← more_eq]; unfold moreM; simp [*])))), rfl⟩, trivial⟩
  · rw [hb1]
    refine zf rfl rfl (zH rfl rfl wo rfl) <| zf rfl rfl (zG rfl rfl rfl tA3 tS3 rfl rfl) <| zf rfl rfl (zH rfl rfl wo rfl) <| zf rfl rfl (zG rfl rfl rfl tA3 tS3 rfl rfl) <| zf rfl rfl (xi rfl rfl rfl) <| g_u (z2 rfl rfl rfl) <| g_u (zD rfl rfl) <| yQ (t := 18) rfl ?_
    rintro (hb2 | hb2)
    · rw [hb2]
      refine zS rfl rfl rfl <| zS rfl rfl rfl <| zS rfl rfl rfl <| zS rfl rfl rfl <| zS rfl rfl rfl <| g_u (zo rfl rfl rfl) <| g_u (zD rfl rfl) <| zS rfl rfl rfl <| zS rfl rfl rfl <| zS rfl rfl rfl <| zS rfl rfl rfl <| zS rfl rfl rfl <| zS rfl rfl rfl <| zS rfl rfl rfl <| g_u (zo rfl rfl rfl) <| g_u (zD rfl rfl) <| zS rfl rfl rfl <| zS rfl rfl rfl <| zS rfl rfl rfl <| zS rfl rfl rfl <| zS rfl rfl rfl <| zS rfl rfl rfl <| zS rfl rfl rfl <| g_u (zo rfl rfl rfl) <| g_u (zE rfl rfl) <| zF <| zA <| zI ?_
      exact ⟨⟨(rfl : toAV (Al.look _ _) = some _).trans (congrArg some (by (exact congrArg bv (by (try simp only [List.length_map] at *); rw [← more_eq]; unfold moreM; simp [*])))), rfl⟩, trivial⟩
    · rw [hb2]
      refine zf rfl rfl (zH rfl rfl fa91_3 rfl) <| zf rfl rfl (zG rfl rfl rfl tA45 tS45 rfl rfl) <| zf rfl rfl (zH rfl rfl fa91_3 rfl) <| zf rfl rfl (zG rfl rfl rfl tA45 tS45 rfl rfl) <| zf rfl rfl (xi rfl rfl rfl) <| g_u (z2 rfl rfl rfl) <| g_u (zD rfl rfl) <| yQ (t := 25) rfl ?_
      rintro (hb3 | hb3)
      · rw [hb3]
        refine zS rfl rfl rfl <| zS rfl rfl rfl <| zS rfl rfl rfl <| zS rfl rfl rfl <| zS rfl rfl rfl <| zS rfl rfl rfl <| zS rfl rfl rfl <| g_u (zo rfl rfl rfl) <| g_u (zD rfl rfl) <| zS rfl rfl rfl <| zS rfl rfl rfl <| zS rfl rfl rfl <| zS rfl rfl rfl <| zS rfl rfl rfl <| zS rfl rfl rfl <| zS rfl rfl rfl <| g_u (zo rfl rfl rfl) <| g_u (zE rfl rfl) <| zF <| zA <| zI ?_
        exact ⟨⟨(rfl : toAV (Al.look _ _) = some _).trans (congrArg some (by (exact congrArg bv (by (try simp only [List.length_map] at *); rw [← more_eq]; unfold moreM; simp [*])))), rfl⟩, trivial⟩
      · rw [hb3]
        refine zf rfl rfl (zH rfl rfl fa91_4 rfl) <| zf rfl rfl (zG rfl rfl rfl tA89 tS89 rfl rfl) <| zf rfl rfl (yM rfl rfl Tryz.underlying89) <| zf rfl rfl (zH rfl rfl fa91_4 rfl) <| zf rfl rfl (zG rfl rfl rfl tA89 tS89 rfl rfl) <| zf rfl rfl (yM rfl rfl Tryz.underlying89) <| zf rfl rfl (xi rfl rfl rfl) <| g_u (z2 rfl rfl rfl) <| g_u (zD rfl rfl) <| yQ (t := 34) rfl ?_
        rintro (hb4 | hb4)
        · rw [hb4]
          refine zS rfl rfl rfl <| zS rfl rfl rfl <| zS rfl rfl rfl <| zS rfl rfl rfl <| zS rfl rfl rfl <| zS rfl rfl rfl <| zS rfl rfl rfl <| g_u (zo rfl rfl rfl) <| g_u (zE rfl rfl) <| zF <| zA <| zI ?_
          exact ⟨⟨(rfl : toAV (Al.look _ _) = some _).trans (congrArg some (by (exact congrArg bv (by (try simp only [List.length_map] at *); rw [← more_eq]; unfold moreM; simp [*])))), rfl⟩, trivial⟩
        · rw [hb4]
          refine zf rfl rfl (zH rfl rfl fa91_5 rfl) <| zf rfl rfl (zG rfl rfl rfl tA46 tS46 rfl rfl) <| zf rfl rfl (yM rfl rfl Tryz.underlying46) <| zf rfl rfl (zH rfl rfl fa91_5 rfl) <| zf rfl rfl (zG rfl rfl rfl tA46 tS46 rfl rfl) <| zf rfl rfl (yM rfl rfl Tryz.underlying46) <| zf rfl rfl (xi rfl rfl rfl) <| g_u (z2 rfl rfl rfl) <| g_u (zE rfl rfl) <| zF <| zA <| zI ?_
          exact ⟨⟨(rfl : toAV (Al.look _ _) = some _).trans (congrArg some (by (exact congrArg bv (by (try simp only [List.length_map] at *); rw [← more_eq]; unfold moreM; simp [*])))), rfl⟩, trivial⟩
theorem holds_c (v : GV) : zg Tryz.prog Γ0 176 [v.av] [bv (v.kind == 6 || v.kind == 7)] := by
  refine zU Tryz.func176 rfl Tryz.ntmps176 (by kernel_rfl) rfl fun w0 I0 G0 => ?_
  refine zC <| zB <| g_uG (zl 1001 rfl rfl rfl rfl) rfl <| g_u (zE rfl rfl) <| zF <| zA <| zC <| zB <| g_u (zH rfl rfl fa91_0 rfl) <| g_u (zG rfl rfl rfl tA5 tS5 rfl rfl) <| g_u (yR rfl rfl rfl) <| g_u (zD rfl rfl) <| yQ (t := 6) rfl ?_
  rintro (hb1 | hb1)
  · rw [hb1]
    refine zS rfl rfl rfl <| zS rfl rfl rfl <| zS rfl rfl rfl <| g_u (zo rfl rfl rfl) <| g_u (zE rfl rfl) <| zF <| zA <| zI ?_
    exact ⟨⟨(rfl : toAV (Al.look _ _) = some _).trans (congrArg some (by (exact congrArg bv (by simp [*])))), rfl⟩, trivial⟩
  · rw [hb1]
    refine zf rfl rfl (zH rfl rfl fa91_0 rfl) <| zf rfl rfl (zG rfl rfl rfl tA5 tS5 rfl rfl) <| zf rfl rfl (yR rfl rfl rfl) <| g_u (z2 rfl rfl rfl) <| g_u (zE rfl rfl) <| zF <| zA <| zI ?_
    exact ⟨⟨(rfl : toAV (Al.look _ _) = some _).trans (congrArg some (by (exact congrArg bv (by simp [*])))), rfl⟩, trivial⟩
set_option maxHeartbeats 2000000 in
theorem entC_st (l : List GA) (d : Int) (hd : 0 ≤ d ∧ d + wtAs l ≤ 1000000000) (ih : ∀ a ∈ l, ∀ d : Int, 0 ≤ d ∧ d + a.val.wt ≤ 1000000000 → zg Tryz.prog Γ0 114 [a.val.av, iv d] [iv (xx d a.val)]) : zg Tryz.prog Γ0 81 [.sl 7 (l.map avA), iv d] [iv (entC d none l)] := by
  refine zU Tryz.func81 rfl Tryz.ntmps81 (by kernel_rfl) rfl fun w0 I0 G0 => ?_
  refine zC <| zB <| g_u (zE rfl rfl) <| zF <| zA <| zC <| zC <| zB <| g_u (zD rfl rfl) <| g_u (yM rfl rfl Tryz.underlying46) <| g_u (zD rfl rfl) <| zF <| zA <| zT ?_
  refine z4 (fun i : Nat => [(0, .imm (.sl 7 (l.map avA))), (1, .imm (iv d)), (8, .imm (.sl 7 (l.map avA))), (9, .imm (iv (l.length : Int))), (10, .imm (iv (i : Int)))]) (fun i => i ≤ l.length ∧ entC d none l = entC d (prevOf l i) (l.drop i)) (fun i => l.length - i) (0) ?_ ⟨rfl, rfl, rfl, z_ rfl (by rw [List.length_map]), rfl, trivial⟩ ?_
  · exact ⟨Nat.zero_le _, rfl⟩
  · rintro i ⟨h1, h2⟩; (try dsimp only at h1 h2)
    refine zC <| zB <| g_u (yh rfl rfl rfl) <| zF <| zA <| zC ?_
    refine zL rfl (fun hb1 => ?_) (fun hb1 => ?_)
    · have hi : i < l.length := by have := of_decide_eq_true hb1; (try simp only [List.length_map] at this); omega
      have hw1 := wk (xw hi)
      have hw2 := (nthA l i).wt_eq
      have E := entC_drop d hi
      have ll := y5 l
      refine zO <| zA <| zC <| zT <| zC <| zB <| g_u (zD rfl rfl) ?_
      refine g_u (zq rfl rfl rfl Tryz.underlying46 tS93 (by omega) (ixA hi)) ?_
      refine g_u (zb rfl rfl tA93 tS93 rfl rfl) <| g_uG (zx 1006 rfl rfl rfl tZ93) rfl <| g_u (zE rfl rfl) <| g_u (zM rfl rfl rfl tS93 rfl rfl) <| zF <| zA <| zC <| zB <| g_u (zH rfl rfl fa93_0 rfl) <| g_u (zG rfl rfl rfl tA9 tS9 rfl rfl) ?_
      refine g_u (zQ (keyP_c _ (by omega)) rfl rfl) ?_
      refine g_u (zE rfl rfl) <| zF <| zA <| zC <| zC <| wH mixed <| g_u (zD rfl rfl) <| g_u (yR rfl rfl rfl) <| g_u (zD rfl rfl) <| yQ (t := 20) rfl ?_
      rintro (hb2 | hb2)
      · rw [hb2]
        have q := beq_iff_eq.1 hb2
        refine zf rfl rfl (zD rfl rfl) <| zf rfl rfl (wh rfl rfl rfl) <| g_u (zo rfl rfl rfl) <| g_u (zD rfl rfl) <| yQ (t := 24) rfl ?_
        rintro (hb3 | hb3)
        · rw [hb3]
          have hi0 : i ≠ 0 := by have := of_decide_eq_true hb3; omega
          have hm : i - 1 < l.length := by omega
          have em : IntKind.i64.wrap ((i : Int) - 1) = ((i - 1 : Nat) : Int) := by rw [zR (by omega) (by omega)]; omega
          refine zf rfl rfl (zD rfl rfl) <| zf rfl rfl (zD rfl rfl) <| zf rfl rfl (s_sub rfl rfl rfl) ?_
          refine zf rfl rfl (zq rfl rfl rfl Tryz.underlying46 tS93 (by rw [em]; omega) ((congrArg (fun z : Int => (l.map avA)[z.toNat]?) em).trans (ixA hm))) ?_
          refine zf rfl rfl (zY rfl rfl fa93_0 rfl rfl) <| zf rfl rfl (zb rfl rfl tA9 tS9 rfl rfl) <| zf rfl rfl (zH rfl rfl fa93_0 rfl) <| zf rfl rfl (zG rfl rfl rfl tA9 tS9 rfl rfl) <| zf rfl rfl (s_geS rfl rfl rfl) <| g_u (zo rfl rfl rfl) ?_
          refine zF ⟨by kernel_rfl, ?_⟩
          refine zA ?_
          refine zL rfl (fun hb4 => ?_) (fun hb4 => ?_)
          · have pb : prevBad (prevOf l i) (nthA l i).key = true := by rw [prevBad_pos hi0, ← less_eq]; exact hb4
            refine zB <| g_u (zE rfl rfl) <| zF <| zA <| zC <| zC <| zB <| g_u (zD rfl rfl) <| g_u (yR rfl rfl rfl) <| zF <| zA ?_
            refine zL rfl (fun hb5 => ?_) (fun hb5 => ?_)
            · have q := beq_iff_eq.1 hb5
              refine zB <| g_u (zH rfl rfl fa93_1 rfl) <| g_u (zG rfl rfl rfl tA91 tS91 rfl rfl) <| g_u (zD rfl rfl) ?_
              refine g_u (zQ (ih _ (xw hi) d ⟨by omega, by omega⟩) rfl rfl) ?_
              refine g_u (zE rfl rfl) <| zF <| zA <| zC <| zB <| g_u (zD rfl rfl) <| g_u (xi rfl rfl rfl) <| zF <| zA ?_
              refine zL rfl (fun hb6 => ?_) (fun hb6 => ?_)
              · have q := qc.1 hb6
                refine zC <| zB <| g_u (zD rfl rfl) <| g_u (zE rfl rfl) <| zF <| zA <| zI <| zd <| zP <| zP <| zd <| zP ?_
                exact ⟨⟨(rfl : toAV (Al.look _ _) = some _).trans (congrArg some (by (exact congrArg iv (by first | (exfalso; omega) | (rw [h2, hin, List.drop_length]; rfl) | (rw [h2, E, yB _ _ (by omega)]; done) | (rw [h2, E, zm _ _ (by omega), if_pos pb]; done) | (rw [h2, E, zm _ _ (by omega), if_neg (by rw [pb]; decide), yB _ _ (by omega)]; done))))), rfl⟩, trivial⟩
              · have q := qd.1 hb6
                refine zO <| zJ <| zA <| zB <| g_u (z6 rfl rfl rfl) <| g_u (zD rfl rfl) <| zF <| zA ?_
                first | (exfalso; omega) | refine ⟨i + 1, ⟨hi, by (try dsimp only); rw [h2, E, zm _ _ (by omega), if_neg (by rw [pb]; decide), zm _ _ (by omega)]⟩, ⟨rfl, rfl, rfl, rfl, z_ rfl (by rw [zR (by omega) (by omega)]; rfl), trivial⟩, by (try dsimp only); omega⟩
            · have q := beq_eq_false_iff_ne.1 hb5
              refine zO <| zA <| zC <| zB <| g_u (zD rfl rfl) <| g_u (xi rfl rfl rfl) <| zF <| zA ?_
              refine zL rfl (fun hb7 => ?_) (fun hb7 => ?_)
              · have q := qc.1 hb7
                refine zC <| zB <| g_u (zD rfl rfl) <| g_u (zE rfl rfl) <| zF <| zA <| zI <| zd <| zP <| zP <| zd <| zP ?_
                exact ⟨⟨(rfl : toAV (Al.look _ _) = some _).trans (congrArg some (by (exact congrArg iv (by first | (exfalso; omega) | (rw [h2, hin, List.drop_length]; rfl) | (rw [h2, E, yB _ _ (by omega)]; done) | (rw [h2, E, zm _ _ (by omega), if_pos pb]; done) | (rw [h2, E, zm _ _ (by omega), if_neg (by rw [pb]; decide), yB _ _ (by omega)]; done))))), rfl⟩, trivial⟩
              · have q := qd.1 hb7
                refine zO <| zJ <| zA <| zB <| g_u (z6 rfl rfl rfl) <| g_u (zD rfl rfl) <| zF <| zA ?_
                first | (exfalso; omega) | refine ⟨i + 1, ⟨hi, by (try dsimp only); rw [h2, E, zm _ _ (by omega), if_neg (by rw [pb]; decide), zm _ _ (by omega)]⟩, ⟨rfl, rfl, rfl, rfl, z_ rfl (by rw [zR (by omega) (by omega)]; rfl), trivial⟩, by (try dsimp only); omega⟩
          · have pb : prevBad (prevOf l i) (nthA l i).key = false := by rw [prevBad_pos hi0, ← less_eq]; exact hb4
            refine zO <| zA <| zC <| zC <| zB <| g_u (zD rfl rfl) <| g_u (yR rfl rfl rfl) <| zF <| zA ?_
            refine zL rfl (fun hb8 => ?_) (fun hb8 => ?_)
            · have q := beq_iff_eq.1 hb8
              refine zB <| g_u (zH rfl rfl fa93_1 rfl) <| g_u (zG rfl rfl rfl tA91 tS91 rfl rfl) <| g_u (zD rfl rfl) ?_
              refine g_u (zQ (ih _ (xw hi) d ⟨by omega, by omega⟩) rfl rfl) ?_
              refine g_u (zE rfl rfl) <| zF <| zA <| zC <| zB <| g_u (zD rfl rfl) <| g_u (xi rfl rfl rfl) <| zF <| zA ?_
              refine zL rfl (fun hb9 => ?_) (fun hb9 => ?_)
              · have q := qc.1 hb9
                refine zC <| zB <| g_u (zD rfl rfl) <| g_u (zE rfl rfl) <| zF <| zA <| zI <| zd <| zP <| zP <| zd <| zP ?_
                exact ⟨⟨(rfl : toAV (Al.look _ _) = some _).trans (congrArg some (by (exact congrArg iv (by first | (exfalso; omega) | (rw [h2, hin, List.drop_length]; rfl) | (rw [h2, E, yB _ _ (by omega)]; done) | (rw [h2, E, zm _ _ (by omega), if_pos pb]; done) | (rw [h2, E, zm _ _ (by omega), if_neg (by rw [pb]; decide), yB _ _ (by omega)]; done))))), rfl⟩, trivial⟩
              · have q := qd.1 hb9
                refine zO <| zJ <| zA <| zB <| g_u (z6 rfl rfl rfl) <| g_u (zD rfl rfl) <| zF <| zA ?_
                first | (exfalso; omega) | refine ⟨i + 1, ⟨hi, by (try dsimp only); rw [h2, E, zm _ _ (by omega), if_neg (by rw [pb]; decide), zm _ _ (by omega)]⟩, ⟨rfl, rfl, rfl, rfl, z_ rfl (by rw [zR (by omega) (by omega)]; rfl), trivial⟩, by (try dsimp only); omega⟩
            · have q := beq_eq_false_iff_ne.1 hb8
              refine zO <| zA <| zC <| zB <| g_u (zD rfl rfl) <| g_u (xi rfl rfl rfl) <| zF <| zA ?_
              refine zL rfl (fun hb10 => ?_) (fun hb10 => ?_)
              · have q := qc.1 hb10
                refine zC <| zB <| g_u (zD rfl rfl) <| g_u (zE rfl rfl) <| zF <| zA <| zI <| zd <| zP <| zP <| zd <| zP ?_
                exact ⟨⟨(rfl : toAV (Al.look _ _) = some _).trans (congrArg some (by (exact congrArg iv (by first | (exfalso; omega) | (rw [h2, hin, List.drop_length]; rfl) | (rw [h2, E, yB _ _ (by omega)]; done) | (rw [h2, E, zm _ _ (by omega), if_pos pb]; done) | (rw [h2, E, zm _ _ (by omega), if_neg (by rw [pb]; decide), yB _ _ (by omega)]; done))))), rfl⟩, trivial⟩
              · have q := qd.1 hb10
                refine zO <| zJ <| zA <| zB <| g_u (z6 rfl rfl rfl) <| g_u (zD rfl rfl) <| zF <| zA ?_
                first | (exfalso; omega) | refine ⟨i + 1, ⟨hi, by (try dsimp only); rw [h2, E, zm _ _ (by omega), if_neg (by rw [pb]; decide), zm _ _ (by omega)]⟩, ⟨rfl, rfl, rfl, rfl, z_ rfl (by rw [zR (by omega) (by omega)]; rfl), trivial⟩, by (try dsimp only); omega⟩
        · rw [hb3]
          have hi0 : i = 0 := by have := of_decide_eq_false hb3; omega
          have pb : prevBad (prevOf l i) (nthA l i).key = false := by unfold prevOf; rw [if_pos hi0]; rfl
          refine zS rfl rfl rfl <| zS rfl rfl rfl <| zS rfl rfl rfl <| zS rfl rfl rfl <| zS rfl rfl rfl <| zS rfl rfl rfl <| zS rfl rfl rfl <| zS rfl rfl rfl <| zS rfl rfl rfl <| g_u (z2 rfl rfl rfl) ?_
          refine zF ⟨by kernel_rfl, ?_⟩
          refine zA <| zX rfl <| zO <| zA <| zC <| zC <| zB <| g_u (zD rfl rfl) <| g_u (yR rfl rfl rfl) <| zF <| zA ?_
          refine zL rfl (fun hb11 => ?_) (fun hb11 => ?_)
          · have q := beq_iff_eq.1 hb11
            refine zB <| g_u (zH rfl rfl fa93_1 rfl) <| g_u (zG rfl rfl rfl tA91 tS91 rfl rfl) <| g_u (zD rfl rfl) ?_
            refine g_u (zQ (ih _ (xw hi) d ⟨by omega, by omega⟩) rfl rfl) ?_
            refine g_u (zE rfl rfl) <| zF <| zA <| zC <| zB <| g_u (zD rfl rfl) <| g_u (xi rfl rfl rfl) <| zF <| zA ?_
            refine zL rfl (fun hb12 => ?_) (fun hb12 => ?_)
            · have q := qc.1 hb12
              refine zC <| zB <| g_u (zD rfl rfl) <| g_u (zE rfl rfl) <| zF <| zA <| zI <| zd <| zP <| zP <| zd <| zP ?_
              exact ⟨⟨(rfl : toAV (Al.look _ _) = some _).trans (congrArg some (by (exact congrArg iv (by first | (exfalso; omega) | (rw [h2, hin, List.drop_length]; rfl) | (rw [h2, E, yB _ _ (by omega)]; done) | (rw [h2, E, zm _ _ (by omega), if_pos pb]; done) | (rw [h2, E, zm _ _ (by omega), if_neg (by rw [pb]; decide), yB _ _ (by omega)]; done))))), rfl⟩, trivial⟩
            · have q := qd.1 hb12
              refine zO <| zJ <| zA <| zB <| g_u (z6 rfl rfl rfl) <| g_u (zD rfl rfl) <| zF <| zA ?_
              first | (exfalso; omega) | refine ⟨i + 1, ⟨hi, by (try dsimp only); rw [h2, E, zm _ _ (by omega), if_neg (by rw [pb]; decide), zm _ _ (by omega)]⟩, ⟨rfl, rfl, rfl, rfl, z_ rfl (by rw [zR (by omega) (by omega)]; rfl), trivial⟩, by (try dsimp only); omega⟩
          · have q := beq_eq_false_iff_ne.1 hb11
            refine zO <| zA <| zC <| zB <| g_u (zD rfl rfl) <| g_u (xi rfl rfl rfl) <| zF <| zA ?_
            refine zL rfl (fun hb13 => ?_) (fun hb13 => ?_)
            · have q := qc.1 hb13
              refine zC <| zB <| g_u (zD rfl rfl) <| g_u (zE rfl rfl) <| zF <| zA <| zI <| zd <| zP <| zP <| zd <| zP ?_
              exact ⟨⟨(rfl : toAV (Al.look _ _) = some _).trans (congrArg some (by (exact congrArg iv (by first | (exfalso; omega) | (rw [h2, hin, List.drop_length]; rfl) | (rw [h2, E, yB _ _ (by omega)]; done) | (rw [h2, E, zm _ _ (by omega), if_pos pb]; done) | (rw [h2, E, zm _ _ (by omega), if_neg (by rw [pb]; decide), yB _ _ (by omega)]; done))))), rfl⟩, trivial⟩
            · have q := qd.1 hb13
              refine zO <| zJ <| zA <| zB <| g_u (z6 rfl rfl rfl) <| g_u (zD rfl rfl) <| zF <| zA ?_
              first | (exfalso; omega) | refine ⟨i + 1, ⟨hi, by (try dsimp only); rw [h2, E, zm _ _ (by omega), if_neg (by rw [pb]; decide), zm _ _ (by omega)]⟩, ⟨rfl, rfl, rfl, rfl, z_ rfl (by rw [zR (by omega) (by omega)]; rfl), trivial⟩, by (try dsimp only); omega⟩
      · rw [hb2]
        have q := beq_eq_false_iff_ne.1 hb2
        refine zS rfl rfl rfl <| zS rfl rfl rfl <| g_u (z2 rfl rfl rfl) <| g_u (zD rfl rfl) <| zS rfl rfl rfl <| zS rfl rfl rfl <| zS rfl rfl rfl <| zS rfl rfl rfl <| zS rfl rfl rfl <| zS rfl rfl rfl <| zS rfl rfl rfl <| zS rfl rfl rfl <| zS rfl rfl rfl <| g_u (z2 rfl rfl rfl) ?_
        refine zF ⟨by kernel_rfl, ?_⟩
        refine zA <| zX rfl <| zO <| zA <| zC <| zC <| zB <| g_u (zD rfl rfl) <| g_u (yR rfl rfl rfl) <| zF <| zA ?_
        refine zL rfl (fun hb14 => ?_) (fun hb14 => ?_)
        · have q := beq_iff_eq.1 hb14
          refine zB <| g_u (zH rfl rfl fa93_1 rfl) <| g_u (zG rfl rfl rfl tA91 tS91 rfl rfl) <| g_u (zD rfl rfl) ?_
          refine g_u (zQ (ih _ (xw hi) d ⟨by omega, by omega⟩) rfl rfl) ?_
          refine g_u (zE rfl rfl) <| zF <| zA <| zC <| zB <| g_u (zD rfl rfl) <| g_u (xi rfl rfl rfl) <| zF <| zA ?_
          refine zL rfl (fun hb15 => ?_) (fun hb15 => ?_)
          · have q := qc.1 hb15
            refine zC <| zB <| g_u (zD rfl rfl) <| g_u (zE rfl rfl) <| zF <| zA <| zI <| zd <| zP <| zP <| zd <| zP ?_
            exact ⟨⟨(rfl : toAV (Al.look _ _) = some _).trans (congrArg some (by (exact congrArg iv (by first | (exfalso; omega) | (rw [h2, hin, List.drop_length]; rfl) | (rw [h2, E, yB _ _ (by omega)]; done) | (rw [h2, E, zm _ _ (by omega), if_pos pb]; done) | (rw [h2, E, zm _ _ (by omega), if_neg (by rw [pb]; decide), yB _ _ (by omega)]; done))))), rfl⟩, trivial⟩
          · have q := qd.1 hb15
            refine zO <| zJ <| zA <| zB <| g_u (z6 rfl rfl rfl) <| g_u (zD rfl rfl) <| zF <| zA ?_
            first | (exfalso; omega) | refine ⟨i + 1, ⟨hi, by (try dsimp only); rw [h2, E, zm _ _ (by omega), if_neg (by rw [pb]; decide), zm _ _ (by omega)]⟩, ⟨rfl, rfl, rfl, rfl, z_ rfl (by rw [zR (by omega) (by omega)]; rfl), trivial⟩, by (try dsimp only); omega⟩
        · have q := beq_eq_false_iff_ne.1 hb14
          refine zO <| zA <| zC <| zB <| g_u (zD rfl rfl) <| g_u (xi rfl rfl rfl) <| zF <| zA ?_
          refine zL rfl (fun hb16 => ?_) (fun hb16 => ?_)
          · have q := qc.1 hb16
            refine zC <| zB <| g_u (zD rfl rfl) <| g_u (zE rfl rfl) <| zF <| zA <| zI <| zd <| zP <| zP <| zd <| zP ?_
            exact ⟨⟨(rfl : toAV (Al.look _ _) = some _).trans (congrArg some (by (exact congrArg iv (by first | (exfalso; omega) | (rw [h2, hin, List.drop_length]; rfl) | (rw [h2, E, yB _ _ (by omega)]; done) | (rw [h2, E, zm _ _ (by omega), if_pos pb]; done) | (rw [h2, E, zm _ _ (by omega), if_neg (by rw [pb]; decide), yB _ _ (by omega)]; done))))), rfl⟩, trivial⟩
          · have q := qd.1 hb16
            refine zO <| zJ <| zA <| zB <| g_u (z6 rfl rfl rfl) <| g_u (zD rfl rfl) <| zF <| zA ?_
            first | (exfalso; omega) | refine ⟨i + 1, ⟨hi, by (try dsimp only); rw [h2, E, zm _ _ (by omega), if_neg (by rw [pb]; decide), zm _ _ (by omega)]⟩, ⟨rfl, rfl, rfl, rfl, z_ rfl (by rw [zR (by omega) (by omega)]; rfl), trivial⟩, by (try dsimp only); omega⟩
    · have hin : i = l.length := by have := of_decide_eq_false hb1; (try simp only [List.length_map] at this); omega
      refine yJ <| ze <| ze <| z8 <| zA <| zC <| zB <| g_u (zE rfl rfl) <| zF <| zA <| zI ?_
      exact ⟨⟨(rfl : toAV (Al.look _ _) = some _).trans (congrArg some (by (exact congrArg iv (by first | (exfalso; omega) | (rw [h2, hin, List.drop_length]; rfl) | (rw [h2, E, yB _ _ (by omega)]; done) | (rw [h2, E, zm _ _ (by omega), if_pos pb]; done) | (rw [h2, E, zm _ _ (by omega), if_neg (by rw [pb]; decide), yB _ _ (by omega)]; done))))), rfl⟩, trivial⟩
set_option maxHeartbeats 2000000 in
theorem contentV_st (v : GV) (d : Int) (hd : 0 ≤ d ∧ d + v.wt ≤ 1000000000) (ih : ∀ y ∈ v.list, ∀ d : Int, 0 ≤ d ∧ d + y.wt ≤ 1000000000 → zg Tryz.prog Γ0 114 [y.av, iv d] [iv (xx d y)]) (ihm : ∀ d : Int, 0 ≤ d ∧ d + wtAs v.map ≤ 1000000000 → zg Tryz.prog Γ0 81 [.sl 7 (v.map.map avA), iv d] [iv (entC d none v.map)]) : zg Tryz.prog Γ0 177 [v.av, iv d] [iv (xN d v)] := by
  have ek := v.wt_eq
  have e1 : IntKind.i64.wrap (d + 1) = d + 1 := zR (by omega) (by omega)
  have lv := x_ v.list
  have cr := check_range v.text
  have ce := check_eq v.text
  refine zU Tryz.func177 rfl Tryz.ntmps177 (by kernel_rfl) rfl fun w0 I0 G0 => ?_
  refine zC <| zB <| g_uG (zl 1002 rfl rfl rfl rfl) rfl <| g_u (zE rfl rfl) <| zF <| zA <| zC <| zC <| zB <| g_u (zH rfl rfl fa91_0 rfl) <| g_u (zG rfl rfl rfl tA5 tS5 rfl rfl) <| zF <| zA <| zT <| zC <| zB <| g_u (yR rfl rfl rfl) <| g_u (zE rfl rfl) <| zF <| zA ?_
  refine zL rfl (fun hb1 => ?_) (fun hb1 => ?_)
  · have q := beq_iff_eq.1 hb1
    refine zC <| zB <| g_u (zH rfl rfl fa91_1 rfl) <| g_u (zG rfl rfl rfl tA9 tS9 rfl rfl) ?_
    refine g_u (zQ (check_c _ (by omega)) rfl rfl) ?_
    refine g_u (s_geI rfl rfl rfl) <| zF <| zA ?_
    refine zL rfl (fun hb2 => ?_) (fun hb2 => ?_)
    · have q := of_decide_eq_true hb2
      refine zC <| zB <| g_u (zE rfl rfl) <| zF <| zA <| zI <| zd <| zP ?_
      exact ⟨⟨(rfl : toAV (Al.look _ _) = some _).trans (congrArg some (by (exact congrArg iv (by unfold xN; first | (exfalso; omega) | (rw [if_pos (by omega), if_pos (by omega)]; done) | (rw [if_pos (by omega), if_neg (by omega)]; done) | (rw [if_neg (by omega), if_pos (by omega), if_pos (by omega)]; done) | (rw [if_neg (by omega), if_pos (by omega), if_neg (by omega)]; done) | (rw [if_neg (by omega), if_neg (by omega), if_pos (by omega), h2, E, yB _ _ (by omega)]; done) | (rw [if_neg (by omega), if_neg (by omega), if_pos (by omega), h2, hin, List.drop_length]; rfl) | (rw [if_neg (by omega), if_neg (by omega), if_neg (by omega), if_pos (by omega)]; done) | (rw [if_neg (by omega), if_neg (by omega), if_neg (by omega), if_neg (by omega)]; done))))), rfl⟩, trivial⟩
    · have q := of_decide_eq_false hb2
      refine zO <| zJ <| zA <| zC <| zB <| g_u (zE rfl rfl) <| zF <| zA <| zI ?_
      exact ⟨⟨(rfl : toAV (Al.look _ _) = some _).trans (congrArg some (by (exact congrArg iv (by unfold xN; first | (exfalso; omega) | (rw [if_pos (by omega), if_pos (by omega)]; done) | (rw [if_pos (by omega), if_neg (by omega)]; done) | (rw [if_neg (by omega), if_pos (by omega), if_pos (by omega)]; done) | (rw [if_neg (by omega), if_pos (by omega), if_neg (by omega)]; done) | (rw [if_neg (by omega), if_neg (by omega), if_pos (by omega), h2, E, yB _ _ (by omega)]; done) | (rw [if_neg (by omega), if_neg (by omega), if_pos (by omega), h2, hin, List.drop_length]; rfl) | (rw [if_neg (by omega), if_neg (by omega), if_neg (by omega), if_pos (by omega)]; done) | (rw [if_neg (by omega), if_neg (by omega), if_neg (by omega), if_neg (by omega)]; done))))), rfl⟩, trivial⟩
  · have q := beq_eq_false_iff_ne.1 hb1
    refine zC <| zB <| g_u (yR rfl rfl rfl) <| g_u (zE rfl rfl) <| zF <| zA ?_
    refine zL rfl (fun hb3 => ?_) (fun hb3 => ?_)
    · have q := beq_iff_eq.1 hb3
      refine zC <| zB <| g_u (zH rfl rfl wo rfl) <| g_u (zG rfl rfl rfl tA3 tS3 rfl rfl) <| g_u (xi rfl rfl rfl) <| g_u (zD rfl rfl) <| yQ (t := 21) rfl ?_
      rintro (hb4 | hb4)
      · rw [hb4]
        have q := qc.1 hb4
        refine zf rfl rfl (zH rfl rfl wo rfl) <| zf rfl rfl (zG rfl rfl rfl tA3 tS3 rfl rfl) <| zf rfl rfl (xi rfl rfl rfl) <| g_u (zo rfl rfl rfl) <| zF <| zA ?_
        refine zL rfl (fun hb5 => ?_) (fun hb5 => ?_)
        · have q := qc.1 hb5
          refine zC <| zB <| g_u (zE rfl rfl) <| zF <| zA <| zI <| zd <| zP ?_
          exact ⟨⟨(rfl : toAV (Al.look _ _) = some _).trans (congrArg some (by (exact congrArg iv (by unfold xN; first | (exfalso; omega) | (rw [if_pos (by omega), if_pos (by omega)]; done) | (rw [if_pos (by omega), if_neg (by omega)]; done) | (rw [if_neg (by omega), if_pos (by omega), if_pos (by omega)]; done) | (rw [if_neg (by omega), if_pos (by omega), if_neg (by omega)]; done) | (rw [if_neg (by omega), if_neg (by omega), if_pos (by omega), h2, E, yB _ _ (by omega)]; done) | (rw [if_neg (by omega), if_neg (by omega), if_pos (by omega), h2, hin, List.drop_length]; rfl) | (rw [if_neg (by omega), if_neg (by omega), if_neg (by omega), if_pos (by omega)]; done) | (rw [if_neg (by omega), if_neg (by omega), if_neg (by omega), if_neg (by omega)]; done))))), rfl⟩, trivial⟩
        · have q := qd.1 hb5
          refine zO <| zJ <| zA <| zC <| zB <| g_u (zE rfl rfl) <| zF <| zA <| zI ?_
          exact ⟨⟨(rfl : toAV (Al.look _ _) = some _).trans (congrArg some (by (exact congrArg iv (by unfold xN; first | (exfalso; omega) | (rw [if_pos (by omega), if_pos (by omega)]; done) | (rw [if_pos (by omega), if_neg (by omega)]; done) | (rw [if_neg (by omega), if_pos (by omega), if_pos (by omega)]; done) | (rw [if_neg (by omega), if_pos (by omega), if_neg (by omega)]; done) | (rw [if_neg (by omega), if_neg (by omega), if_pos (by omega), h2, E, yB _ _ (by omega)]; done) | (rw [if_neg (by omega), if_neg (by omega), if_pos (by omega), h2, hin, List.drop_length]; rfl) | (rw [if_neg (by omega), if_neg (by omega), if_neg (by omega), if_pos (by omega)]; done) | (rw [if_neg (by omega), if_neg (by omega), if_neg (by omega), if_neg (by omega)]; done))))), rfl⟩, trivial⟩
      · rw [hb4]
        have q := qd.1 hb4
        refine zS rfl rfl rfl <| zS rfl rfl rfl <| zS rfl rfl rfl <| g_u (z2 rfl rfl rfl) <| zF <| zA <| zX rfl <| zO <| zJ <| zA <| zC <| zB <| g_u (zE rfl rfl) <| zF <| zA <| zI ?_
        exact ⟨⟨(rfl : toAV (Al.look _ _) = some _).trans (congrArg some (by (exact congrArg iv (by unfold xN; first | (exfalso; omega) | (rw [if_pos (by omega), if_pos (by omega)]; done) | (rw [if_pos (by omega), if_neg (by omega)]; done) | (rw [if_neg (by omega), if_pos (by omega), if_pos (by omega)]; done) | (rw [if_neg (by omega), if_pos (by omega), if_neg (by omega)]; done) | (rw [if_neg (by omega), if_neg (by omega), if_pos (by omega), h2, E, yB _ _ (by omega)]; done) | (rw [if_neg (by omega), if_neg (by omega), if_pos (by omega), h2, hin, List.drop_length]; rfl) | (rw [if_neg (by omega), if_neg (by omega), if_neg (by omega), if_pos (by omega)]; done) | (rw [if_neg (by omega), if_neg (by omega), if_neg (by omega), if_neg (by omega)]; done))))), rfl⟩, trivial⟩
    · have q := beq_eq_false_iff_ne.1 hb3
      refine zC <| zB <| g_u (yR rfl rfl rfl) <| g_u (zE rfl rfl) <| zF <| zA ?_
      refine zL rfl (fun hb6 => ?_) (fun hb6 => ?_)
      · have q := beq_iff_eq.1 hb6
        refine zC <| zB <| g_u (zH rfl rfl fa91_4 rfl) <| g_u (zG rfl rfl rfl tA89 tS89 rfl rfl) <| g_u (yM rfl rfl Tryz.underlying89) <| g_u (zD rfl rfl) <| zF <| zA <| zT ?_
        refine z4 (fun i : Nat => [(1, .imm (iv d)), (29, .imm (.sl 6 (v.list.map avV))), (30, .imm (iv (v.list.length : Int))), (31, .imm (iv (i : Int)))]) (fun i => i ≤ v.list.length ∧ xf (d + 1) v.list = xf (d + 1) (v.list.drop i)) (fun i => v.list.length - i) (0) ?_ ⟨rfl, rfl, z_ rfl (by rw [List.length_map]), rfl, trivial⟩ ?_
        · exact ⟨Nat.zero_le _, rfl⟩
        · rintro i ⟨h1, h2⟩; (try dsimp only at h1 h2)
          refine zC <| zB <| g_u (yh rfl rfl rfl) <| zF <| zA <| zC ?_
          refine zL rfl (fun hb7 => ?_) (fun hb7 => ?_)
          · have hi : i < v.list.length := by have := of_decide_eq_true hb7; (try simp only [List.length_map] at this); omega
            have hw1 := wtVs_mem (nthV_mem hi)
            have E := checkVs_drop (d + 1) hi
            refine zO <| zA <| zC <| zT <| zC <| zB ?_
            refine g_u (zq rfl rfl rfl Tryz.underlying89 tS91 (by omega) (ixV hi)) ?_
            refine g_u (zb rfl rfl tA91 tS91 rfl rfl) <| g_uG (zx 1006 rfl rfl rfl tZ91) rfl <| g_u (zM rfl rfl rfl tS91 rfl rfl) <| zF <| zA <| zC <| zB <| g_u (zj rfl rfl rfl tA91 tS91 rfl rfl) <| g_u (zD rfl rfl) <| g_u (z6 rfl rfl rfl) ?_
            refine g_u (zQ ((show zg Tryz.prog Γ0 114 [(nthV v.list i).av, iv (IntKind.i64.wrap (d + 1))] [iv (xx (d + 1) (nthV v.list i))] from by rw [e1]; exact ih _ (nthV_mem hi) _ ⟨by omega, by omega⟩)) rfl rfl) ?_
            refine g_u (zE rfl rfl) <| zF <| zA <| zC <| zB <| g_u (zD rfl rfl) <| g_u (xi rfl rfl rfl) <| zF <| zA ?_
            refine zL rfl (fun hb8 => ?_) (fun hb8 => ?_)
            · have q := qc.1 hb8
              refine zC <| zB <| g_u (zD rfl rfl) <| g_u (zE rfl rfl) <| zF <| zA <| zI <| zd <| zP <| zP <| zd <| zd <| zP ?_
              exact ⟨⟨(rfl : toAV (Al.look _ _) = some _).trans (congrArg some (by (exact congrArg iv (by unfold xN; first | (exfalso; omega) | (rw [if_pos (by omega), if_pos (by omega)]; done) | (rw [if_pos (by omega), if_neg (by omega)]; done) | (rw [if_neg (by omega), if_pos (by omega), if_pos (by omega)]; done) | (rw [if_neg (by omega), if_pos (by omega), if_neg (by omega)]; done) | (rw [if_neg (by omega), if_neg (by omega), if_pos (by omega), h2, E, yB _ _ (by omega)]; done) | (rw [if_neg (by omega), if_neg (by omega), if_pos (by omega), h2, hin, List.drop_length]; rfl) | (rw [if_neg (by omega), if_neg (by omega), if_neg (by omega), if_pos (by omega)]; done) | (rw [if_neg (by omega), if_neg (by omega), if_neg (by omega), if_neg (by omega)]; done))))), rfl⟩, trivial⟩
            · have q := qd.1 hb8
              refine zO <| zJ <| zA <| zB <| g_u (z6 rfl rfl rfl) <| g_u (zD rfl rfl) <| zF <| zA ?_
              refine ⟨i + 1, ⟨hi, by (try dsimp only); rw [h2, E, zm _ _ (by omega)]⟩, ⟨rfl, rfl, rfl, z_ rfl (by rw [zR (by omega) (by omega)]; rfl), trivial⟩, by (try dsimp only); omega⟩
          · have hin : i = v.list.length := by have := of_decide_eq_false hb7; (try simp only [List.length_map] at this); omega
            refine yJ <| ze <| ze <| z8 <| zJ <| zA <| zC <| zB <| g_u (zE rfl rfl) <| zF <| zA <| zI ?_
            exact ⟨⟨(rfl : toAV (Al.look _ _) = some _).trans (congrArg some (by (exact congrArg iv (by unfold xN; first | (exfalso; omega) | (rw [if_pos (by omega), if_pos (by omega)]; done) | (rw [if_pos (by omega), if_neg (by omega)]; done) | (rw [if_neg (by omega), if_pos (by omega), if_pos (by omega)]; done) | (rw [if_neg (by omega), if_pos (by omega), if_neg (by omega)]; done) | (rw [if_neg (by omega), if_neg (by omega), if_pos (by omega), h2, E, yB _ _ (by omega)]; done) | (rw [if_neg (by omega), if_neg (by omega), if_pos (by omega), h2, hin, List.drop_length]; rfl) | (rw [if_neg (by omega), if_neg (by omega), if_neg (by omega), if_pos (by omega)]; done) | (rw [if_neg (by omega), if_neg (by omega), if_neg (by omega), if_neg (by omega)]; done))))), rfl⟩, trivial⟩
      · have q := beq_eq_false_iff_ne.1 hb6
        refine zC <| zB <| g_u (yR rfl rfl rfl) <| g_u (zE rfl rfl) <| zF <| zA ?_
        refine zL rfl (fun hb9 => ?_) (fun hb9 => ?_)
        · have q := beq_iff_eq.1 hb9
          refine zC <| zB <| g_u (zH rfl rfl fa91_5 rfl) <| g_u (zG rfl rfl rfl tA46 tS46 rfl rfl) <| g_u (zD rfl rfl) <| g_u (z6 rfl rfl rfl) ?_
          refine g_u (zQ ((show zg Tryz.prog Γ0 81 [.sl 7 (v.map.map avA), iv (IntKind.i64.wrap (d + 1))] [iv (entC (d + 1) none v.map)] from by rw [e1]; exact ihm _ ⟨by omega, by omega⟩)) rfl rfl) ?_
          refine g_u (zE rfl rfl) <| zF <| zA <| zI <| zd <| zP ?_
          exact ⟨⟨(rfl : toAV (Al.look _ _) = some _).trans (congrArg some (by (exact congrArg iv (by unfold xN; first | (exfalso; omega) | (rw [if_pos (by omega), if_pos (by omega)]; done) | (rw [if_pos (by omega), if_neg (by omega)]; done) | (rw [if_neg (by omega), if_pos (by omega), if_pos (by omega)]; done) | (rw [if_neg (by omega), if_pos (by omega), if_neg (by omega)]; done) | (rw [if_neg (by omega), if_neg (by omega), if_pos (by omega), h2, E, yB _ _ (by omega)]; done) | (rw [if_neg (by omega), if_neg (by omega), if_pos (by omega), h2, hin, List.drop_length]; rfl) | (rw [if_neg (by omega), if_neg (by omega), if_neg (by omega), if_pos (by omega)]; done) | (rw [if_neg (by omega), if_neg (by omega), if_neg (by omega), if_neg (by omega)]; done))))), rfl⟩, trivial⟩
        · have q := beq_eq_false_iff_ne.1 hb9
          refine zO <| zJ <| zA <| zC <| zB <| g_u (zE rfl rfl) <| zF <| zA <| zI ?_
          exact ⟨⟨(rfl : toAV (Al.look _ _) = some _).trans (congrArg some (by (exact congrArg iv (by unfold xN; first | (exfalso; omega) | (rw [if_pos (by omega), if_pos (by omega)]; done) | (rw [if_pos (by omega), if_neg (by omega)]; done) | (rw [if_neg (by omega), if_pos (by omega), if_pos (by omega)]; done) | (rw [if_neg (by omega), if_pos (by omega), if_neg (by omega)]; done) | (rw [if_neg (by omega), if_neg (by omega), if_pos (by omega), h2, E, yB _ _ (by omega)]; done) | (rw [if_neg (by omega), if_neg (by omega), if_pos (by omega), h2, hin, List.drop_length]; rfl) | (rw [if_neg (by omega), if_neg (by omega), if_neg (by omega), if_pos (by omega)]; done) | (rw [if_neg (by omega), if_neg (by omega), if_neg (by omega), if_neg (by omega)]; done))))), rfl⟩, trivial⟩
theorem checkV_st (v : GV) (d : Int) (hd : 0 ≤ d ∧ d + v.wt ≤ 1000000000) (ihc : zg Tryz.prog Γ0 177 [v.av, iv d] [iv (xN d v)]) : zg Tryz.prog Γ0 114 [v.av, iv d] [iv (xx d v)] := by
  have ek := v.wt_eq
  refine zU Tryz.func114 rfl Tryz.ntmps114 (by kernel_rfl) rfl fun w0 I0 G0 => ?_
  refine zC <| zB <| g_uG (zl 1002 rfl rfl rfl rfl) rfl <| g_u (zE rfl rfl) <| zF <| zA <| zC <| zT <| zC <| zB <| g_u (zH rfl rfl fa91_0 rfl) <| g_u (zG rfl rfl rfl tA5 tS5 rfl rfl) <| g_u (wh rfl rfl rfl) <| g_u (zE rfl rfl) <| zF <| zA ?_
  refine zL rfl (fun hb1 => ?_) (fun hb1 => ?_)
  · have h7 := of_decide_eq_true hb1
    refine zC <| zB <| g_u (zE rfl rfl) <| zF <| zA <| zI <| zd <| zP ?_
    exact ⟨⟨(rfl : toAV (Al.look _ _) = some _).trans (congrArg some (by (exact congrArg iv (by first | (exfalso; omega) | (rw [xU (by omega) he (by omega)]; done) | (rw [yb, if_pos (by omega)]; done) | (rw [yb, if_neg (by omega), if_pos he]; done) | (rw [yb, if_neg (by omega), if_neg (by rw [he]; decide), if_pos (by omega)]; done))))), rfl⟩, trivial⟩
  · have h7 := of_decide_eq_false hb1
    refine zC <| zB <| g_u (zG rfl rfl rfl tA91 tS91 rfl rfl) <| g_u (zQ (more_c _) rfl rfl) <| g_u (zE rfl rfl) <| zF <| zA ?_
    refine zL rfl (fun hb2 => ?_) (fun hb2 => ?_)
    · have he : emptyV v = false := by have e := hb2; simpa using e
      refine zC <| zB <| g_u (zE rfl rfl) <| zF <| zA <| zI <| zd <| zP ?_
      exact ⟨⟨(rfl : toAV (Al.look _ _) = some _).trans (congrArg some (by (exact congrArg iv (by first | (exfalso; omega) | (rw [xU (by omega) he (by omega)]; done) | (rw [yb, if_pos (by omega)]; done) | (rw [yb, if_neg (by omega), if_pos he]; done) | (rw [yb, if_neg (by omega), if_neg (by rw [he]; decide), if_pos (by omega)]; done))))), rfl⟩, trivial⟩
    · have he : emptyV v = true := by have e := hb2; simpa using e
      refine zC <| zB <| g_u (zG rfl rfl rfl tA91 tS91 rfl rfl) <| g_u (zQ (holds_c _) rfl rfl) <| g_u (zD rfl rfl) <| yQ (t := 15) rfl ?_
      rintro (hb3 | hb3)
      · rw [hb3]
        have q : v.kind = 6 ∨ v.kind = 7 := by have e := hb3; simpa using e
        refine zf rfl rfl (zD rfl rfl) <| zf rfl rfl (s_geI rfl rfl rfl) <| g_u (zo rfl rfl rfl) <| g_u (zE rfl rfl) <| zF <| zA ?_
        refine zL rfl (fun hb4 => ?_) (fun hb4 => ?_)
        · have q := of_decide_eq_true hb4
          refine zC <| zB <| g_u (zE rfl rfl) <| zF <| zA <| zI <| zd <| zP ?_
          exact ⟨⟨(rfl : toAV (Al.look _ _) = some _).trans (congrArg some (by (exact congrArg iv (by first | (exfalso; omega) | (rw [xU (by omega) he (by omega)]; done) | (rw [yb, if_pos (by omega)]; done) | (rw [yb, if_neg (by omega), if_pos he]; done) | (rw [yb, if_neg (by omega), if_neg (by rw [he]; decide), if_pos (by omega)]; done))))), rfl⟩, trivial⟩
        · have q := of_decide_eq_false hb4
          refine zO <| zJ <| zA <| zC <| zB <| g_u (zG rfl rfl rfl tA91 tS91 rfl rfl) <| g_u (zD rfl rfl) <| g_u (zQ (ihc) rfl rfl) <| g_u (zE rfl rfl) <| zF <| zA <| zI ?_
          exact ⟨⟨(rfl : toAV (Al.look _ _) = some _).trans (congrArg some (by (exact congrArg iv (by first | (exfalso; omega) | (rw [xU (by omega) he (by omega)]; done) | (rw [yb, if_pos (by omega)]; done) | (rw [yb, if_neg (by omega), if_pos he]; done) | (rw [yb, if_neg (by omega), if_neg (by rw [he]; decide), if_pos (by omega)]; done))))), rfl⟩, trivial⟩
      · rw [hb3]
        have q : ¬ (v.kind = 6 ∨ v.kind = 7) := by have e := hb3; simpa using e
        refine zS rfl rfl rfl <| zS rfl rfl rfl <| g_u (z2 rfl rfl rfl) <| g_u (zE rfl rfl) <| zF <| zA <| zX rfl <| zO <| zJ <| zA <| zC <| zB <| g_u (zG rfl rfl rfl tA91 tS91 rfl rfl) <| g_u (zD rfl rfl) <| g_u (zQ (ihc) rfl rfl) <| g_u (zE rfl rfl) <| zF <| zA <| zI ?_
        exact ⟨⟨(rfl : toAV (Al.look _ _) = some _).trans (congrArg some (by (exact congrArg iv (by first | (exfalso; omega) | (rw [xU (by omega) he (by omega)]; done) | (rw [yb, if_pos (by omega)]; done) | (rw [yb, if_neg (by omega), if_pos he]; done) | (rw [yb, if_neg (by omega), if_neg (by rw [he]; decide), if_pos (by omega)]; done))))), rfl⟩, trivial⟩
theorem checkV_c (v : GV) : ∀ d : Int, 0 ≤ d ∧ d + v.wt ≤ 1000000000 → zg Tryz.prog Γ0 114 [v.av, iv d] [iv (xx d v)] := by
  refine GV.ind (P := fun v => ∀ d : Int, 0 ≤ d ∧ d + v.wt ≤ 1000000000 → zg Tryz.prog Γ0 114 [v.av, iv d] [iv (xx d v)]) ?_ v
  intro v h1 h2 d hd
  exact checkV_st v d hd (contentV_st v d hd h1 fun d hd => entC_st v.map d hd h2)
theorem entC_c (l : List GA) (d : Int) (hd : 0 ≤ d ∧ d + wtAs l ≤ 1000000000) : zg Tryz.prog Γ0 81 [.sl 7 (l.map avA), iv d] [iv (entC d none l)] := entC_st l d hd fun a _ => checkV_c a.val
end Go.Proofs
namespace Go.Al
open Go.RowKit
section
variable {C : Cx} {A : Nat → SV} {d : Nat} {ty : TypeId} {pos : String} {af : Array Edge} {gd : Option (Nat × Bool)} {x y : Operand} {T T' : TypeId}
end
end Go.Al
namespace Go.Proofs
open Go Go.Al
theorem GA.ext' {a b : GA} (h1 : a.key = b.key) (h2 : a.val = b.val) : a = b := by cases a; cases b; simp only [GA.key_mk, GA.val_mk] at h1 h2; rw [h1, h2]
theorem GV.ext' {a b : GV} (h1 : a.kind = b.kind) (h2 : a.text = b.text) (h3 : a.num = b.num) (h4 : a.bits = b.bits) (h5 : a.list = b.list) (h6 : a.map = b.map) : a = b := by
  cases a; cases b
  simp only [GV.kind_mk, GV.text_mk, GV.num_mk, GV.bits_mk, GV.list_mk, GV.map_mk] at h1 h2 h3 h4 h5 h6
  rw [h1, h2, h3, h4, h5, h6]
end Go.Proofs
namespace Go.Al
open Go.RowKit
section
variable {C : Cx} {A : Nat → SV} {d : Nat} {ty : TypeId} {pos : String} {af : Array Edge} {gd : Option (Nat × Bool)} {x y : Operand} {T T' : TypeId}
theorem s_makeImm {el : TypeId} {n by_ : Nat} {X0 : AV} {len cap : Nat} {il ic : Int} {k1 k2 : IntKind} (hN : Nat.blt d C.N = true) (hx : opV A x = some (.v (.int k1 il))) (hy : opV A y = some (.v (.int k2 ic))) (hil : il = len) (hic : ic = cap)
    (hT : C.P.underlying T = some (.slice el)) (hn : zs C.P el = some n) (hz : yN C.P el X0) (hX : Nat.beq X0.width n = true) (h0 : Nat.blt 0 n = true) (hb : (C.P.info? el).map (·.bytes) = some by_) (hlc : len = cap) (hB : by_ * cap ≤ 281474976710656) (hL : cap < 9223372036854775808) :
    zW C ⟨some d, .makeSlice T x y, ty, pos, af, gd⟩ (opR x ++ opR y) [] A [(d, .imm (.sl n (List.replicate cap X0)))] := by
  intro A' a w hR hF ⟨G, S⟩
  rw [← zr (fun k hk => hR k (List.mem_append_left _ hk))] at hx
  rw [← zr (fun k hk => hR k (List.mem_append_right _ hk))] at hy
  have hev1 := zv (S.opV hx)
  have hev2 := zv (S.opV hy)
  obtain ⟨z, hz1, hz2⟩ := hz
  have hn0 : 0 < n := by simpa [Nat.blt_eq] using h0
  have hzl : z.cells.size = n := by
    have := RepC.len X0 _ (y9 (w := w) (I := G.I) X0 _ hz2)
    rw [← Array.length_toList, this]; exact Nat.eq_of_beq_eq_true hX
  obtain ⟨inf, hi, hib⟩ : ∃ inf, C.P.info? el = some inf ∧ inf.bytes = by_ := by
    cases hi : C.P.info? el with
    | none => rw [hi] at hb; cases hb
    | some inf => rw [hi] at hb; exact ⟨inf, rfl, by simpa using hb⟩
  let cs : Array Value := (Array.range (cap * n)).map fun i => z.cells[i % z.cells.size]!
  have k2 : RepE w G.I n (List.replicate cap X0) cs.toList := by
    have := zeroRow (w := w) (I := G.I) (y9 X0 _ hz2) hzl hn0 cap
    simpa [cs] using this
  unfold Oper.wp
  have hw1 : IntKind.i64.wrap il = len := by rw [hil]; exact zR (by omega) (by omega)
  have hw2 : IntKind.i64.wrap ic = cap := by rw [hic]; exact zR (by omega) (by omega)
  have hrun : (Instr.makeSlice T (a.eval x) (a.eval y)).run C.P w = .ok (.slice (some ⟨w.heap.size, 0, none⟩) len cap) (w.alloc (.cells cs el)) := by
    have hcn : ¬ (cap * n = 0 ∧ cap ≠ 0) := by
      rintro ⟨h1, h2⟩
      have := Nat.mul_pos (Nat.pos_of_ne_zero h2) hn0
      omega
    have hbig : decide ((by_ : Int) * (cap : Int) > 2 ^ 48) = false := by
      refine decide_eq_false ?_
      have : ((by_ * cap : Nat) : Int) ≤ 281474976710656 := Int.ofNat_le.2 hB
      rw [Int.natCast_mul] at this
      have h48 : (2 : Int) ^ 48 = 281474976710656 := by decide
      rw [h48]; omega
    have hc0 : ((cap : Int) < 0) = False := by simp
    have hl0 : ((len : Int) < 0) = False := by simp
    have hlc' : ((len : Int) > (cap : Int)) = False := by simp; omega
    simp only [Instr.makeSlice, Sem.run_bind, zN hT, Result.andThen_ok, hev1, hev2, asInt, asIntOf, Sem.run_pure, y1 hi, hw1, hw2, hib, hc0, hl0, hlc', hbig, decide_false, Bool.or_false, Bool.false_eq_true, if_false, run_askRoom, zy hn, Int.toNat_natCast]
    by_cases h : cap * n = 0
    · have hcs0 : ∀ f : Nat → Value, (Array.range 0).map f = #[] := by intro f; simp
      simp only [h, if_true, Sem.run_pure, Result.andThen_ok, newRow, Sem.run_bind, run_newObj]
      simp only [cs, h, hcs0]
      rfl
    · simp only [h, if_false, Sem.run_bind, yo hz1, Result.andThen_ok, Sem.run_pure, newRow, run_newObj]
      rfl
  simp only [execOp, Sem.run_bind, hrun, Result.andThen_ok, Sem.run_pure, Oper.upon_value]
  have S' := S.allocI cs el cs.size
  have hle : Le w G.I (w.alloc (.cells cs el)) (fun b o => G.I b o ∨ (b = w.heap.size ∧ o < cs.size)) := fun b o h => ⟨.inl h, (Le.alloc S.val _ b o h).2⟩
  have hcell := cellsAt_alloc (w := w) (I := G.I) (T := el) (fr := (0, 0)) (Nat.le_refl cs.size)
  rw [List.take_of_length_le (by simp)] at hcell
  refine ⟨_, S'.put (by simpa [Nat.blt_eq] using hN) (zn.2 ⟨[_], ?_, rfl⟩)⟩
  simp only [RepC]
  refine ⟨_, rfl, .inr ⟨w.heap.size, 0, cap, by rw [List.length_replicate, hlc], by simp, ?_, (k2.mono hle).mem hcell⟩⟩
  unfold maxLen; omega
end
end Go.Al
namespace Go.Proofs
open Go Go.Al
set_option maxRecDepth 10000
end Go.Proofs
namespace Go.Proofs
open Go Go.Al
set_option maxRecDepth 10000
theorem checkAs_c (l : List GA) (ho : ∀ a ∈ l, a.ok) (hw : wtAs l ≤ 1000000) : zg Tryz.prog Γ0 49 [(.sl 7 (l.map avA))] [iv (yO l)] := by
  have hl := y5 l
  refine zU Tryz.func49 rfl Tryz.ntmps49 (by kernel_rfl) rfl fun w0 I0 G0 => ?_
  refine zC <| zB <| g_u (zE rfl rfl) <| zF <| zA <| zC <| zC <| zB <| g_u (zD rfl rfl) <| g_u (yM rfl rfl Tryz.underlying46) <| g_u (wh rfl rfl rfl) <| zF <| zA ?_
  refine zL rfl (fun hb1 => ?_) (fun hb1 => ?_)
  · have q : (l.length : Int) > 32 := by have e := of_decide_eq_true hb1; simp only [List.length_map] at e; omega
    refine zC <| zB <| g_u (zE rfl rfl) <| zF <| zA <| zI <| zP ?_
    exact ⟨⟨(rfl : toAV (Al.look _ _) = some _).trans (congrArg some (by (exact congrArg iv (by first | (rw [h2, hin, List.drop_length]; rfl) | (rw [h2, wW hi, if_pos (by omega)]; done) | (unfold yO; rw [if_pos (by omega)]; done) | (unfold yO; rw [if_neg (by omega), yB _ _ (by omega)]; done))))), rfl⟩, trivial⟩
  · have q : ¬ (l.length : Int) > 32 := by have e := of_decide_eq_false hb1; simp only [List.length_map] at e; omega
    refine zO <| zA <| zC <| zC <| zB <| g_u (zD rfl rfl) ?_
    refine g_u (zQ (entC_c l 0 ⟨by omega, by omega⟩) rfl rfl) ?_
    refine g_u (zE rfl rfl) <| zF <| zA <| zC <| zB <| g_u (zD rfl rfl) <| g_u (xi rfl rfl rfl) <| zF <| zA ?_
    refine zL rfl (fun hb2 => ?_) (fun hb2 => ?_)
    · have q := qc.1 hb2
      refine zC <| zB <| g_u (zD rfl rfl) <| g_u (zE rfl rfl) <| zF <| zA <| zI <| zP ?_
      exact ⟨⟨(rfl : toAV (Al.look _ _) = some _).trans (congrArg some (by (exact congrArg iv (by first | (rw [h2, hin, List.drop_length]; rfl) | (rw [h2, wW hi, if_pos (by omega)]; done) | (unfold yO; rw [if_pos (by omega)]; done) | (unfold yO; rw [if_neg (by omega), yB _ _ (by omega)]; done))))), rfl⟩, trivial⟩
    · have q := qd.1 hb2
      refine zO <| zA <| zC <| zC <| zB <| g_u (zD rfl rfl) <| g_u (yM rfl rfl Tryz.underlying46) <| g_u (zD rfl rfl) <| zF <| zA <| zT ?_
      refine z4 (fun i : Nat => [(14, .imm (.sl 7 (l.map avA))), (15, .imm (iv (l.length : Int))), (16, .imm (iv (i : Int)))]) (fun i => i ≤ l.length ∧ yO l = textsC (l.drop i)) (fun i => l.length - i) (0) ?_ ⟨rfl, z_ rfl (by rw [List.length_map]), rfl, trivial⟩ ?_
      · exact ⟨Nat.zero_le _, by unfold yO; rw [if_neg (by omega), zm _ _ (by omega)]; rfl⟩
      · rintro i ⟨h1, h2⟩; (try dsimp only at h1 h2)
        refine zC <| zB <| g_u (yh rfl rfl rfl) <| zF <| zA <| zC ?_
        refine zL rfl (fun hb3 => ?_) (fun hb3 => ?_)
        · have hi : i < l.length := by have := of_decide_eq_true hb3; (try simp only [List.length_map] at this); omega
          have gov : (nthA l i).val.ok := ((GA.ok_iff _).1 (ho _ (xw hi))).2
          have gow : (nthA l i).val.wt ≤ 10000000 := by have h1 := wk (xw hi); have h2 := (nthA l i).wt_eq; omega
          refine zO <| zA <| zC <| zT <| zC <| zB ?_
          refine g_u (zq rfl rfl rfl Tryz.underlying46 tS93 (by omega) (ixA hi)) ?_
          refine g_u (zb rfl rfl tA93 tS93 rfl rfl) <| g_uG (zx 1005 rfl rfl rfl tZ93) rfl <| g_u (zM rfl rfl rfl tS93 rfl rfl) <| zF <| zA <| zC <| zB <| g_u (zH rfl rfl fa93_1 rfl) <| g_u (zG rfl rfl rfl tA91 tS91 rfl rfl) <| g_u (zQ (text_c _ gov gow) rfl rfl) <| g_u (xT rfl rfl Tryz.underlying9) <| g_u (wh rfl rfl rfl) <| zF <| zA ?_
          refine zL rfl (fun hb4 => ?_) (fun hb4 => ?_)
          · have q := of_decide_eq_true hb4
            refine zC <| zB <| g_u (zE rfl rfl) <| zF <| zA <| zI <| zd <| zP <| zP <| zd <| zP ?_
            exact ⟨⟨(rfl : toAV (Al.look _ _) = some _).trans (congrArg some (by (exact congrArg iv (by first | (rw [h2, hin, List.drop_length]; rfl) | (rw [h2, wW hi, if_pos (by omega)]; done) | (unfold yO; rw [if_pos (by omega)]; done) | (unfold yO; rw [if_neg (by omega), yB _ _ (by omega)]; done))))), rfl⟩, trivial⟩
          · have q := of_decide_eq_false hb4
            refine zO <| zJ <| zA <| zB <| g_u (z6 rfl rfl rfl) <| g_u (zD rfl rfl) <| zF <| zA ?_
            refine ⟨i + 1, ⟨hi, by (try dsimp only); rw [h2, wW hi, if_neg (by omega)]⟩, ⟨rfl, rfl, z_ rfl (by rw [zR (by omega) (by omega)]; rfl), trivial⟩, by (try dsimp only); omega⟩
        · have hin : i = l.length := by have := of_decide_eq_false hb3; (try simp only [List.length_map] at this); omega
          refine yJ <| ze <| ze <| z8 <| zA <| zC <| zB <| g_u (zE rfl rfl) <| zF <| zA <| zI ?_
          exact ⟨⟨(rfl : toAV (Al.look _ _) = some _).trans (congrArg some (by (exact congrArg iv (by first | (rw [h2, hin, List.drop_length]; rfl) | (rw [h2, wW hi, if_pos (by omega)]; done) | (unfold yO; rw [if_pos (by omega)]; done) | (unfold yO; rw [if_neg (by omega), yB _ _ (by omega)]; done))))), rfl⟩, trivial⟩
end Go.Proofs
namespace Go.Proofs
open Go Go.Al
set_option maxRecDepth 10000
end Go.Proofs
namespace Go.Proofs
open Go Go.Al
structure Rg where
  lo : Int
  hi : Int
def Rg.av (r : Rg) : AV := .agg [.v (.int .u64 r.lo), .v (.int .u64 r.hi)]
def wQ (r : Rg) : Int := if r.hi > 9223372036854775807 ∨ r.lo > r.hi then 11 else 0
def begunM (r : Rg) : Int := IntKind.u64.wrap (r.lo.tdiv 1000)
def lastsM (r : Rg) : Int := IntKind.u64.wrap ((IntKind.u64.wrap (r.hi - r.lo)).tdiv 1000)
def microsM (m : Int) (r : Rg) : Int := if wQ r = 0 then IntKind.i64.wrap m else 0
def nanoV (us : Int) : Int := if us < 0 ∨ us > 9223372036854775 then 0 else IntKind.u64.wrap (IntKind.u64.wrap us * 1000)
def nanoC (us : Int) : Int := if us < 0 ∨ us > 9223372036854775 then 11 else 0
def ofBad (b l : Int) : Prop := nanoC b ≠ 0 ∨ nanoC l ≠ 0 ∨ nanoV l > IntKind.u64.wrap (9223372036854775807 - nanoV b)
instance (b l : Int) : Decidable (ofBad b l) := by unfold ofBad; infer_instance
def ofR (b l : Int) : Rg := if ofBad b l then ⟨0, 0⟩ else ⟨nanoV b, IntKind.u64.wrap (nanoV b + nanoV l)⟩
def BegunM (r : Rg) : Int := microsM (begunM r) r
def LastsM (r : Rg) : Int := microsM (lastsM r) r
def wholeM (r : Rg) : Rg := ofR (BegunM r) (LastsM r)
-- the reference
def rNanoV (us : Int) : Int := if us < 0 ∨ us > 9223372036854775 then 0 else IntKind.u64.wrap (1000 * IntKind.u64.wrap us)
def rBad (b l : Int) : Prop := nanoC b ≠ 0 ∨ nanoC l ≠ 0 ∨ rNanoV b > IntKind.u64.wrap (9223372036854775807 - rNanoV l)
instance (b l : Int) : Decidable (rBad b l) := by unfold rBad; infer_instance
end Go.Proofs
namespace Go.Proofs
open Go Go.Al
end Go.Proofs
namespace Go.Proofs
open Go Go.Al
instance : DecidableEq GV := fun a b => decidable_of_iff (sameV a b = true) (sameV_iff a b)
instance : DecidableEq GA := fun a b => decidable_of_iff (sameA a b = true) (sameA_iff a b)
theorem GE.ext' {a b : GE} (h1 : a.time = b.time) (h2 : a.name = b.name) (h3 : a.attrs = b.attrs) : a = b := by cases a; cases b; simp_all
theorem GL.ext' {a b : GL} (h1 : a.trace = b.trace) (h2 : a.span = b.span) (h3 : a.state = b.state) (h4 : a.attrs = b.attrs) : a = b := by cases a; cases b; simp_all
theorem GSpan.ext' {a b : GSpan} (h1 : a.trace = b.trace) (h2 : a.id = b.id) (h3 : a.parent = b.parent) (h4 : a.state = b.state) (h5 : a.name = b.name) (h6 : a.kind = b.kind) (h7 : a.start = b.start) (h8 : a.fin = b.fin) (h9 : a.attrs = b.attrs) (h10 : a.events = b.events) (h11 : a.links = b.links) (h12 : a.code = b.code) (h13 : a.note = b.note) : a = b := by
  cases a; cases b; simp_all
theorem GScope.ext' {a b : GScope} (h1 : a.name = b.name) (h2 : a.version = b.version) (h3 : a.spans = b.spans) : a = b := by cases a; cases b; simp_all
theorem GRes.ext' {a b : GRes} (h1 : a.attrs = b.attrs) (h2 : a.scopes = b.scopes) : a = b := by cases a; cases b; simp_all
instance : DecidableEq GE := fun a b => decidable_of_iff (a.time = b.time ∧ a.name = b.name ∧ a.attrs = b.attrs) ⟨fun h => GE.ext' h.1 h.2.1 h.2.2, fun h => by rw [h]; exact ⟨rfl, rfl, rfl⟩⟩
instance : DecidableEq GL := fun a b => decidable_of_iff (a.trace = b.trace ∧ a.span = b.span ∧ a.state = b.state ∧ a.attrs = b.attrs) ⟨fun h => GL.ext' h.1 h.2.1 h.2.2.1 h.2.2.2, fun h => by rw [h]; exact ⟨rfl, rfl, rfl, rfl⟩⟩
instance : DecidableEq GSpan := fun a b => decidable_of_iff ((a.trace = b.trace ∧ a.id = b.id ∧ a.parent = b.parent ∧ a.state = b.state) ∧ (a.name = b.name ∧ a.kind = b.kind ∧ a.start = b.start ∧ a.fin = b.fin) ∧ (a.attrs = b.attrs ∧ a.events = b.events ∧ a.links = b.links) ∧ a.code = b.code ∧ a.note = b.note)
  ⟨fun h => GSpan.ext' h.1.1 h.1.2.1 h.1.2.2.1 h.1.2.2.2 h.2.1.1 h.2.1.2.1 h.2.1.2.2.1 h.2.1.2.2.2 h.2.2.1.1 h.2.2.1.2.1 h.2.2.1.2.2 h.2.2.2.1 h.2.2.2.2, fun h => by rw [h]; exact ⟨⟨rfl, rfl, rfl, rfl⟩, ⟨rfl, rfl, rfl, rfl⟩, ⟨rfl, rfl, rfl⟩, rfl, rfl⟩⟩
instance : DecidableEq GScope := fun a b => decidable_of_iff (a.name = b.name ∧ a.version = b.version ∧ a.spans = b.spans) ⟨fun h => GScope.ext' h.1 h.2.1 h.2.2, fun h => by rw [h]; exact ⟨rfl, rfl, rfl⟩⟩
instance : DecidableEq GRes := fun a b => decidable_of_iff (a.attrs = b.attrs ∧ a.scopes = b.scopes) ⟨fun h => GRes.ext' h.1 h.2, fun h => by rw [h]; exact ⟨rfl, rfl⟩⟩
def k_kind : ByteArray := ⟨#[115, 112, 97, 110, 46, 107, 105, 110, 100]⟩
def k_error : ByteArray := ⟨#[101, 114, 114, 111, 114]⟩
def k_code : ByteArray := ⟨#[111, 116, 101, 108, 46, 115, 116, 97, 116, 117, 115, 95, 99, 111, 100, 101]⟩
def k_note : ByteArray := ⟨#[111, 116, 101, 108, 46, 115, 116, 97, 116, 117, 115, 95, 100, 101, 115, 99, 114, 105, 112, 116, 105, 111, 110]⟩
def k4 : List ByteArray := [k_kind, k_error, k_code, k_note]
def spansOf : List GScope → List GSpan
  | [] => []
  | c :: cs => c.spans ++ spansOf cs
theorem spansOf_len : ∀ l : List GScope, (spansOf l).length ≤ zu GScope.wt l
  | [] => Nat.zero_le _
  | c :: l => by
    rw [spansOf, List.length_append, zu]
    have h1 := spansOf_len l
    have h2 := yW GSpan.wt (fun e => by unfold GSpan.wt; omega) c.spans
    have h3 : c.wt = 1 + c.name.size + c.version.size + zu GSpan.wt c.spans := rfl
    omega
def plC (i : Nat) : Nat → List GScope → List (Nat × Nat × Nat)
  | _, [] => []
  | k, c :: cs => ((List.range c.spans.length).map fun m => (i, k, m)) ++ plC i (k + 1) cs
def plR : Nat → List GRes → List (Nat × Nat × Nat)
  | _, [] => []
  | i, r :: rs => plC i 0 r.scopes ++ plR (i + 1) rs
def plav (p : Nat × Nat × Nat) : AV := .agg [iv (p.1 : Int), iv (p.2.1 : Int), iv (p.2.2 : Int)]
theorem plC_snoc (i : Nat) (c : GScope) : ∀ (k : Nat) (l : List GScope), plC i k (l ++ [c]) = plC i k l ++ (List.range c.spans.length).map fun m => (i, k + l.length, m)
  | k, [] => by simp [plC]
  | k, x :: l => by
    simp only [List.cons_append, plC, plC_snoc i c (k + 1) l, List.append_assoc, List.length_cons]
    rw [show k + 1 + l.length = k + (l.length + 1) by omega]
theorem plR_snoc (r : GRes) : ∀ (i : Nat) (l : List GRes), plR i (l ++ [r]) = plR i l ++ plC (i + l.length) 0 r.scopes
  | i, [] => by simp [plR]
  | i, x :: l => by
    simp only [List.cons_append, plR, plR_snoc r (i + 1) l, List.append_assoc, List.length_cons]
    rw [show i + 1 + l.length = i + (l.length + 1) by omega]
theorem plC_take {i : Nat} {l : List GScope} {k : Nat} (h : k < l.length) : plC i 0 (l.take (k + 1)) = plC i 0 (l.take k) ++ (List.range (nthC l k).spans.length).map fun m => (i, k, m) := by
  rw [yf (wY (d := gc0) h), plC_snoc, List.length_take, Nat.min_eq_left (by omega), Nat.zero_add]; rfl
theorem plR_take {l : List GRes} {i : Nat} (h : i < l.length) : plR 0 (l.take (i + 1)) = plR 0 (l.take i) ++ plC i 0 (nthR l i).scopes := by
  rw [yf (wY (d := gr0) h), plR_snoc, List.length_take, Nat.min_eq_left (by omega), Nat.zero_add]; rfl
theorem plC_len (i : Nat) : ∀ (k : Nat) (l : List GScope), (plC i k l).length = (spansOf l).length
  | _, [] => rfl
  | k, c :: l => by rw [plC, spansOf, List.length_append, List.length_append, plC_len i (k + 1) l]; simp
end Go.Proofs
namespace Go.Proofs
open Go Go.Al
set_option maxRecDepth 10000
theorem rgCheck_c (r : Rg) : zg Tryz.prog Γ0 124 [r.av] [iv (wQ r)] := by
  refine zU Tryz.func124 rfl Tryz.ntmps124 (by kernel_rfl) rfl fun w0 I0 G0 => ?_
  refine zC <| zB <| g_uG (zl 1001 rfl rfl rfl rfl) rfl <| g_u (zE rfl rfl) <| zF <| zA <| zC <| zC <| zB <| g_u (zH rfl rfl fa181_1 rfl) <| g_u (zG rfl rfl rfl tA45 tS45 rfl rfl) <| g_u (wh rfl rfl rfl) <| g_u (zD rfl rfl) <| yQ (t := 6) rfl ?_
  rintro (hb1 | hb1)
  · rw [hb1]
    refine zS rfl rfl rfl <| zS rfl rfl rfl <| zS rfl rfl rfl <| zS rfl rfl rfl <| zS rfl rfl rfl <| g_u (zo rfl rfl rfl) <| zF <| zA <| z7 rfl <| zC <| zB <| g_u (zE rfl rfl) <| zF <| zA <| zI <| zP ?_
    exact ⟨⟨(rfl : toAV (Al.look _ _) = some _).trans (congrArg some (by (simp only [qa, qb, qc, ne_eq, beq_iff_eq, qd, beq_eq_false_iff_ne] at *; simp only [iv, wQ]; first | rw [if_pos (by omega)] | rw [if_neg (by omega)]))), rfl⟩, trivial⟩
  · rw [hb1]
    refine zf rfl rfl (zH rfl rfl fa181_0 rfl) <| zf rfl rfl (zG rfl rfl rfl tA45 tS45 rfl rfl) <| zf rfl rfl (zH rfl rfl fa181_1 rfl) <| zf rfl rfl (zG rfl rfl rfl tA45 tS45 rfl rfl) <| zf rfl rfl (wh rfl rfl rfl) <| g_u (z2 rfl rfl rfl) <| zF <| zA ?_
    refine zL rfl (fun hb2 => ?_) (fun hb2 => ?_)
    · refine zC ?_
      refine zB <| g_u (zE rfl rfl) <| zF <| zA <| zI <| zP ?_
      exact ⟨⟨(rfl : toAV (Al.look _ _) = some _).trans (congrArg some (by (simp only [qa, qb, qc, ne_eq, beq_iff_eq, qd, beq_eq_false_iff_ne] at *; simp only [iv, wQ]; first | rw [if_pos (by omega)] | rw [if_neg (by omega)]))), rfl⟩, trivial⟩
    · refine zO ?_
      refine zA <| zC <| zB <| g_u (zE rfl rfl) <| zF <| zA <| zI ?_
      exact ⟨⟨(rfl : toAV (Al.look _ _) = some _).trans (congrArg some (by (simp only [qa, qb, qc, ne_eq, beq_iff_eq, qd, beq_eq_false_iff_ne] at *; simp only [iv, wQ]; first | rw [if_pos (by omega)] | rw [if_neg (by omega)]))), rfl⟩, trivial⟩
attribute [local irreducible] wholeM ofR
end Go.Proofs
namespace Go.Proofs
open Go Go.Al
set_option maxRecDepth 10000
end Go.Proofs
namespace Go.Proofs
open Go Go.Al
end Go.Proofs
namespace Go.Proofs
open Go Go.Al
set_option maxRecDepth 10000
theorem plR_len : ∀ (i : Nat) (l : List GRes), (plR i l).length ≤ zu GRes.wt l
  | _, [] => Nat.le_refl _
  | i, r :: l => by
    rw [plR, List.length_append, plC_len, zu]
    have h1 := plR_len (i + 1) l
    have h2 := spansOf_len r.scopes
    have h3 : r.wt = 1 + wtAs r.attrs + zu GScope.wt r.scopes := rfl
    omega
end Go.Proofs
namespace Go.Proofs
open Go Go.Al
set_option maxRecDepth 10000
theorem eq42 (a b : List UInt8) : eqV Tryz.prog 100 42 (.arr 16 a) (.arr 16 b) = some (a == b) := by kernel_rfl
theorem eq44 (a b : List UInt8) : eqV Tryz.prog 100 44 (.arr 8 a) (.arr 8 b) = some (a == b) := by kernel_rfl
end Go.Proofs
namespace Go.Al
open Go.RowKit
theorem up_bytes {l : List UInt8} {n : Nat} (h : l.length = n) : Up (.agg (za l)) (.arr n l) := by
  have hw : ∀ x ∈ za l, x.width = 1 := W1.bytes l
  refine ⟨rfl, ?_, fun w I c r => ?_⟩
  · have key : ∀ l : List UInt8, AV.widths (za l) = l.length := by
      intro l
      induction l with
      | nil => rfl
      | cons b l ih => simp only [za, List.map_cons, AV.widths, List.length_cons] at ih ⊢; rw [ih]; simp only [AV.width, xV, Value.cells]; show 1 + _ = _; omega
    show n = AV.widths (za l)
    rw [key, h]
  · simp only [RepC] at r ⊢
    exact ⟨repE_bytes_inv l c ((repCs_E (n := 1) hw).1 r), h⟩
end Go.Al
namespace Go.Proofs
open Go Go.Al
set_option maxRecDepth 10000
theorem tV42 : yN Tryz.prog 42 (.agg (List.replicate 16 (.v (.int .u8 0)))) := ⟨.agg #[.int .u8 0, .int .u8 0, .int .u8 0, .int .u8 0, .int .u8 0, .int .u8 0, .int .u8 0, .int .u8 0, .int .u8 0, .int .u8 0, .int .u8 0, .int .u8 0, .int .u8 0, .int .u8 0, .int .u8 0, .int .u8 0], by kernel_rfl, by kernel_rfl⟩
theorem tV44 : yN Tryz.prog 44 (.agg (List.replicate 8 (.v (.int .u8 0)))) := ⟨.agg #[.int .u8 0, .int .u8 0, .int .u8 0, .int .u8 0, .int .u8 0, .int .u8 0, .int .u8 0, .int .u8 0], by kernel_rfl, by kernel_rfl⟩
end Go.Proofs
namespace Go.Al
open Go.RowKit
section
variable {C : Cx} {A : Nat → SV} {d : Nat} {ty : TypeId} {pos : String} {af : Array Edge} {gd : Option (Nat × Bool)} {x y z : Operand} {T T' : TypeId}
end
end Go.Al
namespace Go.Al
open Go.RowKit
def units (n : Nat) : List AV := List.replicate n (.agg [])
@[simp] theorem units_length (n : Nat) : (units n).length = n := List.length_replicate
section
variable {C : Cx} {A : Nat → SV} {d : Nat} {ty : TypeId} {pos : String} {af : Array Edge} {gd : Option (Nat × Bool)} {x y z : Operand} {T T' : TypeId}
end
end Go.Al
namespace Go.Al
open Go.RowKit
structure SortC (P : Program) (Γ : List (Nat × AV)) (f : FuncId) : Prop where
  call : x6 P f = true
  sorts : ∀ (blk cap : Nat) (ss : List (List UInt8)) (w : World), Sort.Holds Proofs.encStr w blk 0 ss.toArray → blk < w.heap.size → ss.length < 4611686018427387904 →
    Calls P f #[.slice (some ⟨blk, 0, none⟩) ss.length cap] w fun e w' =>
      e = .returned (.tuple #[]) ∧ ∃ n os, w' = Sort.grow (Sort.putRow Proofs.encStr (Sort.ahead w n) blk 0 (ss.mergeSort fun x y => decide (x ≤ y)).toArray) os
  empty : zg P Γ f [.v (.slice none 0 0)] []
section
variable {C : Cx} {A : Nat → SV} {d : Nat} {ty : TypeId} {pos : String} {af : Array Edge} {gd : Option (Nat × Bool)} {x y z : Operand} {T T' : TypeId}
end
end Go.Al
