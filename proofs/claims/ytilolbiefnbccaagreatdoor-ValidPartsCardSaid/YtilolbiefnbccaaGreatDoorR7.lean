/- Texts that the proofs of this claim share, part 7: the abstract logic, plain Lean on values and batches, and walks. No condition but those typed in each lemma. -/
import Derived.Stop.Asserts
import Derived.Laws.Externs
import Derived.Test.YtilolbiefnbccaaGreatDoorR6
set_option linter.unusedSimpArgs false
set_option linter.unusedVariables false
set_option maxHeartbeats 400000
namespace Go.Proofs
open Go Go.Al
set_option maxRecDepth 10000
set_option maxHeartbeats 4000000 in
theorem pscope_c (c : GScope) (hw : c.wt ≤ 1000000) : zj Tryz.prog Γ0 47 [c.av] [(canonSc c).av] := by
  have qw : c.wt = 1 + c.name.size + c.version.size + zr GSpan.wt c.spans := rfl
  have ql := yJ GSpan.wt (fun e => by unfold GSpan.wt; omega) c.spans
  refine zb Tryz.func47 rfl Tryz.ntmps47 (by kernel_rfl) rfl fun w0 I0 G0 => ?_
  refine zD <| zB <| g_uG (zi 1001 rfl rfl rfl rfl) rfl <| g_uG (zo 1002 rfl rfl rfl tZ55) rfl <| zF <| zA <| zD <| zB <| g_u (zG rfl rfl fa55_0 rfl) <| g_u (zH rfl rfl rfl tA9 tS9 rfl rfl) <| g_u (zG rfl rfl fa55_1 rfl) <| g_u (zH rfl rfl rfl tA9 tS9 rfl rfl) <| g_u (y9 rfl tZ55 us55 pl55 rfl rfl rfl rfl) <| g_uG (zo 1003 rfl rfl rfl tZ55) rfl <| g_u (zL rfl rfl rfl tS55 rfl rfl) <| zF <| zA <| zD <| zD <| aw_newtokB 3099 1003 42 2 rfl rfl rfl rfl rfl rfl rfl <| zB <| g_u (zG rfl rfl fa55_2 rfl) <| g_u (zH rfl rfl rfl tA53 tS53 rfl rfl) <| g_u (zx rfl rfl Tryz.underlying53) <| g_u (zC rfl rfl) <| zF <| zA <| zQ ?_
  refine zs (fun i : Nat => [(2, .ptr 1002 0), (1002, .box 55 (.imm z55)), (3, .ptr 1003 0), (1003, .box 55 (.agg [.imm (sv c.name), .imm (sv c.version), .slg 3099 42 ((c.spans.take i).map fun s => (canonS s).av)])), (3099, .tok 42 ((c.spans.take i).map fun s => (canonS s).av)), (12, .imm (.sl 42 (c.spans.map GSpan.av))), (13, .imm (iv (c.spans.length : Int))), (14, .imm (iv (i : Int)))]) (fun i => i ≤ c.spans.length) (fun i => c.spans.length - i) (0) ?_ ⟨rfl, rfl, rfl, rfl, rfl, rfl, zV rfl (by rw [List.length_map]), rfl, trivial⟩ ?_
  · exact Nat.zero_le _
  · rintro i h1; have h1 : i ≤ c.spans.length := h1
    refine zD <| zB <| g_u (yU rfl rfl rfl) <| zF <| zA <| zD ?_
    refine zN rfl (fun hb1 => ?_) (fun hb1 => ?_)
    · have hi : i < c.spans.length := by have := of_decide_eq_true hb1; (try simp only [List.length_map] at this); omega
      have hx : (nthS c.spans i).wt ≤ 1000000 := by have h5 := yM GSpan.wt (nthS_mem hi); omega
      refine zO <| zA <| zD <| zQ <| zD <| zB ?_
      refine g_u (za rfl rfl rfl Tryz.underlying53 tS52 (by omega) (ixS hi)) ?_
      refine g_u (zW rfl rfl tA52 tS52 rfl (by first | exact xp (GSpan.width _) rfl | rfl)) ?_
      refine g_uG (zo 1005 rfl rfl rfl tZ52) rfl ?_
      refine g_u (zL rfl rfl rfl tS52 (by first | exact beqW (GSpan.width _) | rfl) (by first | exact setS_w (z52_w.trans (GSpan.width _).symm) rfl | rfl)) ?_
      refine zF <| zA <| yw mixed <| g_u (zG rfl rfl fa55_2 rfl) <| g_u (s_load_slg rfl rfl rfl tA53 tS53 rfl rfl) ?_
      refine g_u (zH rfl rfl rfl tA52 tS52 rfl (by first | exact xp (GSpan.width _) rfl | rfl)) ?_
      refine g_u (zT (pcanonS_c (nthS c.spans i) hx) rfl rfl) <| g_u (zu (X0 := z52) rfl Tryz.underlying53 tS52 tZ52 rfl rfl rfl rfl rfl rfl rfl rfl) ?_
      refine g_u (yW rfl rfl rfl rfl rfl Tryz.underlying53 Tryz.underlying53 tS52 zv52 rfl (by decide) by52 (by (try dsimp only); simp only [List.length_append, List.length_cons, List.length_nil, List.length_map, List.length_take, List.length_drop]; omega) (by (try dsimp only); simp only [List.length_append, List.length_cons, List.length_nil, List.length_map, List.length_take, List.length_drop]; omega)) ?_
      refine g_u (zG rfl rfl fa55_2 rfl) <| g_u (vL rfl rfl rfl rfl tS53 rfl rfl) ?_
      refine zF ⟨by kernel_rfl, ?_⟩
      refine zM <| zA <| zB <| g_u (yB rfl rfl rfl) <| g_u (zC rfl rfl) <| zF <| zA ?_
      have et : ((c.spans.take (i + 1)).map fun s => (canonS s).av) = ((c.spans.take i).map fun s => (canonS s).av) ++ [(canonS (nthS c.spans i)).av] := by rw [yS (xI (d := gs0) hi), List.map_append]; rfl
      refine ⟨i + 1, hi, ⟨rfl, rfl, rfl, (by rw [et]; rfl), xZ rfl et.symm, rfl, rfl, zV rfl (by rw [zZ (by omega) (by omega)]; rfl), trivial⟩, by (try dsimp only); omega⟩
    · have hin : i = c.spans.length := by have := of_decide_eq_false hb1; (try simp only [List.length_map] at this); omega
      refine zv <| zU <| zU <| zp <| zA <| zD <| zB <| g_u (zl rfl rfl rfl tA55 tS55 rfl rfl) <| g_u (zL rfl rfl rfl tS55 rfl rfl) <| zF <| zA <| zJ ?_
      exact ⟨⟨_, _, _, _, _, _, _, rfl, rfl, tA55, tS55, rfl, rfl, (rfl : toAV _ = some _).trans (congrArg some (by (rw [hin, List.take_length]; show _ = GScope.av (canonSc c); simp only [GScope.av, canonSc, List.map_map]; rfl)))⟩, trivial⟩
end Go.Proofs
namespace Go.Proofs
open Go Go.Al
set_option maxRecDepth 10000
set_option maxHeartbeats 8000000 in
theorem pcanonB_c (b : List GRes) (hw : wtB b ≤ 1000000) : zj Tryz.prog Γ0 22 [yp b] [yp (canonB b)] := by
  have ql := yJ GRes.wt (fun e => by unfold GRes.wt; omega) b
  have qw : wtB b = zr GRes.wt b := rfl
  refine zb Tryz.func22 rfl Tryz.ntmps22 (by kernel_rfl) rfl fun w0 I0 G0 => ?_
  refine zD <| zB <| g_uG (zi 1001 rfl rfl rfl rfl) rfl <| g_uG (zo 1002 rfl rfl rfl tZ24) rfl <| zF <| zA <| zD <| zB <| g_uG (zo 1003 rfl rfl rfl tZ24) rfl <| zF <| zA <| zD <| zD <| aw_newtokB 3098 1003 2 0 rfl rfl rfl rfl rfl rfl rfl <| zB <| g_u (zG rfl rfl fa24_0 rfl) <| g_u (zH rfl rfl rfl tA22 tS22 rfl rfl) <| g_u (zx rfl rfl Tryz.underlying22) <| g_u (zC rfl rfl) <| zF <| zA <| zQ ?_
  refine zs (fun i : Nat => [(2, .ptr 1002 0), (1002, .box 24 (.imm z24)), (3, .ptr 1003 0), (1003, .box 24 (.agg [.slg 3098 2 ((b.take i).map fun r => (canonR r).av)])), (3098, .tok 2 ((b.take i).map fun r => (canonR r).av)), (10, .imm (.sl 2 (b.map GRes.av))), (11, .imm (iv (b.length : Int))), (12, .imm (iv (i : Int)))]) (fun i => i ≤ b.length) (fun i => b.length - i) (0) ?_ ⟨rfl, rfl, rfl, rfl, rfl, rfl, zV rfl (by rw [List.length_map]), rfl, trivial⟩ ?_
  · exact Nat.zero_le _
  · rintro i h1; have h1 : i ≤ b.length := h1
    refine zD <| zB <| g_u (yU rfl rfl rfl) <| zF <| zA <| zD ?_
    refine zN rfl (fun hb1 => ?_) (fun hb1 => ?_)
    · have hi : i < b.length := by have := of_decide_eq_true hb1; (try simp only [List.length_map] at this); omega
      have hc1 := yM GRes.wt (vC hi)
      have hc2 : (nthR b i).wt = 1 + wtAs (nthR b i).attrs + zr GScope.wt (nthR b i).scopes := rfl
      have hcl := yJ GScope.wt (fun e => by unfold GScope.wt; omega) (nthR b i).scopes
      refine zO <| zA <| zD <| zQ <| zD <| zB ?_
      refine g_u (za rfl rfl rfl Tryz.underlying22 tS58 (by omega) (ixR hi)) ?_
      refine g_u (zW rfl rfl tA58 tS58 rfl rfl) <| g_uG (zo 1005 rfl rfl rfl tZ58) rfl <| g_u (zL rfl rfl rfl tS58 rfl rfl) <| zF <| zA <| zD <| zB <| g_u (zG rfl rfl fa58_0 rfl) <| g_u (zH rfl rfl rfl tA46 tS46 rfl rfl) ?_
      refine g_u (zT (pcanonAs_c (nthR b i).attrs (by omega)) rfl rfl) ?_
      refine g_u (y9 rfl tZ58 us58 pl58 rfl rfl rfl rfl) <| g_uG (zo 1006 rfl rfl rfl tZ58) rfl <| g_u (zL rfl rfl rfl tS58 rfl rfl) <| zF <| zA <| zD <| zD <| aw_newtokB 3097 1006 3 1 rfl rfl rfl rfl rfl rfl rfl <| zB <| g_u (zG rfl rfl wJ rfl) <| g_u (zH rfl rfl rfl tA56 tS56 rfl rfl) <| g_u (zx rfl rfl Tryz.underlying56) <| g_u (zC rfl rfl) <| zF <| zA <| zQ ?_
      refine zs (fun k : Nat => [(2, .ptr 1002 0), (1002, .box 24 (.imm z24)), (3, .ptr 1003 0), (1003, .box 24 (.agg [.slg 3098 2 ((b.take i).map fun r => (canonR r).av)])), (3098, .tok 2 ((b.take i).map fun r => (canonR r).av)), (10, .imm (.sl 2 (b.map GRes.av))), (11, .imm (iv (b.length : Int))), (12, .imm (iv (i : Int))), (6, .ptr 1006 0), (1006, .box 58 (.agg [.imm (.sl 7 ((yv (nthR b i).attrs).map avA)), .slg 3097 3 (((nthR b i).scopes.take k).map fun c => (canonSc c).av)])), (3097, .tok 3 (((nthR b i).scopes.take k).map fun c => (canonSc c).av)), (21, .imm (.sl 3 ((nthR b i).scopes.map GScope.av))), (22, .imm (iv ((nthR b i).scopes.length : Int))), (23, .imm (iv (k : Int)))]) (fun k => k ≤ (nthR b i).scopes.length) (fun k => (nthR b i).scopes.length - k) (0) ?_ ⟨rfl, rfl, rfl, rfl, rfl, rfl, rfl, rfl, rfl, rfl, rfl, rfl, zV rfl (by rw [List.length_map]), rfl, trivial⟩ ?_
      · exact Nat.zero_le _
      · rintro k g1; have g1 : k ≤ (nthR b i).scopes.length := g1
        refine zD <| zB <| g_u (yU rfl rfl rfl) <| zF <| zA <| zD ?_
        refine zN rfl (fun hb2 => ?_) (fun hb2 => ?_)
        · have hk : k < (nthR b i).scopes.length := by have := of_decide_eq_true hb2; (try simp only [List.length_map] at this); omega
          have hx : (nthC (nthR b i).scopes k).wt ≤ 1000000 := by have h5 := yM GScope.wt (nthC_mem hk); omega
          refine zO <| zA <| zD <| zQ <| zD <| zB ?_
          refine g_u (za rfl rfl rfl Tryz.underlying56 tS55 (by omega) (ixC hk)) ?_
          refine g_u (zW rfl rfl tA55 tS55 rfl rfl) <| g_uG (zo 1008 rfl rfl rfl tZ55) rfl <| g_u (zL rfl rfl rfl tS55 rfl rfl) <| zF <| zA <| yw mixed <| g_u (zG rfl rfl wJ rfl) <| g_u (s_load_slg rfl rfl rfl tA56 tS56 rfl rfl) <| g_u (zl rfl rfl rfl tA55 tS55 rfl rfl) <| g_u (zT (pscope_c _ hx) rfl rfl) <| g_u (zu (X0 := z55) rfl Tryz.underlying56 tS55 tZ55 rfl rfl rfl rfl rfl rfl rfl rfl) ?_
          refine g_u (yW rfl rfl rfl rfl rfl Tryz.underlying56 Tryz.underlying56 tS55 zv55 rfl (by decide) by55 (by (try dsimp only); simp only [List.length_append, List.length_cons, List.length_nil, List.length_map, List.length_take, List.length_drop]; omega) (by (try dsimp only); simp only [List.length_append, List.length_cons, List.length_nil, List.length_map, List.length_take, List.length_drop]; omega)) ?_
          refine g_u (zG rfl rfl wJ rfl) <| g_u (vL rfl rfl rfl rfl tS56 rfl rfl) ?_
          refine zF ⟨by kernel_rfl, ?_⟩
          refine zM <| zA <| zB <| g_u (yB rfl rfl rfl) <| g_u (zC rfl rfl) <| zF <| zA ?_
          have et : (((nthR b i).scopes.take (k + 1)).map fun c => (canonSc c).av) = (((nthR b i).scopes.take k).map fun c => (canonSc c).av) ++ [(canonSc (nthC (nthR b i).scopes k)).av] := by rw [yS (xI (d := gc0) hk), List.map_append]; rfl
          refine ⟨k + 1, hk, ⟨rfl, rfl, rfl, rfl, rfl, rfl, rfl, rfl, rfl, (by rw [et]; rfl), xZ rfl et.symm, rfl, rfl, zV rfl (by rw [zZ (by omega) (by omega)]; rfl), trivial⟩, by (try dsimp only); omega⟩
        · have hkn : k = (nthR b i).scopes.length := by have := of_decide_eq_false hb2; (try simp only [List.length_map] at this); omega
          refine zv <| zU <| zU <| zp <| zA <| zB <| g_u (zG rfl rfl fa24_0 rfl) <| g_u (s_load_slg rfl rfl rfl tA22 tS22 rfl rfl) <| g_u (zl rfl rfl rfl tA58 tS58 rfl rfl) <| g_u (zu (X0 := z58) rfl Tryz.underlying22 tS58 tZ58 rfl rfl rfl rfl rfl rfl rfl rfl) ?_
          refine g_u (yW rfl rfl rfl rfl rfl Tryz.underlying22 Tryz.underlying22 tS58 zv58 rfl (by decide) by58 (by (try dsimp only); simp only [List.length_append, List.length_cons, List.length_nil, List.length_map, List.length_take, List.length_drop]; omega) (by (try dsimp only); simp only [List.length_append, List.length_cons, List.length_nil, List.length_map, List.length_take, List.length_drop]; omega)) ?_
          refine g_u (zG rfl rfl fa24_0 rfl) <| g_u (vL rfl rfl rfl rfl tS22 rfl rfl) <| zF <| zM <| zA <| zB <| g_u (yB rfl rfl rfl) <| g_u (zC rfl rfl) <| zF <| zA ?_
          have et : ((b.take (i + 1)).map fun r => (canonR r).av) = ((b.take i).map fun r => (canonR r).av) ++ [.agg [.sl 7 ((yv (nthR b i).attrs).map avA), .sl 3 (((nthR b i).scopes.take k).map fun c => (canonSc c).av)]] := by
            rw [yS (xI (d := gr0) hi), List.map_append]; refine congrArg (_ ++ ·) ?_
            show [(canonR (nthR b i)).av] = _
            rw [hkn, List.take_length]; simp only [GRes.av, canonR, List.map_map]; rfl
          refine ⟨i + 1, hi, ⟨rfl, rfl, rfl, (by rw [et]; rfl), xZ rfl et.symm, rfl, rfl, zV rfl (by rw [zZ (by omega) (by omega)]; rfl), trivial⟩, by (try dsimp only); omega⟩
    · have hin : i = b.length := by have := of_decide_eq_false hb1; (try simp only [List.length_map] at this); omega
      refine zv <| zU <| zU <| zp <| zA <| zD <| zB <| g_u (zl rfl rfl rfl tA24 tS24 rfl rfl) <| g_u (zL rfl rfl rfl tS24 rfl rfl) <| zF <| zA <| zJ ?_
      exact ⟨⟨_, _, _, _, _, _, _, rfl, rfl, tA24, tS24, rfl, rfl, (rfl : toAV _ = some _).trans (congrArg some (by (rw [hin, List.take_length]; show AV.agg [.sl 2 _] = AV.agg [.sl 2 ((b.map canonR).map GRes.av)]; rw [List.map_map]; rfl)))⟩, trivial⟩
end Go.Proofs
namespace Go.Proofs
open Go Go.Al
set_option maxRecDepth 10000
set_option maxHeartbeats 4000000 in
theorem all1_c (b : List GRes) (hw : wtB b ≤ 9000000) : SeqC Tryz.prog Γ0 85 [.cp (yp b)] (seqB b) := by
  have ql := yJ GRes.wt (fun e => by unfold GRes.wt; omega) b
  have qw : wtB b = zr GRes.wt b := rfl
  refine seqc_of Tryz.func85 rfl Tryz.ntmps85 (by kernel_rfl) rfl rfl fun n l J hJ hy => ?_
  refine xt ?_
  refine y5 hJ (fun w0 G0 => ?_)
  refine g_u (zY rfl rfl fa24_0 rfl rfl) <| g_u (zW rfl rfl tA22 tS22 rfl rfl) <| g_u (zx rfl rfl Tryz.underlying22) <| g_u (zC rfl rfl) ?_
  refine zF ⟨rfl, ?_⟩
  refine yL <| awj_block ?_
  refine awj_loop' (fun i : Nat => [(0, .imm (.v (.func (.yield l) #[] #[]))), (1, .imm (.cp (yp b))), (9, .imm (iv (b.length : Int))), (10, .imm (iv (i : Int)))]) (fun i : Nat => some (plR 0 (b.take i)).length) (fun i => i ≤ b.length) (fun i => b.length - i) (0) (rfl) ?_ ⟨rfl, rfl, zV rfl (by rw [List.length_map]), rfl, trivial⟩ ?_
  · exact Nat.zero_le _
  · rintro i h1; have h1 : i ≤ b.length := h1
    refine xt ?_
    refine y5 hJ (fun w0 G0 => ?_)
    refine g_u (yU rfl rfl rfl) ?_
    refine zF ⟨rfl, ?_⟩
    refine yL <| xt ?_
    refine awj_cond rfl (fun hb1 => ?_) (fun hb1 => ?_)
    · have hi : i < b.length := by have := of_decide_eq_true hb1; (try simp only [List.length_map] at this); omega
      have hc1 := yM GRes.wt (vC hi)
      have hc2 : (nthR b i).wt = 1 + wtAs (nthR b i).attrs + zr GScope.wt (nthR b i).scopes := rfl
      have hcl := yJ GScope.wt (fun e => by unfold GScope.wt; omega) (nthR b i).scopes
      refine awj_skip <| yL <| xt <| awj_block <| xt ?_
      refine y5 hJ (fun w0 G0 => ?_)
      refine g_u (zC rfl rfl) <| g_u (zE rfl rfl) ?_
      refine zF ⟨rfl, ?_⟩
      refine yL <| xt ?_
      refine y5 hJ (fun w0 G0 => ?_)
      refine g_u (zY rfl rfl fa24_0 rfl rfl) <| g_u (zW rfl rfl tA22 tS22 rfl rfl) <| g_u (zC rfl rfl) ?_
      refine g_u (za rfl rfl rfl Tryz.underlying22 tS58 (by omega) (ixR hi)) ?_
      refine g_u (zY rfl rfl wJ rfl rfl) <| g_u (zW rfl rfl tA56 tS56 rfl rfl) <| g_u (zE rfl rfl) ?_
      refine zF ⟨rfl, ?_⟩
      refine yL <| xt ?_
      refine y5 hJ (fun w0 G0 => ?_)
      refine g_u (zC rfl rfl) <| g_u (zx rfl rfl Tryz.underlying56) <| g_u (zC rfl rfl) ?_
      refine zF ⟨rfl, ?_⟩
      refine yL <| awj_block ?_
      refine awj_loop' (fun k : Nat => [(0, .imm (.v (.func (.yield l) #[] #[]))), (1, .imm (.cp (yp b))), (9, .imm (iv (b.length : Int))), (10, .imm (iv (i : Int))), (3, .imm (iv (i : Int))), (4, .imm (.sl 3 ((nthR b i).scopes.map GScope.av))), (20, .imm (iv ((nthR b i).scopes.length : Int))), (21, .imm (iv (k : Int)))]) (fun k : Nat => some ((plR 0 (b.take i)).length + (plC i 0 ((nthR b i).scopes.take k)).length)) (fun k => k ≤ (nthR b i).scopes.length) (fun k => (nthR b i).scopes.length - k) (0) (rfl) ?_ ⟨rfl, rfl, rfl, rfl, rfl, rfl, zV rfl (by rw [List.length_map]), rfl, trivial⟩ ?_
      · exact Nat.zero_le _
      · rintro k g1; have g1 : k ≤ (nthR b i).scopes.length := g1
        refine xt ?_
        refine y5 hJ (fun w0 G0 => ?_)
        refine g_u (yU rfl rfl rfl) ?_
        refine zF ⟨rfl, ?_⟩
        refine yL <| xt ?_
        refine awj_cond rfl (fun hb2 => ?_) (fun hb2 => ?_)
        · have hk : k < (nthR b i).scopes.length := by have := of_decide_eq_true hb2; (try simp only [List.length_map] at this); omega
          have hcx := yM GScope.wt (nthC_mem hk)
          have hcq : (nthC (nthR b i).scopes k).wt = 1 + (nthC (nthR b i).scopes k).name.size + (nthC (nthR b i).scopes k).version.size + zr GSpan.wt (nthC (nthR b i).scopes k).spans := rfl
          have hsl := yJ GSpan.wt (fun e => by unfold GSpan.wt; omega) (nthC (nthR b i).scopes k).spans
          refine awj_skip <| yL <| xt <| awj_block <| xt ?_
          refine y5 hJ (fun w0 G0 => ?_)
          refine g_u (zC rfl rfl) <| g_u (zE rfl rfl) ?_
          refine zF ⟨rfl, ?_⟩
          refine yL <| xt ?_
          refine y5 hJ (fun w0 G0 => ?_)
          refine g_u (zC rfl rfl) <| g_u (zC rfl rfl) ?_
          refine g_u (za rfl rfl rfl Tryz.underlying56 tS55 (by omega) (ixC hk)) ?_
          refine g_u (zY rfl rfl fa55_2 rfl rfl) <| g_u (zW rfl rfl tA53 tS53 rfl rfl) <| g_u (zx rfl rfl Tryz.underlying53) <| g_u (zC rfl rfl) ?_
          refine zF ⟨rfl, ?_⟩
          refine yL <| awj_block ?_
          refine awj_loop' (fun m : Nat => [(0, .imm (.v (.func (.yield l) #[] #[]))), (1, .imm (.cp (yp b))), (9, .imm (iv (b.length : Int))), (10, .imm (iv (i : Int))), (3, .imm (iv (i : Int))), (4, .imm (.sl 3 ((nthR b i).scopes.map GScope.av))), (20, .imm (iv ((nthR b i).scopes.length : Int))), (21, .imm (iv (k : Int))), (5, .imm (iv (k : Int))), (29, .imm (iv ((nthC (nthR b i).scopes k).spans.length : Int))), (30, .imm (iv (m : Int)))]) (fun m : Nat => some (((plR 0 (b.take i)).length + (plC i 0 ((nthR b i).scopes.take k)).length) + m)) (fun m => m ≤ (nthC (nthR b i).scopes k).spans.length) (fun m => (nthC (nthR b i).scopes k).spans.length - m) (0) (rfl) ?_ ⟨rfl, rfl, rfl, rfl, rfl, rfl, rfl, rfl, rfl, zV rfl (by rw [List.length_map]), rfl, trivial⟩ ?_
          · exact Nat.zero_le _
          · rintro m f1; have f1 : m ≤ (nthC (nthR b i).scopes k).spans.length := f1
            refine xt ?_
            refine y5 hJ (fun w0 G0 => ?_)
            refine g_u (yU rfl rfl rfl) ?_
            refine zF ⟨rfl, ?_⟩
            refine yL <| xt ?_
            refine awj_cond rfl (fun hb3 => ?_) (fun hb3 => ?_)
            · have hm : m < (nthC (nthR b i).scopes k).spans.length := by have := of_decide_eq_true hb3; (try simp only [List.length_map] at this); omega
              refine awj_skip <| yL <| xt <| awj_block <| xt ?_
              refine y5 hJ (fun w0 G0 => ?_)
              refine g_u (zC rfl rfl) <| g_u (zE rfl rfl) ?_
              refine zF ⟨rfl, ?_⟩
              refine yL <| xt <| awj_regionJ ?_
              refine goj_take 13 hJ rfl (fun w0 G0 => ?_)
              refine g_u (zC rfl rfl) <| g_u (zC rfl rfl) <| g_u (zC rfl rfl) <| g_u (zC rfl rfl) <| g_u (y9 rfl tU155 us155 pl155 rfl rfl rfl rfl) <| g_u (zC rfl rfl) <| g_u (zC rfl rfl) ?_
              refine g_u (za rfl rfl rfl Tryz.underlying56 tS55 (by omega) (ixC hk)) ?_
              refine g_u (zY rfl rfl fa55_2 rfl rfl) <| g_u (zW rfl rfl tA53 tS53 rfl rfl) <| g_u (zC rfl rfl) ?_
              refine g_u (za rfl rfl rfl Tryz.underlying53 tS52 (by omega) (ixS hm)) ?_
              refine g_u (zW rfl rfl tA52 tS52 rfl (by first | exact xp (GSpan.width _) rfl | rfl)) ?_
              refine zF ⟨rfl, ?_⟩
              refine goj_yield rfl rfl rfl rfl (fun I w vs hj hv => hy _ _ I w vs (seq_at hi hk hm) hj hv) ?_
              rintro (_ | _)
              · refine goj_end hJ rfl (fun w0 G0 => ?_)
                refine g_u (s_not rfl rfl) ?_
                refine zF ⟨rfl, ?_⟩
                refine yL <| awj_cond_true rfl <| awj_ret <| ret_blkJ <| ret_thnJ <| ret_thnJ <| ret_blkJ <| ret_blkJ <| ret_thnJ <| ret_thnJ <| ret_blkJ <| ret_blkJ <| ret_thnJ <| ret_thnJ <| ret_blkJ ?_
                first | exact ⟨.inr rfl, .inr rfl⟩ | exact ⟨.inl rfl, .inl (by rw [seqB_len, hin, List.take_length])⟩
              · refine goj_end hJ rfl (fun w0 G0 => ?_)
                refine g_u (s_not rfl rfl) ?_
                refine zF ⟨rfl, ?_⟩
                refine yL <| awj_cond_false rfl <| awj_skip <| normal_blkJ <| yL ?_
                refine y5 hJ (fun w0 G0 => ?_)
                refine g_u (yB rfl rfl rfl) <| g_u (zC rfl rfl) ?_
                refine zF ⟨rfl, ?_⟩
                refine yL ?_
                refine ⟨m + 1, hm, ⟨rfl, rfl, rfl, rfl, rfl, rfl, rfl, rfl, rfl, rfl, zV rfl (by rw [zZ (by omega) (by omega)]; rfl), trivial⟩, rfl, by (try dsimp only); omega⟩
            · have hmn : m = (nthC (nthR b i).scopes k).spans.length := by have := of_decide_eq_false hb3; (try simp only [List.length_map] at this); omega
              refine awj_exit <| exit_thnJ <| exit_thnJ <| exit_blkJ <| normal_blkJ <| yL ?_
              refine y5 hJ (fun w0 G0 => ?_)
              refine g_u (yB rfl rfl rfl) <| g_u (zC rfl rfl) ?_
              refine zF ⟨rfl, ?_⟩
              refine yL ?_
              refine ⟨k + 1, hk, ⟨rfl, rfl, rfl, rfl, rfl, rfl, rfl, zV rfl (by rw [zZ (by omega) (by omega)]; rfl), trivial⟩, ?_, by (try dsimp only); omega⟩
              (try dsimp only)
              rw [plC_take hk, List.length_append, List.length_map, List.length_range, hmn, Nat.add_assoc]
        · have hkn : k = (nthR b i).scopes.length := by have := of_decide_eq_false hb2; (try simp only [List.length_map] at this); omega
          refine awj_exit <| exit_thnJ <| exit_thnJ <| exit_blkJ <| normal_blkJ <| yL ?_
          refine y5 hJ (fun w0 G0 => ?_)
          refine g_u (yB rfl rfl rfl) <| g_u (zC rfl rfl) ?_
          refine zF ⟨rfl, ?_⟩
          refine yL ?_
          refine ⟨i + 1, hi, ⟨rfl, rfl, rfl, zV rfl (by rw [zZ (by omega) (by omega)]; rfl), trivial⟩, ?_, by (try dsimp only); omega⟩
          (try dsimp only)
          rw [plR_take hi, List.length_append, hkn, List.take_length]
    · have hin : i = b.length := by have := of_decide_eq_false hb1; (try simp only [List.length_map] at this); omega
      refine awj_exit <| exit_thnJ <| exit_thnJ <| exit_blkJ ?_
      first | exact ⟨.inr rfl, .inr rfl⟩ | exact ⟨.inl rfl, .inl (by rw [seqB_len, hin, List.take_length])⟩
theorem all_c (b : List GRes) : zj Tryz.prog Γ0 51 [yp b] [.fn (.func 85) [] [.cp (yp b)]] := by
  refine zb Tryz.func51 rfl Tryz.ntmps51 (by kernel_rfl) rfl fun w0 I0 G0 => ?_
  refine zD <| zB <| g_uG (zi 1001 rfl rfl rfl rfl) rfl <| g_u (zE rfl rfl) <| zF <| zA <| zD <| aw_share 1001 rfl rfl <| zB <| g_u (y_ rfl rfl rfl) <| g_u (zE rfl rfl) <| zF <| zA <| zJ ?_
  exact ⟨⟨(rfl : toAV (Al.look _ _) = some _).trans (congrArg some (by rfl)), rfl⟩, trivial⟩
end Go.Proofs
namespace Go.Proofs
open Go Go.Al
set_option maxRecDepth 10000
theorem count_c (b : List GRes) (hw : wtB b ≤ 9000000) : zj Tryz.prog Γ0 29 [yp b] [iv ((plR 0 b).length : Int)] := by
  have hpl := plR_len 0 b
  have qw : wtB b = zr GRes.wt b := rfl
  refine pcall_of_fw Tryz.func29 rfl Tryz.ntmps29 (by kernel_rfl) rfl fun w0 I0 G0 => ?_
  refine fw_seq ?_
  refine fw_aw (fun w1 I1 E1 G1 D1 => ?_)
  refine zB <| g_uG (zi 50001 rfl rfl rfl rfl) rfl <| g_u (zE rfl rfl) <| zF <| zA <| fw_seq ?_
  refine fw_aw (fun w1 I1 E1 G1 D1 => ?_)
  refine zB <| g_uG (zo 50003 rfl rfl rfl tZ3) rfl <| g_u (zL rfl rfl rfl tS3 rfl rfl) <| zF <| zA <| fw_seq <| fw_seq ?_
  refine fw_aw (fun w1 I1 E1 G1 D1 => ?_)
  refine zB <| g_u (zH rfl rfl rfl tA24 tS24 rfl rfl) <| g_u (zT (all_c _) rfl rfl) <| zF <| zA <| fw_block ?_
  refine fw_range ([(3, .ptr 50003 0)]) (fun i => [(50003, .box 3 (.imm (iv (i : Int))))]) (fun _ => True) (trivial) (all1_c b hw) rfl ⟨rfl, rfl, trivial⟩ rfl (fun i => rfl) (seqB_two b) rfl (fun i xs hok hxs w2 I2 E2 G2 R2 => ?_) (fun hok => ?_)
  · obtain ⟨p, hp, rfl⟩ := seqB_get hxs
    have hlt := (List.getElem?_eq_some_iff.1 hp).1
    refine zO <| zA ?_
    intro w3 I3 E3 G3
    refine zQ <| zB <| g_u (zH rfl rfl rfl tA3 tS3 rfl rfl) <| g_u (yB rfl rfl rfl) <| g_u (zL rfl rfl rfl tS3 rfl rfl) <| zF <| zM ?_
    exact ⟨trivial, (by show SV.box 3 (.imm (iv _)) = SV.box 3 (.imm (iv _)); rw [zZ (by omega) (by omega)]; rfl), trivial⟩
  · refine zM ?_
    refine zA ?_
    refine fw_aw (fun w1 I1 E1 G1 D1 => ?_)
    refine zD <| zB <| g_u (zH rfl rfl rfl tA3 tS3 rfl rfl) <| g_u (zE rfl rfl) <| zF <| zA <| zJ ?_
    exact ⟨⟨(rfl : toAV (Al.look _ _) = some _).trans (congrArg some (by (rw [seqB_len]))), rfl⟩, trivial⟩
end Go.Proofs
namespace Go.Proofs
open Go Go.Al
def rt (s : ByteArray) : Prop := checkM s = -1
theorem entC_iff {d : Int} : ∀ {l : List GA} {p : Option ByteArray}, entC d p l = 0 ↔ risA p l ∧ ∀ a ∈ l, keyC a.key = 0 ∧ xr d a.val = 0
  | [], p => ⟨fun _ => ⟨trivial, fun a h => by cases h⟩, fun _ => by rw [entC]⟩
  | x :: l, p => by
    have ih := entC_iff (d := d) (l := l) (p := some x.key)
    have hp : prevBad p x.key = false ↔ (match p with | some q => ltB q x.key = true | none => True) := by
      cases p with
      | none => exact ⟨fun _ => trivial, fun _ => rfl⟩
      | some q => simp only [prevBad]; cases ltB q x.key <;> simp
    rw [entC, checkA_eq]
    constructor
    · intro h
      obtain ⟨h1, h2⟩ := xU h
      cases hb : prevBad p x.key
      · rw [hb, if_neg (by decide)] at h2
        obtain ⟨h3, h4⟩ := xU h2
        obtain ⟨h5, h6⟩ := ih.1 h4
        refine ⟨⟨hp.1 hb, h5⟩, fun a ha => ?_⟩
        rcases List.mem_cons.1 ha with rfl | ha
        · exact ⟨h1, h3⟩
        · exact h6 a ha
      · rw [hb, if_pos rfl] at h2; omega
    · rintro ⟨⟨h1, h2⟩, h3⟩
      have h4 := h3 x List.mem_cons_self
      rw [hp.2 h1, if_neg (by decide), z6 _ _ h4.1, z6 _ _ h4.2]
      exact ih.2 ⟨h2, fun a ha => h3 a (List.mem_cons_of_mem _ ha)⟩
end Go.Proofs
namespace Go.Proofs
open Go Go.Al
theorem attrsC_iff {l : List GA} : yZ l = 0 ↔ l.length ≤ 32 ∧ risA none l ∧ ∀ a ∈ l, keyC a.key = 0 ∧ xr 0 a.val = 0 ∧ (textM a.val).size ≤ 1024 := by
  unfold yZ
  constructor
  · intro h
    split at h
    · omega
    · rename_i hl
      obtain ⟨h1, h2⟩ := xU h
      obtain ⟨h3, h4⟩ := entC_iff.1 h1
      refine ⟨by omega, h3, fun a ha => ⟨(h4 a ha).1, (h4 a ha).2, ?_⟩⟩
      split at h2
      · omega
      · rename_i h5
        have h6 : ¬ decide (1024 < (textM a.val).size) = true := fun h => h5 (List.any_eq_true.2 ⟨a, ha, h⟩)
        simpa using h6
  · rintro ⟨h1, h2, h3⟩
    rw [if_neg (by omega), z6 _ _ (entC_iff.2 ⟨h2, fun a ha => ⟨(h3 a ha).1, (h3 a ha).2.1⟩⟩), if_neg]
    intro h
    obtain ⟨a, ha, hd⟩ := List.any_eq_true.1 h
    have := (h3 a ha).2.2
    have : 1024 < (textM a.val).size := of_decide_eq_true hd
    omega
end Go.Proofs
namespace Go.Al
open Go.RowKit
theorem rep_ifc {w : World} {I : Nat → Nat → Prop} {T : TypeId} {y : AV} {v : Value} (h : Rep w I (.ifc T y) v) : ∃ u, v = .iface T u ∧ Rep w I y u := by
  obtain ⟨c, h1, h2⟩ := h
  simp only [RepC] at h1
  obtain ⟨c', h3, h4⟩ := h1
  exact ⟨mkV y c', by rw [h2, h3]; rfl, c', h4, rfl⟩
theorem rep_ifc_mk {w : World} {I : Nat → Nat → Prop} {T : TypeId} {y : AV} {u : Value} (h : Rep w I y u) : Rep w I (.ifc T y) (.iface T u) := by
  obtain ⟨c, h1, h2⟩ := h
  exact ⟨[.iface T u], by simp only [RepC]; exact ⟨c, by rw [h2], h1⟩, rfl⟩
section
variable {P : Program} {w : World} {p : Array (String × TypeId)}
theorem run_eqI_nil {T t : TypeId} {u : Value} (hT : P.underlying T = some (.interface p)) : (Op.equal T (.iface t u) .nilIface).run P w = .ok false w := by
  have h : ∀ d : Nat, (Op.equalIn (d + 1) T (.iface t u) .nilIface).run P w = .ok false w := fun d => by simp [Op.equalIn, run_underlying hT]
  simpa [Op.equal, Op.maxDepth] using h 9999
theorem run_eqN_nil {T : TypeId} (hT : P.underlying T = some (.interface p)) : (Op.equal T .nilIface .nilIface).run P w = .ok true w := by
  have h : ∀ d : Nat, (Op.equalIn (d + 1) T .nilIface .nilIface).run P w = .ok true w := fun d => by simp [Op.equalIn, run_underlying hT]
  simpa [Op.equal, Op.maxDepth] using h 9999
end
theorem run_eqP_nil {P : Program} {w : World} {T e : TypeId} {a : Addr} (hT : P.underlying T = some (.pointer e)) : (Op.equal T (.pointer (some a)) (.pointer none)).run P w = .ok false w := by
  have h : ∀ d : Nat, (Op.equalIn (d + 1) T (.pointer (some a)) (.pointer none)).run P w = .ok false w := fun d => by simp [Op.equalIn, run_underlying hT]
  simpa [Op.equal, Op.maxDepth] using h 9999
theorem run_sameAddr_own {P : Program} {w : World} {a b : Addr} {ca cb : Array Value} {ta tb : TypeId} {fa fb : Nat × Nat} (hne : a.block ≠ b.block) (ha : w.heap[a.block]? = some (.cells ca ta fa)) (hb : w.heap[b.block]? = some (.cells cb tb fb))
    (hca : ca.size ≠ 0) (hcb : cb.size ≠ 0) (hf : unfrozen fb cb.size) (ho : b.off ≤ cb.size) : (sameAddr a b).run P w = .ok false w := by
  have h1 := hf b.off ho
  have h2 := hf cb.size (Nat.le_refl _)
  simp only [Bool.and_eq_false_iff, qb] at h1 h2
  obtain ⟨m, hm⟩ : ∃ m, ca.size = m + 1 := ⟨ca.size - 1, by omega⟩
  obtain ⟨n, hn⟩ : ∃ n, cb.size = n + 1 := ⟨cb.size - 1, by omega⟩
  have e1 : ¬ (fb.1 ≤ b.off ∧ b.off < fb.2) := by omega
  rw [hn] at h2
  have e2 : ¬ (fb.1 ≤ n + 1 ∧ n + 1 < fb.2) := by omega
  simp [sameAddr, hne, World.frozen?, ha, hb, noView, viewAt, World.shape?, mayBeOne, stringish, hm, hn, e1, e2]
section
variable {C : Cx} {A : Nat → SV} {d : Nat} {ty : TypeId} {pos : String} {af : Array Edge} {gd : Option (Nat × Bool)} {x y : Operand} {T T' : TypeId}
theorem xX {T g off : Nat} (hN : Nat.blt d C.N = true) (h : opS A x = .ifp T g off) : zf C ⟨some d, .move x, ty, pos, af, gd⟩ (opR x) [] A [(d, .ifp T g off)] := s_copy (.inl rfl) hN h rfl
theorem s_as_ifp {T g off : Nat} (hN : Nat.blt d C.N = true) (h : opS A x = .ifp T g off) : zf C ⟨some d, .assign x, ty, pos, af, gd⟩ (opR x) [] A [(d, .ifp T g off)] := s_copy (.inr rfl) hN h rfl
theorem SimG.ptr {C : Cx} {A : Nat → SV} {G : Gh} {a : Act} {w : World} (S : SimG C A G a w) {x : Operand} {g off : Nat} (h : Al.opS A x = .ptr g off) : a.eval x = .pointer (some ⟨G.blk g, off, none⟩) := by
  obtain ⟨c, h1, h2⟩ := S.opS h rfl
  simp only [RepS] at h1
  rw [h2, h1]; rfl
theorem SimG.ifp {C : Cx} {A : Nat → SV} {G : Gh} {a : Act} {w : World} (S : SimG C A G a w) {x : Operand} {T g off : Nat} (h : Al.opS A x = .ifp T g off) : a.eval x = .iface T (.pointer (some ⟨G.blk g, off, none⟩)) := by
  obtain ⟨c, h1, h2⟩ := S.opS h rfl
  simp only [RepS] at h1
  rw [h2, h1]; rfl
theorem s_makeIfp {g off : Nat} (hN : Nat.blt d C.N = true) (hx : opS A x = .ptr g off) (hT : xl C.P T) :
    zf C ⟨some d, .makeInterface T x, ty, pos, af, gd⟩ (opR x) [] A [(d, .ifp T g off)] := by
  refine zf.value rfl hN fun A' G a w hR S => ?_
  have hev := S.ptr ((z8 hR).trans hx)
  obtain ⟨u, hu, hu2⟩ := hT
  refine ⟨.iface T (.pointer (some ⟨G.blk g, off, none⟩)), ?_, ⟨[.iface T (.pointer (some ⟨G.blk g, off, none⟩))], by simp only [RepS], rfl⟩⟩
  simp only [execOp, Instr.makeInterface, Sem.run_bind, zR hu, Result.andThen_ok, hev]
  cases u <;> first | rfl | cases hu2
theorem zf.op1A {C : Cx} {o : Oper} {d : Nat} {A : Nat → SV} {x : Operand} {ax r : AV} (hd : o.dst = some d) (hN : Nat.blt d C.N = true) (hx : opV A x = some ax)
    (h : ∀ w I (a : Act), Rep w I ax (a.eval x) → ∃ v, (execOp a.eval o).run C.P w = .ok (.value v) w ∧ Rep w I r v) : zf C o (opR x) [] A [(d, .imm r)] := by
  refine zf.value hd hN fun A' G a w hR S => ?_
  rw [← zy hR] at hx
  obtain ⟨v, h1, h2⟩ := h w G.I a (S.opV hx)
  exact ⟨v, h1, zt.2 h2⟩
theorem s_eqNI {t : TypeId} {v : AV} {p : Array (String × TypeId)} (hN : Nat.blt d C.N = true) (hx : opV A x = some (.ifc t v)) (hy : opV A y = some (.v .nilIface)) (hT : C.P.underlying T = some (.interface p)) :
    zf C ⟨some d, .binOp .eql T x y T', ty, pos, af, gd⟩ (opR x ++ opR y) [] A [(d, .imm (.v (.bool false)))] :=
  zf.op2 rfl hN hx hy fun w I ρ h1 h2 => by
    obtain ⟨u, e, _⟩ := rep_ifc h1
    have e2 : ρ y = .nilIface := wT h2 rfl
    refine ⟨.bool false, ?_, yg w I rfl⟩
    simp only [execOp, e, e2]
    simp [eqGuard, binOp, run_eqI_nil hT]
theorem s_neNI {t : TypeId} {v : AV} {p : Array (String × TypeId)} (hN : Nat.blt d C.N = true) (hx : opV A x = some (.ifc t v)) (hy : opV A y = some (.v .nilIface)) (hT : C.P.underlying T = some (.interface p)) :
    zf C ⟨some d, .binOp .neq T x y T', ty, pos, af, gd⟩ (opR x ++ opR y) [] A [(d, .imm (.v (.bool true)))] :=
  zf.op2 rfl hN hx hy fun w I ρ h1 h2 => by
    obtain ⟨u, e, _⟩ := rep_ifc h1
    have e2 : ρ y = .nilIface := wT h2 rfl
    refine ⟨.bool true, ?_, yg w I rfl⟩
    simp only [execOp, e, e2]
    simp [eqGuard, binOp, run_eqI_nil hT]
theorem s_eqNN {p : Array (String × TypeId)} (hN : Nat.blt d C.N = true) (hx : opV A x = some (.v .nilIface)) (hT : C.P.underlying T = some (.interface p)) :
    zf C ⟨some d, .binOp .eql T x (.const .nilIface) T', ty, pos, af, gd⟩ (opR x) [] A [(d, .imm (.v (.bool true)))] :=
  zf.op1A rfl hN hx fun w I a h1 => by
    have e1 : a.eval x = .nilIface := wT h1 rfl
    have e2 : a.eval (.const .nilIface) = .nilIface := rfl
    refine ⟨.bool true, ?_, yg w I rfl⟩
    simp only [execOp, e1, e2]
    simp [eqGuard, binOp, run_eqN_nil hT]
theorem s_neNN {p : Array (String × TypeId)} (hN : Nat.blt d C.N = true) (hx : opV A x = some (.v .nilIface)) (hT : C.P.underlying T = some (.interface p)) :
    zf C ⟨some d, .binOp .neq T x (.const .nilIface) T', ty, pos, af, gd⟩ (opR x) [] A [(d, .imm (.v (.bool false)))] :=
  zf.op1A rfl hN hx fun w I a h1 => by
    have e1 : a.eval x = .nilIface := wT h1 rfl
    have e2 : a.eval (.const .nilIface) = .nilIface := rfl
    refine ⟨.bool false, ?_, yg w I rfl⟩
    simp only [execOp, e1, e2]
    simp [eqGuard, binOp, run_eqN_nil hT]
theorem s_eqNP {t g off : Nat} {p : Array (String × TypeId)} (hN : Nat.blt d C.N = true) (hx : opS A x = .ifp t g off) (hy : opV A y = some (.v .nilIface)) (hT : C.P.underlying T = some (.interface p)) :
    zf C ⟨some d, .binOp .eql T x y T', ty, pos, af, gd⟩ (opR x ++ opR y) [] A [(d, .imm (.v (.bool false)))] := by
  refine zf.value rfl hN fun A' G a w hR S => ?_
  rw [← zy (fun k hk => hR k (List.mem_append_right _ hk))] at hy
  have e := S.ifp ((z8 (fun k hk => hR k (List.mem_append_left _ hk))).trans hx)
  have e2 : a.eval y = .nilIface := wT (S.opV hy) rfl
  refine ⟨.bool false, ?_, zt.2 (yg _ _ rfl)⟩
  simp only [execOp, e, e2]
  simp [eqGuard, binOp, run_eqI_nil hT]
theorem wu {v : AV} (hN : Nat.blt d C.N = true) (hx : opV A x = some (.cp v)) : zf C ⟨some d, .nilCheck x, ty, pos, af, gd⟩ (opR x) [] A [(d, .imm (.cp v))] :=
  zf.op1 rfl hN hx fun w I ρ h => by
    obtain ⟨b, o, c, e, h1, h2⟩ := rep_cp h
    exact ⟨ρ x, by simp only [execOp, e]; rfl, h⟩
theorem s_nilCheck_ptr {g off : Nat} (hN : Nat.blt d C.N = true) (hx : opS A x = .ptr g off) : zf C ⟨some d, .nilCheck x, ty, pos, af, gd⟩ (opR x) [] A [(d, .ptr g off)] := by
  refine zf.value rfl hN fun A' G a w hR S => ?_
  have hev := S.ptr ((z8 hR).trans hx)
  refine ⟨a.eval x, by simp only [execOp, hev]; rfl, ?_⟩
  rw [hev]
  exact ⟨[.pointer (some ⟨G.blk g, off, none⟩)], by simp only [RepS], rfl⟩
theorem s_nePN {g off : Nat} {e : TypeId} (hN : Nat.blt d C.N = true) (hx : opS A x = .ptr g off) (hy : opV A y = some (.v (.pointer none))) (hT : C.P.underlying T = some (.pointer e)) :
    zf C ⟨some d, .binOp .neq T x y T', ty, pos, af, gd⟩ (opR x ++ opR y) [] A [(d, .imm (.v (.bool true)))] := by
  refine zf.value rfl hN fun A' G a w hR S => ?_
  rw [← zy (fun k hk => hR k (List.mem_append_right _ hk))] at hy
  have e := S.ptr ((z8 (fun k hk => hR k (List.mem_append_left _ hk))).trans hx)
  have e2 : a.eval y = .pointer none := wT (S.opV hy) rfl
  refine ⟨.bool true, ?_, zt.2 (yg _ _ rfl)⟩
  simp only [execOp, e, e2]
  simp [eqGuard, binOp, run_eqP_nil hT]
theorem s_eqIP {t t' g : Nat} {v : AV} {T0 : TypeId} {X : SV} {p : Array (String × TypeId)} {e : TypeId} (hN : Nat.blt d C.N = true) (hx : opV A x = some (.ifc t (.cp v))) (hy : opS A y = .ifp t' g 0) (hg : A g = .box T0 X) (hv : Nat.blt 0 v.width = true) (hX : Nat.blt 0 X.width = true)
    (hT : C.P.underlying T = some (.interface p)) (ht : C.P.underlying t' = some (.pointer e)) (hinfo : ∃ i j, C.P.info? t' = some i ∧ i.comparable = true ∧ C.P.info? e = some j ∧ j.size ≠ 0) :
    zf C ⟨some d, .binOp .eql T x y T', ty, pos, af, gd⟩ (g :: (opR x ++ opR y)) [] A [(d, .imm (.v (.bool false)))] := by
  refine zf.value rfl hN fun A' G a w hR S => ?_
  rw [← zy (fun k hk => hR k (List.mem_cons_of_mem _ (List.mem_append_left _ hk)))] at hx
  have hgA : A' g = .box T0 X := (hR g List.mem_cons_self).trans hg
  have e2 := S.ifp ((z8 (fun k hk => hR k (List.mem_cons_of_mem _ (List.mem_append_right _ hk)))).trans hy)
  obtain ⟨u, e1, h1⟩ := rep_ifc (S.opV hx)
  obtain ⟨b, o, c, rfl, h2, h3⟩ := rep_cp h1
  have hb := S.holds g
  rw [hgA] at hb
  simp only [Holds] at hb
  have hlen := RepC.len _ _ h2
  have hpos : 0 < c.length := by rw [hlen]; simpa [Nat.blt_eq] using hv
  have hne : b ≠ G.blk g := by
    rintro rfl
    exact hb.2.2 _ (h3 0 hpos).2
  refine ⟨.bool false, ?_, zt.2 (yg _ _ rfl)⟩
  have hcell : ∃ ca ta fa, w.heap[b]? = some (.cells ca ta fa) ∧ ca.size ≠ 0 := by
    have h0 := (h3 0 hpos).1
    simp only [World.cell?] at h0
    split at h0
    · rename_i ca ta fa hh
      refine ⟨ca, ta, fa, hh, ?_⟩
      intro hz
      simp [Array.eq_empty_of_size_eq_zero hz] at h0
    · cases h0
  obtain ⟨ca, ta, fa, hca, hca0⟩ := hcell
  obtain ⟨_, ⟨cb, fb, hcb, hrep, huf⟩, _⟩ := hb
  have hcb0 : cb.size ≠ 0 := by
    have := RepS.len _ _ hrep
    simp only [Array.length_toList] at this
    rw [this]
    have : 0 < X.width := by simpa [Nat.blt_eq] using hX
    omega
  have hsame := run_sameAddr_own (P := C.P) (a := ⟨b, o, none⟩) (b := ⟨G.blk g, 0, none⟩) hne hca hcb hca0 hcb0 huf (Nat.zero_le _)
  have hfin : (Op.equal T (.iface t (.pointer (some ⟨b, o, none⟩))) (.iface t' (.pointer (some ⟨G.blk g, 0, none⟩)))).run C.P w = .ok false w := by
    by_cases htt : t = t'
    · subst htt
      obtain ⟨i, j, hi, hcmp, hj, hjs⟩ := hinfo
      have h : ∀ d : Nat, (Op.equalIn (d + 2) T (.iface t (.pointer (some ⟨b, o, none⟩))) (.iface t (.pointer (some ⟨G.blk g, 0, none⟩)))).run C.P w = .ok false w := fun d => by
        simp [Op.equalIn, run_underlying hT, run_underlying ht, typeInfo, hi, hcmp, sizeOf, hj, hjs, hsame]
      simpa [Op.equal, Op.maxDepth] using h 9998
    · have h : ∀ d : Nat, (Op.equalIn (d + 1) T (.iface t (.pointer (some ⟨b, o, none⟩))) (.iface t' (.pointer (some ⟨G.blk g, 0, none⟩)))).run C.P w = .ok false w := fun d => by
        simp [Op.equalIn, run_underlying hT, htt]
      simpa [Op.equal, Op.maxDepth] using h 9999
  simp only [execOp, e1, e2]
  simp [eqGuard, binOp, hfin]
theorem s_extV {f : FuncId} {args : Array Operand} {ats : Array TypeId} {xs : List AV} {r : AV} (hN : Nat.blt d C.N = true) (hx : opVs A args.toList = some xs)
    (h : ∀ w I vs, yD w I xs vs → ∃ v, (callFunc f (List.toArray vs)).run C.P w = .ok (.value v) w ∧ Rep w I r v) :
    zf C ⟨some d, .call { callee := .value (.func f), args := args, argTypes := ats }, ty, pos, af, gd⟩ (opRs args.toList) [] A [(d, .imm r)] := by
  refine zf.value rfl hN fun A' G a w hR S => ?_
  rw [← opVs_congr hR] at hx
  obtain ⟨v, h1, h2⟩ := h w G.I _ (S.opVs hx)
  refine ⟨v, ?_, zt.2 h2⟩
  have hev : a.eval (.func f) = .func (.func f) #[] #[] := rfl
  have e : (List.map a.eval args.toList).toArray = args.map a.eval := by rw [← Array.toList_map]
  rw [e] at h1
  simp only [execOp, resolve, hev, Deferred.ofValue, Sem.run_bind, Sem.run_pure, Result.andThen_ok, invoke]
  simpa using h1
theorem yK {P : Program} {w : World} {T : TypeId} {v : Value} {name : String} {f : FuncId} {r : Value} (hm : (method (P.types.size + Made.depth) T v name).run P w = .ok (f, r) w) (args : Array Value) :
    (callMethod (.iface T v) name args).run P w = (callFunc f (#[r] ++ args)).run P w := by
  simp only [callMethod, Sem.run_bind, run_program, Result.andThen_ok, hm]
theorem s_inv0 {name : String} {ats : Array TypeId} {ax r : AV} (hN : Nat.blt d C.N = true) (hx : opV A x = some ax) (h : ∀ w I v, Rep w I ax v → ∃ u, (callMethod v name #[]).run C.P w = .ok (.value u) w ∧ Rep w I r u) :
    zf C ⟨some d, .call { callee := .invoke x name, args := #[], argTypes := ats }, ty, pos, af, gd⟩ (opR x) [] A [(d, .imm r)] :=
  zf.op1 rfl hN hx fun w I ρ h1 => by
    obtain ⟨u, e, h2⟩ := h w I _ h1
    refine ⟨u, ?_, h2⟩
    simp only [execOp, resolve, Sem.run_bind, Sem.run_pure, Result.andThen_ok, invoke]
    simpa using e
theorem s_inv1 {name : String} {ats : Array TypeId} {ax ay r : AV} (hN : Nat.blt d C.N = true) (hx : opV A x = some ax) (hy : opV A y = some ay) (h : ∀ w I v v', Rep w I ax v → Rep w I ay v' → ∃ u, (callMethod v name #[v']).run C.P w = .ok (.value u) w ∧ Rep w I r u) :
    zf C ⟨some d, .call { callee := .invoke x name, args := #[y], argTypes := ats }, ty, pos, af, gd⟩ (opR x ++ opR y) [] A [(d, .imm r)] :=
  zf.op2 rfl hN hx hy fun w I ρ h1 h3 => by
    obtain ⟨u, e, h2⟩ := h w I _ _ h1 h3
    refine ⟨u, ?_, h2⟩
    simp only [execOp, resolve, Sem.run_bind, Sem.run_pure, Result.andThen_ok, invoke]
    simpa using e
theorem s_invC {name : String} {ats : Array TypeId} {t : TypeId} {f : FuncId} {bx r : AV} (hc : zj C.P C.Γ f [bx] [r]) (hN : Nat.blt d C.N = true) (hx : opV A x = some (.ifc t bx)) (h : ∀ w v, (method (C.P.types.size + Made.depth) t v name).run C.P w = .ok (f, v) w) :
    zf C ⟨some d, .call { callee := .invoke x name, args := #[], argTypes := ats }, ty, pos, af, gd⟩ (opR x) [] A [(d, .imm r)] := by
  intro A' a w hR hF ⟨G, S⟩
  rw [← zy hR] at hx
  obtain ⟨u, e, h1⟩ := rep_ifc (S.opV hx)
  have hcall := hc.2 w G.I [u] S.val S.glob (by obtain ⟨c, k1, k2⟩ := h1; simp only [yD]; exact ⟨c, [], by rw [k2], k1, rfl⟩)
  unfold Oper.wp
  have hrun : (execOp a.eval ⟨some d, .call { callee := .invoke x name, args := #[], argTypes := ats }, ty, pos, af, gd⟩).run C.P w = .ok (.enter f (List.toArray [u])) w := by
    simp only [execOp, resolve, Sem.run_bind, Sem.run_pure, Result.andThen_ok, invoke, e]
    have := yK (h w u) #[]
    rw [wg hc.1] at this
    simpa using this
  rw [hrun, Oper.upon_enter]
  refine hcall.mono ?_
  rintro e w' ⟨v, I', rfl, hb, hle, hn, hv, hres⟩
  exact ⟨{ G with I := I' }, (S.called hb hle hn hv).put (by simpa [Nat.blt_eq] using hN) (resV_slot (rs := [r]) hres)⟩
theorem s_hasNo {t Tx : TypeId} {v : AV} (hN : Nat.blt d C.N = true) (hx : opV A x = some (.ifc t v)) (h : ∀ (u : Value) (w : World), (Instr.typeAssert (.iface t u) Tx T true).run C.P w = .ok (.tuple #[.nilIface, .bool false]) w) :
    zf C ⟨some d, .typeAssert x Tx T true, ty, pos, af, gd⟩ (opR x) [] A [(d, .tup [.imm (.v .nilIface), .imm (.v (.bool false))])] := by
  refine zf.value rfl hN fun A' G a w hR S => ?_
  rw [← zy hR] at hx
  obtain ⟨u, e, h1⟩ := rep_ifc (S.opV hx)
  refine ⟨.tuple #[.nilIface, .bool false], by simp only [execOp, e, Sem.run_bind, h u w, Result.andThen_ok, Sem.run_pure], ?_⟩
  exact ⟨[.nilIface, .bool false], rfl, _, _, rfl, zt.2 (yg _ _ rfl), _, _, rfl, zt.2 (yg _ _ rfl), rfl⟩
theorem s_hasYes {t Tx : TypeId} {v : AV} (hN : Nat.blt d C.N = true) (hx : opV A x = some (.ifc t v)) (h : ∀ (u : Value) (w : World), (Instr.typeAssert (.iface t u) Tx T true).run C.P w = .ok (.tuple #[.iface t u, .bool true]) w) :
    zf C ⟨some d, .typeAssert x Tx T true, ty, pos, af, gd⟩ (opR x) [] A [(d, .tup [.imm (.ifc t v), .imm (.v (.bool true))])] := by
  refine zf.value rfl hN fun A' G a w hR S => ?_
  rw [← zy hR] at hx
  obtain ⟨u, e, h1⟩ := rep_ifc (S.opV hx)
  refine ⟨.tuple #[.iface t u, .bool true], by simp only [execOp, e, Sem.run_bind, h u w, Result.andThen_ok, Sem.run_pure], ?_⟩
  exact ⟨[.iface t u, .bool true], rfl, _, _, rfl, zt.2 (rep_ifc_mk h1), _, _, rfl, zt.2 (yg _ _ rfl), rfl⟩
theorem s_assertP {Tx g off : Nat} (hN : Nat.blt d C.N = true) (hx : opS A x = .ifp T g off) (hT : xl C.P T) :
    zf C ⟨some d, .typeAssert x Tx T true, ty, pos, af, gd⟩ (opR x) [] A [(d, .tup [.ptr g off, .imm (.v (.bool true))])] := by
  refine zf.value rfl hN fun A' G a w hR S => ?_
  have hev := S.ifp ((z8 hR).trans hx)
  obtain ⟨u, hu, hu2⟩ := hT
  refine ⟨.tuple #[.pointer (some ⟨G.blk g, off, none⟩), .bool true], ?_, ?_⟩
  · simp only [execOp, Instr.typeAssert, Sem.run_bind, zR hu, Result.andThen_ok, hev]
    cases u <;> first | (simp; done) | cases hu2
  · exact ⟨[.pointer (some ⟨G.blk g, off, none⟩), .bool true], rfl, _, _, rfl, ⟨[.pointer (some ⟨G.blk g, off, none⟩)], by simp only [RepS], rfl⟩, _, _, rfl, zt.2 (yg _ _ rfl), rfl⟩
end
end Go.Al
namespace Go.Al
open Go.RowKit
abbrev refV (h : Value) (g : Nat) (fl : Value) : SV := .agg [.imm (.v h), .ptr g 0, .imm (.v fl)]
theorem repS_refV {w : World} {G : Gh} {h fl : Value} {g : Nat} (h1 : h.cells.toList = [h]) (h2 : fl.cells.toList = [fl]) (p1 : plain h = true) (p2 : plain fl = true) : RepS w G (refV h g fl) [h, .pointer (some ⟨G.blk g, 0, none⟩), fl] := by
  simp only [RepS, yy, RepC]
  exact ⟨[h], _, rfl, ⟨h1.symm, by simp [p1]⟩, [.pointer (some ⟨G.blk g, 0, none⟩)], _, rfl, rfl, [fl], [], rfl, ⟨h2.symm, by simp [p2]⟩, rfl⟩
theorem wR {h : Value} (p : plain h = true) : h.cells.toList = [h] := by cases h <;> first | rfl | cases p
theorem SimG.refV {C : Cx} {A : Nat → SV} {G : Gh} {a : Act} {w : World} (S : SimG C A G a w) {x : Operand} {h fl : Value} {g : Nat} (hx : Al.opS A x = Al.refV h g fl) (p1 : plain h = true) (p2 : plain fl = true) :
    a.eval x = .agg #[h, .pointer (some ⟨G.blk g, 0, none⟩), fl] := by
  obtain ⟨c, h1, h2⟩ := S.opS hx rfl
  simp only [RepS, yy, RepC] at h1
  obtain ⟨c1, c2, rfl, ⟨k1, _⟩, c3, c4, rfl, k2, c5, c6, rfl, ⟨k3, _⟩, rfl⟩ := h1
  rw [h2, k1, k2, k3, wR p1, wR p2]; rfl
section
variable {C : Cx} {A : Nat → SV} {d : Nat} {ty : TypeId} {pos : String} {af : Array Edge} {gd : Option (Nat × Bool)} {x y : Operand} {T T' : TypeId} {h fl h2 fl2 : Value}
theorem run_ext1 {f : FuncId} {a : Act} {ats : Array TypeId} {d0 : Option Nat} {w : World} {n : Result Next} (hf : (callFunc f #[a.eval x]).run C.P w = n) :
    (execOp a.eval ⟨d0, .call { callee := .value (.func f), args := #[x], argTypes := ats }, ty, pos, af, gd⟩).run C.P w = n := by
  have hev : a.eval (.func f) = .func (.func f) #[] #[] := rfl
  simp only [execOp, resolve, hev, Deferred.ofValue, Sem.run_bind, Sem.run_pure, Result.andThen_ok, invoke]
  simpa using hf
theorem run_ext2 {f : FuncId} {a : Act} {ats : Array TypeId} {d0 : Option Nat} {w : World} {n : Result Next} (hf : (callFunc f #[a.eval x, a.eval y]).run C.P w = n) :
    (execOp a.eval ⟨d0, .call { callee := .value (.func f), args := #[x, y], argTypes := ats }, ty, pos, af, gd⟩).run C.P w = n := by
  have hev : a.eval (.func f) = .func (.func f) #[] #[] := rfl
  simp only [execOp, resolve, hev, Deferred.ofValue, Sem.run_bind, Sem.run_pure, Result.andThen_ok, invoke]
  simpa using hf
theorem valueOf_box {C : Cx} {A : Nat → SV} {G : Gh} {a : Act} {w : World} (S : SimG C A G a w) {gv d : Nat} {T : TypeId} {X : SV} {u : Value} (hgd : gv ≠ d) (hgK : gv < C.K) (hd : d < C.N) (hu : RepS w G X [u]) (hnx : noG [gv] X = true) (p1 : plain h = true) (p2 : plain fl = true)
    (hf : ∀ k, has [(gv, .box T X), (d, refV h gv fl)] k = false → noG [gv] (A k) = true) :
    Sim C (upd A [(gv, .box T X), (d, refV h gv fl)]) (a.put (some d) (.agg #[h, .pointer (some ⟨w.heap.size, 0, none⟩), fl])) (w.alloc (.cells #[u] T)) := by
  refine S.allocO hgd hgK hd (fun _ _ h => by simpa only [zm] using h) (fun G' e _ hg hle hni => ?_) (fun G' e => ?_) hf
  · simp only [Holds]
    refine ⟨⟨.inl (by rw [e]; exact S.size), by rw [e]; simp⟩, ⟨#[u], (0, 0), by rw [e]; exact alloc_new, RepS.mono hle hg _ _ hnx hu, fun o _ => by simp⟩, fun o => ?_⟩
    rw [e]; exact hni o
  · refine ⟨[h, .pointer (some ⟨w.heap.size, 0, none⟩), fl], ?_, by simp [mkS, SV.isAgg]⟩
    have := repS_refV (w := w.alloc (.cells #[u] T)) (G := G') (g := gv) (wR p1) (wR p2) p1 p2
    rw [e] at this; exact this
theorem s_valueOfP (gv : Nat) {f g : Nat} {ats : Array TypeId} (hgd : Nat.beq gv d = false) (hgK : Nat.blt gv C.K = true) (hN : Nat.blt d C.N = true) (hne : Nat.beq gv g = false) (hx : opS A x = .ifp T g 0) (p1 : plain h = true) (p2 : plain fl = true)
    (hf : ∀ a w, (callFunc f #[.iface T (.pointer (some a))]).run C.P w = .ok (.value (.agg #[h, .pointer (some ⟨w.heap.size, 0, none⟩), fl])) (w.alloc (.cells #[.pointer (some a)] T))) :
    zf C ⟨some d, .call { callee := .value (.func f), args := #[x], argTypes := ats }, ty, pos, af, gd⟩ (opR x) [gv] A [(gv, .box T (.ptr g 0)), (d, refV h gv fl)] := by
  intro A' a w hR hF ⟨G, S⟩
  have hev := S.ifp ((z8 hR).trans hx)
  have hgd' : gv ≠ d := by rintro rfl; rw [Nat.beq_refl] at hgd; cases hgd
  have hne' : gv ≠ g := by rintro rfl; rw [Nat.beq_refl] at hne; cases hne
  have key := valueOf_box (h := h) (fl := fl) S (T := T) (X := .ptr g 0) (u := .pointer (some ⟨G.blk g, 0, none⟩)) hgd' (by simpa [Nat.blt_eq] using hgK) (by simpa [Nat.blt_eq] using hN) (by simp only [RepS]) (by simp only [noG]; simpa using Ne.symm hne') p1 p2 hF
  have hf' := hf ⟨G.blk g, 0, none⟩ w
  rw [← hev] at hf'
  unfold Oper.wp
  rw [run_ext1 hf', Oper.upon_value]
  exact key
theorem s_valueOfC (gv : Nat) {f : Nat} {v : AV} {ats : Array TypeId} (hgd : Nat.beq gv d = false) (hgK : Nat.blt gv C.K = true) (hN : Nat.blt d C.N = true) (hx : opV A x = some (.ifc T (.cp v))) (p1 : plain h = true) (p2 : plain fl = true)
    (hf : ∀ a w, (callFunc f #[.iface T (.pointer (some a))]).run C.P w = .ok (.value (.agg #[h, .pointer (some ⟨w.heap.size, 0, none⟩), fl])) (w.alloc (.cells #[.pointer (some a)] T))) :
    zf C ⟨some d, .call { callee := .value (.func f), args := #[x], argTypes := ats }, ty, pos, af, gd⟩ (opR x) [gv] A [(gv, .box T (.imm (.cp v))), (d, refV h gv fl)] := by
  intro A' a w hR hF ⟨G, S⟩
  rw [← zy hR] at hx
  obtain ⟨u, hev, hu⟩ := rep_ifc (S.opV hx)
  obtain ⟨b, o, c, rfl, k1, k2⟩ := rep_cp hu
  have hgd' : gv ≠ d := by rintro rfl; rw [Nat.beq_refl] at hgd; cases hgd
  have key := valueOf_box (h := h) (fl := fl) S (T := T) (X := .imm (.cp v)) (u := .pointer (some ⟨b, o, none⟩)) hgd' (by simpa [Nat.blt_eq] using hgK) (by simpa [Nat.blt_eq] using hN) (by simp only [RepS, RepC]; exact ⟨b, o, c, rfl, k1, k2⟩) (by simp only [noG]) p1 p2 hF
  have hf' := hf ⟨b, o, none⟩ w
  rw [← hev] at hf'
  unfold Oper.wp
  rw [run_ext1 hf', Oper.upon_value]
  exact key
theorem s_refRaw {f gv : Nat} {r : Value} {ats : Array TypeId} (hN : Nat.blt d C.N = true) (hx : opS A x = refV h gv fl) (p1 : plain h = true) (p2 : plain fl = true) (pr : plain r = true)
    (hf : ∀ a w, (callFunc f #[.agg #[h, .pointer (some a), fl]]).run C.P w = .ok (.value r) w) :
    zf C ⟨some d, .call { callee := .value (.func f), args := #[x], argTypes := ats }, ty, pos, af, gd⟩ (opR x) [] A [(d, .imm (.v r))] := by
  refine zf.value rfl hN fun A' G a w hR S => ?_
  have hev := S.refV ((z8 hR).trans hx) p1 p2
  exact ⟨r, run_ext1 (by rw [hev]; exact hf _ w), zt.2 (yg _ _ pr)⟩
theorem box_cell {C : Cx} {A : Nat → SV} {G : Gh} {a : Act} {w : World} (S : SimG C A G a w) {g : Nat} {T0 : TypeId} {X : SV} {u : Value} (hg : A g = .box T0 X) (hX : ∀ cs, RepS w G X cs → cs = [u]) : w.cell? ⟨G.blk g, 0, none⟩ = some u := by
  have hb := S.holds g
  rw [hg] at hb
  simp only [Holds] at hb
  obtain ⟨_, ⟨cs, fr, h1, h2, _⟩, _⟩ := hb
  have e := hX _ h2
  simp only [World.cell?, h1, Option.isSome_none, Bool.false_eq_true, if_false]
  rw [← Array.getElem?_toList, e]; rfl
theorem s_isNilV {f gv g : Nat} {T0 : TypeId} {ats : Array TypeId} (hN : Nat.blt d C.N = true) (hx : opS A x = refV h gv fl) (hg : A gv = .box T0 (.ptr g 0)) (p1 : plain h = true) (p2 : plain fl = true)
    (hf : ∀ a p w, w.cell? a = some (.pointer (some p)) → (callFunc f #[.agg #[h, .pointer (some a), fl]]).run C.P w = .ok (.value (.bool false)) w) :
    zf C ⟨some d, .call { callee := .value (.func f), args := #[x], argTypes := ats }, ty, pos, af, gd⟩ (gv :: opR x) [] A [(d, .imm (.v (.bool false)))] := by
  refine zf.value rfl hN fun A' G a w hR S => ?_
  have hev := S.refV ((z8 (fun k hk => hR k (List.mem_cons_of_mem _ hk))).trans hx) p1 p2
  have hc := box_cell S (u := .pointer (some ⟨G.blk g, 0, none⟩)) ((hR gv List.mem_cons_self).trans hg) (fun cs r => by simpa only [RepS] using r)
  exact ⟨.bool false, run_ext1 (by rw [hev]; exact hf _ _ w hc), zt.2 (yg _ _ rfl)⟩
theorem s_elemV {f gv g : Nat} {T0 : TypeId} {ats : Array TypeId} (hN : Nat.blt d C.N = true) (hx : opS A x = refV h gv fl) (hg : A gv = .box T0 (.ptr g 0)) (p1 : plain h = true) (p2 : plain fl = true) (q1 : plain h2 = true) (q2 : plain fl2 = true)
    (hf : ∀ a p w, w.cell? a = some (.pointer (some p)) → (callFunc f #[.agg #[h, .pointer (some a), fl]]).run C.P w = .ok (.value (.agg #[h2, .pointer (some p), fl2])) w) :
    zf C ⟨some d, .call { callee := .value (.func f), args := #[x], argTypes := ats }, ty, pos, af, gd⟩ (gv :: opR x) [] A [(d, refV h2 g fl2)] := by
  refine zf.value rfl hN fun A' G a w hR S => ?_
  have hev := S.refV ((z8 (fun k hk => hR k (List.mem_cons_of_mem _ hk))).trans hx) p1 p2
  have hc := box_cell S (u := .pointer (some ⟨G.blk g, 0, none⟩)) ((hR gv List.mem_cons_self).trans hg) (fun cs r => by simpa only [RepS] using r)
  exact ⟨_, run_ext1 (by rw [hev]; exact hf _ _ w hc), ⟨_, repS_refV (wR q1) (wR q2) q1 q2, rfl⟩⟩
theorem s_setV {f g gw : Nat} {T0 T1 : TypeId} {X : SV} {v : AV} {ats : Array TypeId} {h3 fl3 : Value} (hgd : Nat.beq g d = false) (hN : Nat.blt d C.N = true) (hx : opS A x = refV h g fl) (hy : opS A y = refV h3 gw fl3) (hg : A g = .box T0 X) (hw : A gw = .box T1 (.imm (.cp v))) (hX : Nat.beq X.width 1 = true)
    (hn : yA C.P T = some 1) (p1 : plain h = true) (p2 : plain fl = true) (q1 : plain h3 = true) (q2 : plain fl3 = true)
    (hf : ∀ a b p w w', w.cell? b = some (.pointer (some p)) → (storeVar T a (.pointer (some p))).run C.P w = .ok () w' → (callFunc f #[.agg #[h, .pointer (some a), fl], .agg #[h3, .pointer (some b), fl3]]).run C.P w = .ok (.value (.tuple #[])) w') :
    zf C ⟨some d, .call { callee := .value (.func f), args := #[x, y], argTypes := ats }, ty, pos, af, gd⟩ (g :: gw :: (opR x ++ opR y)) [] A [(g, .box T0 (.imm (.cp v))), (d, .tup [])] := by
  intro A' a w hR hF ⟨G, S⟩
  have hgA := (hR g (by simp)).trans hg
  have hwA := (hR gw (by simp)).trans hw
  have e1 := S.refV ((z8 (fun k hk => hR k (by simp [hk]))).trans hx) p1 p2
  have e2 := S.refV ((z8 (fun k hk => hR k (by simp [hk]))).trans hy) q1 q2
  have hb2 := S.holds gw
  rw [hwA] at hb2
  simp only [Holds] at hb2
  obtain ⟨_, ⟨cw, fw, k1, k2, _⟩, _⟩ := hb2
  simp only [RepS, RepC] at k2
  obtain ⟨b, o, c, k3, k4, k5⟩ := k2
  have hc : w.cell? ⟨G.blk gw, 0, none⟩ = some (.pointer (some ⟨b, o, none⟩)) := by
    simp only [World.cell?, k1, Option.isSome_none, Bool.false_eq_true, if_false]
    rw [← Array.getElem?_toList, k3]; rfl
  have hb := S.holds g
  rw [hgA] at hb
  simp only [Holds] at hb
  obtain ⟨_, ⟨cs, fr, hb2, hb3, hb4⟩, _⟩ := hb
  have hlen : cs.size = 1 := by
    have := RepS.len _ _ hb3
    simp only [Array.length_toList] at this
    rw [this]; exact Nat.eq_of_beq_eq_true hX
  have hst : (storeVar T ⟨G.blk g, 0, none⟩ (.pointer (some ⟨b, o, none⟩))).run C.P w = .ok () (yH w (G.blk g) (.cells (ye cs 0 [.pointer (some ⟨b, o, none⟩)]) T0 fr)) := by
    simp only [storeVar, Sem.run_bind, yE hn, Result.andThen_ok]
    rw [if_neg (by simp [Value.cells])]
    exact xK [.pointer (some ⟨b, o, none⟩)] 0 w cs hb2 hb4 (by simp [hlen]) rfl
  have hrun := hf ⟨G.blk g, 0, none⟩ _ _ w _ hc hst
  have key : Sim C (upd A' [(g, .box T0 (.imm (.cp v)))]) a (yH w (G.blk g) (.cells (ye cs 0 [.pointer (some ⟨b, o, none⟩)]) T0 fr)) :=
    S.storeBox hgA hb2 (wQ _ _ _) (by
      rw [xn _ _ _ (by simp [hlen])]
      have : cs.toList.length = 1 := by simpa using hlen
      obtain ⟨z, hz⟩ := List.length_eq_one_iff.1 this
      rw [hz]
      simp only [RepS, RepC]
      exact ⟨b, o, c, rfl, k4, k5⟩)
  obtain ⟨G2, S2⟩ := key
  rw [← e1, ← e2] at hrun
  unfold Oper.wp
  rw [run_ext2 hrun, Oper.upon_value]
  refine ⟨G2, ?_⟩
  have S3 := S2.put (d := d) (by simpa [Nat.blt_eq] using hN) (x := .tup []) (v := .tuple #[]) ⟨[], rfl, rfl⟩
  have e : upd (upd A' [(g, .box T0 (.imm (.cp v)))]) [(d, .tup [])] = upd A' [(g, .box T0 (.imm (.cp v))), (d, .tup [])] := by
    funext k
    simp only [upd]
    by_cases h1 : d = k
    · subst h1
      rw [Nat.beq_refl]
      by_cases h2 : g = d
      · subst h2; rw [Nat.beq_refl] at hgd; cases hgd
      · rw [zS h2]; rfl
    · rw [zS h1]
      cases Nat.beq g k <;> rfl
  rw [← e]; exact S3
end
end Go.Al
namespace Go.Al
open Go.RowKit
section
variable {C : Cx} {A : Nat → SV} {ty : TypeId} {pos : String} {af : Array Edge} {gd : Option (Nat × Bool)} {x y : Operand} {T T' : TypeId}
theorem s_mcallM {d : Option Nat} {f : FuncId} {name : String} {args : Array Operand} {ats : Array TypeId} {t : TypeId} {bx : AV} {xs : List SV} {H H' : St} {r : SV} (σ : List (Nat × Nat)) (hc : wj C.P C.Γ f xs H r H') (hm : ∀ w v, (method (C.P.types.size + Made.depth) t v name).run C.P w = .ok (f, v) w) (hN : dstOk C.N d (r.ren σ) = true)
    (hx : opV A x = some (.ifc t bx)) (hsl : (opSl A args.toList).all SV.slotty = true) (ha : argsOk σ (.imm bx :: opSl A args.toList) xs) (hH : hasAll A σ H)
    (hok : renOk C.N C.K σ H H' r = true) (hres : wL 0 H = true) (hres' : wL 0 H' = true) :
    zf C ⟨d, .call { callee := .invoke x name, args := args, argTypes := ats }, ty, pos, af, gd⟩ (cod σ ++ (opR x ++ opRs args.toList)) (newOf σ) A (wP d (r.ren σ) ++ wq σ H') := by
  intro A' a w hR hF ⟨G, S⟩
  have hok0 := hok
  simp only [renOk, Bool.and_eq_true] at hok0
  obtain ⟨⟨⟨⟨⟨⟨⟨⟨hd, hcd⟩, hkH⟩, hkH'⟩, _⟩, _⟩, hcN⟩, _⟩, _⟩ := hok0
  rw [← zy (fun k hk => hR k (List.mem_append_right _ (List.mem_append_left _ hk)))] at hx
  have eS := opSl_congr (A := A) (A' := A') (xs := args.toList) (fun k hk => hR k (List.mem_append_right _ (List.mem_append_right _ hk)))
  rw [← eS] at hsl ha
  have hH' := hasAll_congr (A := A) (A' := A') (fun g hg => hR g (List.mem_append_left _ hg)) (xF hkH) hH
  obtain ⟨u, hev, hu⟩ := rep_ifc (S.opV hx)
  have hargs := S.opSl hsl
  have hvals : xM w G (.imm bx :: opSl A' args.toList) (u :: args.toList.map a.eval) := ⟨u, _, rfl, zt.2 hu, hargs⟩
  have hpre := S.mpre hres hcd (xF hkH) hH' hvals ha
  have hcall := hc.2 w _ _ hpre
  have hrun : (execOp a.eval ⟨d, .call { callee := .invoke x name, args := args, argTypes := ats }, ty, pos, af, gd⟩).run C.P w = .ok (.enter f (List.toArray (u :: args.toList.map a.eval))) w := by
    simp only [execOp, resolve, Sem.run_bind, Sem.run_pure, Result.andThen_ok, invoke, hev]
    have := yK (hm w u) (args.map a.eval)
    rw [wg hc.1] at this
    have e : (#[u] ++ args.map a.eval) = (u :: args.toList.map a.eval).toArray := by simp
    rw [e] at this
    have e2 : (#[Value.iface t u] ++ args.map a.eval)[0]? = some (.iface t u) := by rw [Array.getElem?_append_left (by simp)]; rfl
    have e3 : (#[Value.iface t u] ++ args.map a.eval).extract 1 (#[Value.iface t u] ++ args.map a.eval).size = args.map a.eval := by
      apply Array.ext'
      simp
      exact List.take_of_length_le (by simp)
    simp only [e2, e3]
    exact this
  unfold Oper.wp
  rw [hrun, Oper.upon_enter]
  refine hcall.mono ?_
  rintro e w' ⟨v, G', rfl, D⟩
  have hF' : ∀ k, k ∉ cod σ → noG (newOf σ) (A' k) = true ∨ d = some k := by
    intro k hk
    by_cases hdk : d = some k
    · exact .inr hdk
    · refine .inl (hF k ?_)
      cases hh : has (wP d (r.ren σ) ++ wq σ H') k
      · rfl
      · exfalso
        have h1 := (has_iff _ _).1 hh
        simp only [keysOf, List.map_append, List.mem_append] at h1
        rcases h1 with h1 | h1
        · cases d with
          | none => simp [wP] at h1
          | some d => simp [wP] at h1; exact hdk (by rw [h1])
        · exact hk (postOf_has.1 ((has_iff _ _).2 h1))
  cases d with
  | none =>
    obtain ⟨S', _⟩ := S.mcalled hok hres hres' hH' (fun k hk => (hF' k hk).resolve_right (by simp)) D
    exact ⟨_, by simpa [wP, Act.put] using S'⟩
  | some d =>
    have hdN : d < C.N := by simpa [dstOk, Nat.blt_eq] using hN
    have hdc : d ∉ cod σ := fun h => by
      have := Nat.le_of_ble_eq_true (List.all_eq_true.1 hcN d h)
      omega
    -- what stood in the slot of the result matters no more
    have Sw := S.weak (B := upd A' [(d, .dead)]) (fun k => by
      rw [yo]
      split
      · exact .inl rfl
      · exact .inr rfl)
    have hHw : hasAll (upd A' [(d, .dead)]) σ H := hasAll_congr (A := A') (fun g hg => by
      rw [yo, if_neg (by rintro rfl; exact hdc hg)]) (xF hkH) hH'
    obtain ⟨S', hv⟩ := Sw.mcalled hok hres hres' hHw (fun k hk => by
      rw [yo]
      split
      · rfl
      · rename_i hkd
        exact (hF' k hk).resolve_right (fun e => hkd (by cases e; rfl))) D
    have S2 := S'.put hdN hv
    have e : upd (upd (upd A' [(d, .dead)]) (wq σ H')) [(d, r.ren σ)] = upd A' (wP (some d) (r.ren σ) ++ wq σ H') := by
      funext k
      rw [yo]
      simp only [wP, List.cons_append, List.nil_append, upd]
      by_cases hkd : k = d
      · subst hkd; simp [Nat.beq_refl]
      · rw [if_neg hkd, zS (Ne.symm hkd)]
        simp only [cond_false]
        cases hh : has (wq σ H') k
        · rw [xf _ _ _ hh, xf _ _ _ hh]
          first | (rw [yo, if_neg hkd]; done) | (rw [zS (Ne.symm hkd)]; rfl)
        · exact upd_congr _ _ hh
    rw [e] at S2
    exact ⟨_, S2⟩
theorem s_makeIfaceS {d g : Nat} {T0 : TypeId} {X : SV} {y : AV} (hgd : Nat.beq g d = false) (hN : Nat.blt d C.N = true) (hx : opS A x = .ptr g 0) (hg : A g = .box T0 X) (hy : toAV X = some y) (hT : xl C.P T) :
    zf C ⟨some d, .makeInterface T x, ty, pos, af, gd⟩ (g :: opR x) [] A [(g, .dead), (d, .imm (.ifc T (.cp y)))] := by
  intro A' a w hR hF ⟨G, S⟩
  have hgA : A' g = .box T0 X := (hR g List.mem_cons_self).trans hg
  have hev := S.ptr ((z8 (fun k hk => hR k (List.mem_cons_of_mem _ hk))).trans hx)
  have hgd' : g ≠ d := by rintro rfl; rw [Nat.beq_refl] at hgd; cases hgd
  have hb := S.holds g
  rw [hgA] at hb
  simp only [Holds] at hb
  obtain ⟨how, ⟨cs, fr, hb2, hb3, hb4⟩, hni⟩ := hb
  obtain ⟨S1, hle, hcell⟩ := S.giveUp fr hgA hb2
  have hw : yH w (G.blk g) (.cells cs T0 fr) = w := setBlk_same hb2
  rw [hw] at S1 hle hcell
  have hyc : RepC w (fun b o => G.I b o ∨ (b = G.blk g ∧ o < cs.size)) y cs.toList := RepC.mono hle _ _ (xe X y _ hy hb3)
  have hrep : Rep w (fun b o => G.I b o ∨ (b = G.blk g ∧ o < cs.size)) (.ifc T (.cp y)) (.iface T (.pointer (some ⟨G.blk g, 0, none⟩))) := rep_ifc_mk (rep_cp_mk hyc hcell)
  have S2 := S1.put (d := d) (by simpa [Nat.blt_eq] using hN) (x := .imm (.ifc T (.cp y))) (v := .iface T (.pointer (some ⟨G.blk g, 0, none⟩))) (zt.2 hrep)
  obtain ⟨u, hu, hu2⟩ := hT
  have hrun : (execOp a.eval ⟨some d, .makeInterface T x, ty, pos, af, gd⟩).run C.P w = .ok (.value (.iface T (.pointer (some ⟨G.blk g, 0, none⟩)))) w := by
    simp only [execOp, Instr.makeInterface, Sem.run_bind, zR hu, Result.andThen_ok, hev]
    cases u <;> first | rfl | cases hu2
  unfold Oper.wp
  rw [hrun, Oper.upon_value]
  refine ⟨{ G with I := fun b o => G.I b o ∨ (b = G.blk g ∧ o < cs.size) }, ?_⟩
  have e : upd (upd A' [(g, .dead)]) [(d, .imm (.ifc T (.cp y)))] = upd A' [(g, .dead), (d, .imm (.ifc T (.cp y)))] := by
    funext k
    simp only [upd]
    by_cases h1 : d = k
    · subst h1; rw [Nat.beq_refl, zS hgd']; rfl
    · rw [zS h1]; cases Nat.beq g k <;> rfl
  rw [← e]; exact S2
def AV.isIfc : AV → Bool
  | .ifc _ _ => true
  | _ => false
theorem andV {r : Result Value} {v : Value} {w : World} (h : r = .ok v w) : (r.andThen fun v w' => (.ok (.value v) w' : Result Next)) = .ok (.value v) w := by rw [h]; rfl
theorem isIfc_iff {v : AV} (h : AV.isIfc v = true) : ∃ t u, v = .ifc t u := by cases v <;> first | exact ⟨_, _, rfl⟩ | cases h
theorem s_eqNI' {d : Nat} {v : AV} {p : Array (String × TypeId)} (hN : Nat.blt d C.N = true) (hx : opV A x = some v) (hv : AV.isIfc v = true) (hy : opV A y = some (.v .nilIface)) (hT : C.P.underlying T = some (.interface p)) :
    zf C ⟨some d, .binOp .eql T x y T', ty, pos, af, gd⟩ (opR x ++ opR y) [] A [(d, .imm (.v (.bool false)))] := by
  obtain ⟨t, u, rfl⟩ := isIfc_iff hv; exact s_eqNI hN hx hy hT
theorem s_neNI' {d : Nat} {v : AV} {p : Array (String × TypeId)} (hN : Nat.blt d C.N = true) (hx : opV A x = some v) (hv : AV.isIfc v = true) (hy : opV A y = some (.v .nilIface)) (hT : C.P.underlying T = some (.interface p)) :
    zf C ⟨some d, .binOp .neq T x y T', ty, pos, af, gd⟩ (opR x ++ opR y) [] A [(d, .imm (.v (.bool true)))] := by
  obtain ⟨t, u, rfl⟩ := isIfc_iff hv; exact s_neNI hN hx hy hT
theorem s_loadGlob {d g : Nat} {v : Value} (hN : Nat.blt d C.N = true) (hg : glk C.Γ g = some (.v v)) (hp : plain v = true) (hq : xD C.P T = some false) (hn : yA C.P T = some 1) :
    zf C ⟨some d, .load T (.global g), ty, pos, af, gd⟩ [] [] A [(d, .imm (.v v))] := by
  refine zf.value rfl hN fun A' G a w hR S => ?_
  obtain ⟨c, h1, h2⟩ := S.glob _ (glk_mem hg)
  simp only [RepC] at h1
  have e : c = [v] := by rw [h1.1, wR hp]
  subst e
  have hev : a.eval (.global g) = .pointer (some ⟨g, 0, none⟩) := rfl
  refine ⟨v, ?_, zt.2 (yg _ _ hp)⟩
  simp only [execOp, Instr.loadAt, Instr.sureAddr, hev, Sem.run_bind, Sem.run_pure, Result.andThen_ok]
  rw [run_loadVar (cs := [v]) hq (by simpa using hn) (fun _ => rfl) (fun j hj => by
    have : j = 0 := by simpa using hj
    subst this; simpa using (h2 0 (by simp)).1)]
  rfl
end
end Go.Al
namespace Go.Proofs
open Go Go.Al
abbrev Fl := Int × List ByteArray
def errT (Tb Tw : Nat) : List ByteArray → Nat
  | [] => Tb
  | _ :: _ => Tw
def errB (Tb Tw : Nat) (c : Int) : List ByteArray → AV
  | [] => .agg [iv c]
  | p :: ps => .agg [sv p, .ifc (errT Tb Tw ps) (.cp (errB Tb Tw c ps))]
def errOf (Tb Tw : Nat) (c : Int) (l : List ByteArray) : AV := .ifc (errT Tb Tw l) (.cp (errB Tb Tw c l))
def errM (Tb Tw : Nat) (f : Fl) : AV := if f.1 = 0 then .v .nilIface else errOf Tb Tw f.1 f.2
theorem wG (Tb Tw : Nat) (c : Int) (l : List ByteArray) : AV.isIfc (errOf Tb Tw c l) = true := rfl
theorem errB_w (Tb Tw : Nat) (c : Int) (l : List ByteArray) : Nat.blt 0 (errB Tb Tw c l).width = true := by cases l <;> rfl
theorem errM_pos {Tb Tw : Nat} {f : Fl} (h : f.1 ≠ 0) : errM Tb Tw f = errOf Tb Tw f.1 f.2 := if_neg h
theorem wH {Tb Tw : Nat} {f : Fl} (h : f.1 = 0) : errM Tb Tw f = .v .nilIface := if_pos h
def wD : List ByteArray → Bs
  | [] => []
  | p :: ps => lst p ++ [58, 32] ++ wD ps
theorem pathB_app : ∀ a b : List ByteArray, wD (a ++ b) = wD a ++ wD b
  | [], b => rfl
  | x :: a, b => by rw [List.cons_append, wD, wD, pathB_app a b]; simp only [List.append_assoc]
def textF (f : Fl) : ByteArray := if f.1 = 0 then ⟨#[]⟩ else yT (wD f.2 ++ decB f.1)
theorem pathB_take {l : List ByteArray} {i : Nat} (h : i < l.length) : wD (l.take (i + 1)) = wD (l.take i) ++ (lst (nth l i ⟨#[]⟩) ++ [58, 32]) := by
  rw [yS (xI (d := ⟨#[]⟩) h), pathB_app]; simp [wD]
theorem ixStr {l : List ByteArray} {i : Nat} (h : i < l.length) : (l.map fun x => sv x)[((i : Nat) : Int).toNat]? = some (sv (nth l i ⟨#[]⟩)) := nth_map (d := (⟨#[]⟩ : ByteArray)) (f := fun x => sv x) h
end Go.Proofs
namespace Go.Proofs
open Go Go.Al
def kSpan : ByteArray := ⟨#[115, 112, 97, 110]⟩
def kScope : ByteArray := ⟨#[115, 99, 111, 112, 101]⟩
def kRes : ByteArray := ⟨#[114, 101, 115, 111, 117, 114, 99, 101]⟩
def partM (k : ByteArray) (i : Nat) : ByteArray := yT (lst k ++ 32 :: decB i)
def spansF : Nat → List GSpan → Fl
  | _, [] => (0, [])
  | i, x :: xs => if spanOk x = 0 then spansF (i + 1) xs else (spanOk x, [partM kSpan i])
def xW (s : GScope) : Fl := if yt s.name ≠ 0 then (yt s.name, []) else if yt s.version ≠ 0 then (yt s.version, []) else spansF 0 s.spans
def wN : Nat → List GScope → Fl
  | _, [] => (0, [])
  | i, s :: ss => if (xW s).1 = 0 then wN (i + 1) ss else ((xW s).1, partM kScope i :: (xW s).2)
def resF (r : GRes) : Fl := if yZ r.attrs ≠ 0 then (yZ r.attrs, []) else if 16 < r.scopes.length then (34, []) else wN 0 r.scopes
def ressF : Nat → List GRes → Fl
  | _, [] => (0, [])
  | i, r :: rs => if (resF r).1 = 0 then ressF (i + 1) rs else ((resF r).1, partM kRes i :: (resF r).2)
def chkF (b : List GRes) : Fl :=
  if 32 < b.length then (34, []) else if (ressF 0 b).1 ≠ 0 then ressF 0 b else if 100 < (plR 0 b).length then (34, []) else if 65536 < batchW b then (36, []) else (0, [])
theorem spansF_iff : ∀ {l : List GSpan} {i : Nat}, (spansF i l).1 = 0 ↔ ∀ x ∈ l, spanOk x = 0
  | [], i => Iff.intro (fun _ x h => by cases h) (fun _ => rfl)
  | x :: l, i => by
    rw [spansF]
    constructor
    · intro h
      split at h
      · rename_i hx
        intro y hy
        rcases List.mem_cons.1 hy with rfl | hy
        · exact hx
        · exact spansF_iff.1 h y hy
      · rename_i hx; exact absurd h hx
    · intro h
      rw [if_pos (h x List.mem_cons_self)]
      exact spansF_iff.2 fun y hy => h y (List.mem_cons_of_mem _ hy)
def okSc (s : GScope) : Prop := yt s.name = 0 ∧ yt s.version = 0 ∧ ∀ x ∈ s.spans, spanOk x = 0
theorem scopeF_iff {s : GScope} : (xW s).1 = 0 ↔ okSc s := by
  unfold xW okSc
  constructor
  · intro h
    split at h
    · rename_i h1; exact absurd h h1
    split at h
    · rename_i h1; exact absurd h h1
    · rename_i h1 h2; exact ⟨by omega, by omega, spansF_iff.1 h⟩
  · rintro ⟨h1, h2, h3⟩
    rw [if_neg (by omega), if_neg (by omega)]; exact spansF_iff.2 h3
theorem scopesF_iff : ∀ {l : List GScope} {i : Nat}, (wN i l).1 = 0 ↔ ∀ x ∈ l, okSc x
  | [], i => Iff.intro (fun _ x h => by cases h) (fun _ => rfl)
  | x :: l, i => by
    rw [wN]
    constructor
    · intro h
      split at h
      · rename_i hx
        intro y hy
        rcases List.mem_cons.1 hy with rfl | hy
        · exact scopeF_iff.1 hx
        · exact scopesF_iff.1 h y hy
      · rename_i hx; exact absurd h hx
    · intro h
      rw [if_pos (scopeF_iff.2 (h x List.mem_cons_self))]
      exact scopesF_iff.2 fun y hy => h y (List.mem_cons_of_mem _ hy)
def okRs (r : GRes) : Prop := yZ r.attrs = 0 ∧ r.scopes.length ≤ 16 ∧ ∀ x ∈ r.scopes, okSc x
theorem resF_iff {r : GRes} : (resF r).1 = 0 ↔ okRs r := by
  unfold resF okRs
  constructor
  · intro h
    split at h
    · rename_i h1; exact absurd h h1
    split at h
    · exact absurd h (by decide)
    · rename_i h1 h2; exact ⟨by omega, by omega, scopesF_iff.1 h⟩
  · rintro ⟨h1, h2, h3⟩
    rw [if_neg (by omega), if_neg (by omega)]; exact scopesF_iff.2 h3
theorem ressF_iff : ∀ {l : List GRes} {i : Nat}, (ressF i l).1 = 0 ↔ ∀ x ∈ l, okRs x
  | [], i => Iff.intro (fun _ x h => by cases h) (fun _ => rfl)
  | x :: l, i => by
    rw [ressF]
    constructor
    · intro h
      split at h
      · rename_i hx
        intro y hy
        rcases List.mem_cons.1 hy with rfl | hy
        · exact resF_iff.1 hx
        · exact ressF_iff.1 h y hy
      · rename_i hx; exact absurd h hx
    · intro h
      rw [if_pos (resF_iff.2 (h x List.mem_cons_self))]
      exact ressF_iff.2 fun y hy => h y (List.mem_cons_of_mem _ hy)
theorem chkF_iff {b : List GRes} : (chkF b).1 = 0 ↔ b.length ≤ 32 ∧ (∀ r ∈ b, okRs r) ∧ (plR 0 b).length ≤ 100 ∧ batchW b ≤ 65536 := by
  unfold chkF
  constructor
  · intro h
    split at h
    · exact absurd h (by decide)
    split at h
    · rename_i h1; exact absurd h h1
    split at h
    · exact absurd h (by decide)
    split at h
    · exact absurd h (by decide)
    · rename_i h1 h2 h3 h4; have h5 : (ressF 0 b).1 = 0 := by omega
      exact ⟨by omega, ressF_iff.1 h5, by omega, by omega⟩
  · rintro ⟨h1, h2, h3, h4⟩
    rw [if_neg (by omega), if_neg (by have h5 : (ressF 0 b).1 = 0 := ressF_iff.2 h2; omega), if_neg (by omega), if_neg (by omega)]
def allS (b : List GRes) : List GSpan := b.flatMap fun r => xY r.scopes
theorem plR_all : ∀ (i : Nat) (b : List GRes), (plR i b).length = (allS b).length
  | _, [] => rfl
  | i, r :: b => by rw [plR, allS, List.flatMap_cons, List.length_append, List.length_append, plC_len, plR_all (i + 1) b]; rfl
structure GCore where
  trace : Bs
  id : Bs
  parent : Bs
  name : ByteArray
  begun : Int
  lasts : Int
def GCore.av (c : GCore) : AV := .agg [.arr 16 c.trace, .arr 8 c.id, .arr 8 c.parent, sv c.name, iv c.begun, iv c.lasts]
theorem GCore.ext' {a b : GCore} (h1 : a.trace = b.trace) (h2 : a.id = b.id) (h3 : a.parent = b.parent) (h4 : a.name = b.name) (h5 : a.begun = b.begun) (h6 : a.lasts = b.lasts) : a = b := by cases a; cases b; simp_all
instance : DecidableEq GCore := fun a b => decidable_of_iff (a.trace = b.trace ∧ a.id = b.id ∧ a.parent = b.parent ∧ a.name = b.name ∧ a.begun = b.begun ∧ a.lasts = b.lasts) ⟨fun h => GCore.ext' h.1 h.2.1 h.2.2.1 h.2.2.2.1 h.2.2.2.2.1 h.2.2.2.2.2, fun h => by rw [h]; exact ⟨rfl, rfl, rfl, rfl, rfl, rfl⟩⟩
end Go.Proofs
namespace Go.Proofs
open Go Go.Al
instance decMemB (k : ByteArray) (l : List ByteArray) : Decidable (k ∈ l) := decidable_of_iff ((l.any fun x => decide (x = k)) = true) (by
  rw [List.any_eq_true]
  constructor
  · rintro ⟨x, hx, h⟩; exact of_decide_eq_true h ▸ hx
  · exact fun h => ⟨k, h, decide_eq_true rfl⟩)
end Go.Proofs
namespace Go.Proofs
open Go Go.Al
end Go.Proofs
namespace Go.Proofs
open Go Go.Al
theorem part_cat (k : ByteArray) (n : Nat) : (k ++ ⟨#[32]⟩) ++ yT (decB n) = partM k n := by
  unfold partM
  have h1 : yT (lst k) = k := strOf_lst k
  have h2 : (⟨#[32]⟩ : ByteArray) = yT [32] := rfl
  conv => lhs; rw [← h1]
  rw [h2, wh, wh, List.append_assoc]; rfl
theorem part_cat2 (k : ByteArray) (n : Nat) : yT (lst (k ++ ⟨#[32]⟩) ++ decB n) = partM k n := by
  rw [← part_cat, ← wh, strOf_lst]
theorem spansF_drop {l : List GSpan} {i : Nat} (h : i < l.length) : spansF i (l.drop i) = if spanOk (nthS l i) = 0 then spansF (i + 1) (l.drop (i + 1)) else (spanOk (nthS l i), [partM kSpan i]) := by
  rw [yz (d := gs0) h, spansF]; rfl
theorem scopesF_drop {l : List GScope} {i : Nat} (h : i < l.length) : wN i (l.drop i) = if (xW (nthC l i)).1 = 0 then wN (i + 1) (l.drop (i + 1)) else ((xW (nthC l i)).1, partM kScope i :: (xW (nthC l i)).2) := by
  rw [yz (d := gc0) h, wN]; rfl
theorem ressF_drop {l : List GRes} {i : Nat} (h : i < l.length) : ressF i (l.drop i) = if (resF (nthR l i)).1 = 0 then ressF (i + 1) (l.drop (i + 1)) else ((resF (nthR l i)).1, partM kRes i :: (resF (nthR l i)).2) := by
  rw [yz (d := gr0) h, ressF]; rfl
section
variable {s : GScope} {ab : List ByteArray} {i : Nat}
theorem scopeF_1 (h : yt s.name ≠ 0) : xW s = (yt s.name, []) := if_pos h
theorem scopeF_2 (h1 : yt s.name = 0) (h : yt s.version ≠ 0) : xW s = (yt s.version, []) := by unfold xW; rw [if_neg (by omega), if_pos h]
theorem scopeF_3 (h1 : yt s.name = 0) (h2 : yt s.version = 0) : xW s = spansF 0 s.spans := by unfold xW; rw [if_neg (by omega), if_neg (by omega)]
end
section
variable {r : GRes} {a : ByteArray} {i : Nat}
theorem resF_3 (h1 : yZ r.attrs = 0) (h : ¬ 16 < r.scopes.length) : resF r = wN 0 r.scopes := by unfold resF; rw [if_neg (by omega), if_neg h]
end
section
variable {b : List GRes} {i : Nat}
theorem ck1 (h : 32 < b.length) : chkF b = (34, []) := if_pos h
theorem ck3 (h1 : ¬ 32 < b.length) (h : ressF 0 b = (0, [])) (h2 : 100 < (plR 0 b).length) : chkF b = (34, []) := by
  unfold chkF; rw [if_neg h1, h, if_neg (by decide), if_pos h2]
theorem ck4 (h1 : ¬ 32 < b.length) (h : ressF 0 b = (0, [])) (h2 : ¬ 100 < (plR 0 b).length) (h3 : 65536 < batchW b) : chkF b = (36, []) := by
  unfold chkF; rw [if_neg h1, h, if_neg (by decide), if_neg h2, if_pos h3]
theorem ck5 (h1 : ¬ 32 < b.length) (h : ressF 0 b = (0, [])) (h2 : ¬ 100 < (plR 0 b).length) (h3 : ¬ 65536 < batchW b) : chkF b = (0, []) := by
  unfold chkF; rw [if_neg h1, h, if_neg (by decide), if_neg h2, if_neg h3]
end
end Go.Proofs
namespace Go.Proofs
open Go Go.Al
set_option maxRecDepth 10000
end Go.Proofs
namespace Go.Proofs
open Go Go.Al
set_option maxRecDepth 10000
end Go.Proofs
namespace Go.Proofs
open Go Go.Al
end Go.Proofs
namespace Go.Proofs
open Go Go.Al
set_option maxRecDepth 10000
end Go.Proofs
namespace Go.Proofs
open Go Go.Al
set_option maxRecDepth 10000
set_option maxRecDepth 100000
section
open Go.Extern
theorem ex56 (args : Array Value) (w : World) : (callFunc 56 args).run Tryz.prog w = (((fun args => ReflectliteValue.unpack (args.getD 0 (.tuple #[]))) args).run Tryz.prog w).andThen fun v w' => .ok (.value v) w' := @run_callFunc_extern Tryz.prog 56 _ (fun args => ReflectliteValue.unpack (args.getD 0 (.tuple #[]))) Tryz.func56 (by kernel_rfl) (by kernel_rfl) (by kernel_rfl) (by kernel_rfl) args w
theorem ex57 (args : Array Value) (w : World) : (callFunc 57 args).run Tryz.prog w = (((ReflectliteValue.methodAny (ReflectliteValue.valueError "reflectlite.Value.Type" 0) (fun t _ _ _ => ReflectliteType.toType t)) args).run Tryz.prog w).andThen fun v w' => .ok (.value v) w' := @run_callFunc_extern Tryz.prog 57 _ (ReflectliteValue.methodAny (ReflectliteValue.valueError "reflectlite.Value.Type" 0) (fun t _ _ _ => ReflectliteType.toType t)) Tryz.func57 (by kernel_rfl) (by kernel_rfl) (by kernel_rfl) (by kernel_rfl) args w
theorem ex58 (args : Array Value) (w : World) : (callFunc 58 args).run Tryz.prog w = (((ReflectliteValue.method (ReflectliteValue.valueError "reflectlite.Value.IsNil" 0) ReflectliteValue.isNil) args).run Tryz.prog w).andThen fun v w' => .ok (.value v) w' := @run_callFunc_extern Tryz.prog 58 _ (ReflectliteValue.method (ReflectliteValue.valueError "reflectlite.Value.IsNil" 0) ReflectliteValue.isNil) Tryz.func58 (by kernel_rfl) (by kernel_rfl) (by kernel_rfl) (by kernel_rfl) args w
theorem ex94 (args : Array Value) (w : World) : (callFunc 94 args).run Tryz.prog w = (((ReflectliteValue.method (ReflectliteValue.valueError "reflectlite.Value.Elem" 0) ReflectliteValue.elem) args).run Tryz.prog w).andThen fun v w' => .ok (.value v) w' := @run_callFunc_extern Tryz.prog 94 _ (ReflectliteValue.method (ReflectliteValue.valueError "reflectlite.Value.Elem" 0) ReflectliteValue.elem) Tryz.func94 (by kernel_rfl) (by kernel_rfl) (by kernel_rfl) (by kernel_rfl) args w
theorem ex95 (args : Array Value) (w : World) : (callFunc 95 args).run Tryz.prog w = (((ReflectliteValue.set) args).run Tryz.prog w).andThen fun v w' => .ok (.value v) w' := @run_callFunc_extern Tryz.prog 95 _ (ReflectliteValue.set) Tryz.func95 (by kernel_rfl) (by kernel_rfl) (by kernel_rfl) (by kernel_rfl) args w
theorem ex63 (args : Array Value) (w : World) : (callFunc 63 args).run Tryz.prog w = (((ReflectliteType.typeOf) args).run Tryz.prog w).andThen fun v w' => .ok (.value v) w' := @run_callFunc_extern Tryz.prog 63 _ (ReflectliteType.typeOf) Tryz.func63 (by kernel_rfl) (by kernel_rfl) (by kernel_rfl) (by kernel_rfl) args w
theorem ex241 (args : Array Value) (w : World) : (callFunc 241 args).run Tryz.prog w = (((ReflectliteType.abiMethod fun t => do pure (.int .u8 (← Rtype.kind t))) args).run Tryz.prog w).andThen fun v w' => .ok (.value v) w' := @run_callFunc_extern Tryz.prog 241 _ (ReflectliteType.abiMethod fun t => do pure (.int .u8 (← Rtype.kind t))) Tryz.func241 (by kernel_rfl) (by kernel_rfl) (by kernel_rfl) (by kernel_rfl) args w
theorem ex254 (args : Array Value) (w : World) : (callFunc 254 args).run Tryz.prog w = (((ReflectliteType.method ReflectliteType.elem) args).run Tryz.prog w).andThen fun v w' => .ok (.value v) w' := @run_callFunc_extern Tryz.prog 254 _ (ReflectliteType.method ReflectliteType.elem) Tryz.func254 (by kernel_rfl) (by kernel_rfl) (by kernel_rfl) (by kernel_rfl) args w
theorem ex255 (args : Array Value) (w : World) : (callFunc 255 args).run Tryz.prog w = (((ReflectliteType.relation "Implements" ReflectliteType.implements_) args).run Tryz.prog w).andThen fun v w' => .ok (.value v) w' := @run_callFunc_extern Tryz.prog 255 _ (ReflectliteType.relation "Implements" ReflectliteType.implements_) Tryz.func255 (by kernel_rfl) (by kernel_rfl) (by kernel_rfl) (by kernel_rfl) args w
theorem ex252 (args : Array Value) (w : World) : (callFunc 252 args).run Tryz.prog w = (((ReflectliteType.relation "AssignableTo" ReflectliteType.assignableTo) args).run Tryz.prog w).andThen fun v w' => .ok (.value v) w' := @run_callFunc_extern Tryz.prog 252 _ (ReflectliteType.relation "AssignableTo" ReflectliteType.assignableTo) Tryz.func252 (by kernel_rfl) (by kernel_rfl) (by kernel_rfl) (by kernel_rfl) args w
theorem ex253 (args : Array Value) (w : World) : (callFunc 253 args).run Tryz.prog w = (((ReflectliteType.method fun t => do Rtype.noPackHeld "Comparable" t; pure (.bool (← typeInfo t).comparable)) args).run Tryz.prog w).andThen fun v w' => .ok (.value v) w' := @run_callFunc_extern Tryz.prog 253 _ (ReflectliteType.method fun t => do Rtype.noPackHeld "Comparable" t; pure (.bool (← typeInfo t).comparable)) Tryz.func253 (by kernel_rfl) (by kernel_rfl) (by kernel_rfl) (by kernel_rfl) args w
theorem fV81 (a : Addr) (w : World) : (callFunc 56 #[.iface 81 (.pointer (some a))]).run Tryz.prog w = .ok (.value (.agg #[(.pointer (some ⟨3, 81, none⟩)), .pointer (some ⟨w.heap.size, 0, none⟩), .int .u64 150])) (w.alloc (.cells #[.pointer (some a)] 81)) := by
  have h : (ReflectliteValue.unpack (.iface 81 (.pointer (some a)))).run Tryz.prog w = .ok (.agg #[(.pointer (some ⟨3, 81, none⟩)), .pointer (some ⟨w.heap.size, 0, none⟩), .int .u64 150]) (w.alloc (.cells #[.pointer (some a)] 81)) := by kernel_rfl
  rw [ex56]; exact andV h
theorem fV130 (a : Addr) (w : World) : (callFunc 56 #[.iface 130 (.pointer (some a))]).run Tryz.prog w = .ok (.value (.agg #[(.pointer (some ⟨3, 130, none⟩)), .pointer (some ⟨w.heap.size, 0, none⟩), .int .u64 150])) (w.alloc (.cells #[.pointer (some a)] 130)) := by
  have h : (ReflectliteValue.unpack (.iface 130 (.pointer (some a)))).run Tryz.prog w = .ok (.agg #[(.pointer (some ⟨3, 130, none⟩)), .pointer (some ⟨w.heap.size, 0, none⟩), .int .u64 150]) (w.alloc (.cells #[.pointer (some a)] 130)) := by kernel_rfl
  rw [ex56]; exact andV h
theorem fV79 (a : Addr) (w : World) : (callFunc 56 #[.iface 79 (.pointer (some a))]).run Tryz.prog w = .ok (.value (.agg #[(.pointer (some ⟨3, 79, none⟩)), .pointer (some ⟨w.heap.size, 0, none⟩), .int .u64 150])) (w.alloc (.cells #[.pointer (some a)] 79)) := by
  have h : (ReflectliteValue.unpack (.iface 79 (.pointer (some a)))).run Tryz.prog w = .ok (.agg #[(.pointer (some ⟨3, 79, none⟩)), .pointer (some ⟨w.heap.size, 0, none⟩), .int .u64 150]) (w.alloc (.cells #[.pointer (some a)] 79)) := by kernel_rfl
  rw [ex56]; exact andV h
theorem fV110 (a : Addr) (w : World) : (callFunc 56 #[.iface 110 (.pointer (some a))]).run Tryz.prog w = .ok (.value (.agg #[(.pointer (some ⟨3, 110, none⟩)), .pointer (some ⟨w.heap.size, 0, none⟩), .int .u64 150])) (w.alloc (.cells #[.pointer (some a)] 110)) := by
  have h : (ReflectliteValue.unpack (.iface 110 (.pointer (some a)))).run Tryz.prog w = .ok (.agg #[(.pointer (some ⟨3, 110, none⟩)), .pointer (some ⟨w.heap.size, 0, none⟩), .int .u64 150]) (w.alloc (.cells #[.pointer (some a)] 110)) := by kernel_rfl
  rw [ex56]; exact andV h
theorem rlm (z : Sem Value) (f : TypeId → Addr → Nat → Nat → Sem Value) (v : Value) : ReflectliteValue.method z f #[v] = (do match ← ReflectliteValue.parts v with | none => z | some (t, a, fl) => f t a fl (fl % 32)) := rfl
theorem rls (v x : Value) : ReflectliteValue.set #[v, x] = (do
    let (some (dst, a, fl), some (src, b, _)) := (← ReflectliteValue.parts v, ← ReflectliteValue.parts x)
      | unsupported (.noEntry "extern/(internal/reflectlite.Value).Set.zeroValue")
    if fl / ReflectliteValue.flagAddr % 2 == 0 then unsupported (.noEntry "extern/(internal/reflectlite.Value).Set.unaddressable")
    let val ← loadVar src b
    if ← Rtype.directlyAssignable dst src then storeVar dst a val
    else if ← Rtype.implements dst src then
      if (← Rtype.kind src) == 20 then
        match val with
        | .nilIface => unsupported (.noEntry "extern/reflectlite: a nil value of one interface type handed on as a value of another")
        | _ => storeVar dst a val
      else storeVar dst a (.iface src val)
    else panicString ("reflectlite.Set: value of type " ++ (← Rtype.spelt src) ++ " is not assignable to type " ++ (← Rtype.spelt dst))
    pure (.tuple #[])) := rfl
theorem fT81 (a : Addr) (w : World) : (callFunc 57 #[(.agg #[(.pointer (some ⟨3, 81, none⟩)), .pointer (some a), .int .u64 150])]).run Tryz.prog w = .ok (.value (.iface 159 (.agg #[(.pointer (some ⟨3, 81, none⟩))]))) w := by
  have h : (ReflectliteValue.methodAny (ReflectliteValue.valueError "reflectlite.Value.Type" 0) (fun t _ _ _ => ReflectliteType.toType t) #[(.agg #[(.pointer (some ⟨3, 81, none⟩)), .pointer (some a), .int .u64 150])]).run Tryz.prog w = .ok (.iface 159 (.agg #[(.pointer (some ⟨3, 81, none⟩))])) w := by kernel_rfl
  rw [ex57]; exact andV h
theorem pa81 (a : Addr) (w : World) : (ReflectliteValue.parts (.agg #[(.pointer (some ⟨3, 81, none⟩)), .pointer (some a), .int .u64 150])).run Tryz.prog w = .ok (some (81, a, 150)) w := by kernel_rfl
theorem fN81 (a p : Addr) (w : World) (ha : w.cell? a = some (.pointer (some p))) : (callFunc 58 #[(.agg #[(.pointer (some ⟨3, 81, none⟩)), .pointer (some a), .int .u64 150])]).run Tryz.prog w = .ok (.value (.bool false)) w := by
  have h : (ReflectliteValue.method (ReflectliteValue.valueError "reflectlite.Value.IsNil" 0) ReflectliteValue.isNil #[(.agg #[(.pointer (some ⟨3, 81, none⟩)), .pointer (some a), .int .u64 150])]).run Tryz.prog w = .ok (.bool false) w := by
    rw [rlm]
    simp only [Sem.run_bind, pa81, Result.andThen]
    simp [ReflectliteValue.isNil, loadVar, isAgg, underlying, Tryz.underlying81, ha, Result.andThen]
  rw [ex58]; exact andV h
theorem eo81 (w : World) : (Rtype.elem? 81).run Tryz.prog w = .ok (some 79) w := by kernel_rfl
theorem mk79 (p : Addr) (w : World) : (ReflectliteValue.mk 79 p ReflectliteValue.flagAddr).run Tryz.prog w = .ok (.agg #[(.pointer (some ⟨3, 79, none⟩)), .pointer (some p), .int .u64 406]) w := by kernel_rfl
theorem fE81 (a p : Addr) (w : World) (ha : w.cell? a = some (.pointer (some p))) : (callFunc 94 #[(.agg #[(.pointer (some ⟨3, 81, none⟩)), .pointer (some a), .int .u64 150])]).run Tryz.prog w = .ok (.value (.agg #[(.pointer (some ⟨3, 79, none⟩)), .pointer (some p), .int .u64 406])) w := by
  have h : (ReflectliteValue.method (ReflectliteValue.valueError "reflectlite.Value.Elem" 0) ReflectliteValue.elem #[(.agg #[(.pointer (some ⟨3, 81, none⟩)), .pointer (some a), .int .u64 150])]).run Tryz.prog w = .ok (.agg #[(.pointer (some ⟨3, 79, none⟩)), .pointer (some p), .int .u64 406]) w := by
    rw [rlm]
    simp only [Sem.run_bind, pa81, Result.andThen]
    simp [ReflectliteValue.elem, loadVar, isAgg, underlying, Tryz.underlying81, ha, Result.andThen, eo81, mk79]
  rw [ex94]; exact andV h
theorem pb79 (a : Addr) (w : World) : (ReflectliteValue.parts (.agg #[(.pointer (some ⟨3, 79, none⟩)), .pointer (some a), .int .u64 406])).run Tryz.prog w = .ok (some (79, a, 406)) w := by kernel_rfl
theorem pc79 (a : Addr) (w : World) : (ReflectliteValue.parts (.agg #[(.pointer (some ⟨3, 79, none⟩)), .pointer (some a), .int .u64 150])).run Tryz.prog w = .ok (some (79, a, 150)) w := by kernel_rfl
theorem da79 (w : World) : (Rtype.directlyAssignable 79 79).run Tryz.prog w = .ok true w := by kernel_rfl
theorem fS79 (a b p : Addr) (w w' : World) (hb : w.cell? b = some (.pointer (some p))) (hs : (storeVar 79 a (.pointer (some p))).run Tryz.prog w = .ok () w') : (callFunc 95 #[(.agg #[(.pointer (some ⟨3, 79, none⟩)), .pointer (some a), .int .u64 406]), (.agg #[(.pointer (some ⟨3, 79, none⟩)), .pointer (some b), .int .u64 150])]).run Tryz.prog w = .ok (.value (.tuple #[])) w' := by
  have h : (ReflectliteValue.set #[(.agg #[(.pointer (some ⟨3, 79, none⟩)), .pointer (some a), .int .u64 406]), (.agg #[(.pointer (some ⟨3, 79, none⟩)), .pointer (some b), .int .u64 150])]).run Tryz.prog w = .ok (.tuple #[]) w' := by
    rw [rls]
    simp only [Sem.run_bind, pb79, pc79, Result.andThen]
    simp [ReflectliteValue.flagAddr, loadVar, isAgg, underlying, Tryz.underlying79, hb, Result.andThen, da79, hs]
  rw [ex95]; exact andV h
theorem fT130 (a : Addr) (w : World) : (callFunc 57 #[(.agg #[(.pointer (some ⟨3, 130, none⟩)), .pointer (some a), .int .u64 150])]).run Tryz.prog w = .ok (.value (.iface 159 (.agg #[(.pointer (some ⟨3, 130, none⟩))]))) w := by
  have h : (ReflectliteValue.methodAny (ReflectliteValue.valueError "reflectlite.Value.Type" 0) (fun t _ _ _ => ReflectliteType.toType t) #[(.agg #[(.pointer (some ⟨3, 130, none⟩)), .pointer (some a), .int .u64 150])]).run Tryz.prog w = .ok (.iface 159 (.agg #[(.pointer (some ⟨3, 130, none⟩))])) w := by kernel_rfl
  rw [ex57]; exact andV h
theorem pa130 (a : Addr) (w : World) : (ReflectliteValue.parts (.agg #[(.pointer (some ⟨3, 130, none⟩)), .pointer (some a), .int .u64 150])).run Tryz.prog w = .ok (some (130, a, 150)) w := by kernel_rfl
theorem fN130 (a p : Addr) (w : World) (ha : w.cell? a = some (.pointer (some p))) : (callFunc 58 #[(.agg #[(.pointer (some ⟨3, 130, none⟩)), .pointer (some a), .int .u64 150])]).run Tryz.prog w = .ok (.value (.bool false)) w := by
  have h : (ReflectliteValue.method (ReflectliteValue.valueError "reflectlite.Value.IsNil" 0) ReflectliteValue.isNil #[(.agg #[(.pointer (some ⟨3, 130, none⟩)), .pointer (some a), .int .u64 150])]).run Tryz.prog w = .ok (.bool false) w := by
    rw [rlm]
    simp only [Sem.run_bind, pa130, Result.andThen]
    simp [ReflectliteValue.isNil, loadVar, isAgg, underlying, Tryz.underlying130, ha, Result.andThen]
  rw [ex58]; exact andV h
theorem eo130 (w : World) : (Rtype.elem? 130).run Tryz.prog w = .ok (some 110) w := by kernel_rfl
theorem mk110 (p : Addr) (w : World) : (ReflectliteValue.mk 110 p ReflectliteValue.flagAddr).run Tryz.prog w = .ok (.agg #[(.pointer (some ⟨3, 110, none⟩)), .pointer (some p), .int .u64 406]) w := by kernel_rfl
theorem fE130 (a p : Addr) (w : World) (ha : w.cell? a = some (.pointer (some p))) : (callFunc 94 #[(.agg #[(.pointer (some ⟨3, 130, none⟩)), .pointer (some a), .int .u64 150])]).run Tryz.prog w = .ok (.value (.agg #[(.pointer (some ⟨3, 110, none⟩)), .pointer (some p), .int .u64 406])) w := by
  have h : (ReflectliteValue.method (ReflectliteValue.valueError "reflectlite.Value.Elem" 0) ReflectliteValue.elem #[(.agg #[(.pointer (some ⟨3, 130, none⟩)), .pointer (some a), .int .u64 150])]).run Tryz.prog w = .ok (.agg #[(.pointer (some ⟨3, 110, none⟩)), .pointer (some p), .int .u64 406]) w := by
    rw [rlm]
    simp only [Sem.run_bind, pa130, Result.andThen]
    simp [ReflectliteValue.elem, loadVar, isAgg, underlying, Tryz.underlying130, ha, Result.andThen, eo130, mk110]
  rw [ex94]; exact andV h
theorem pb110 (a : Addr) (w : World) : (ReflectliteValue.parts (.agg #[(.pointer (some ⟨3, 110, none⟩)), .pointer (some a), .int .u64 406])).run Tryz.prog w = .ok (some (110, a, 406)) w := by kernel_rfl
theorem pc110 (a : Addr) (w : World) : (ReflectliteValue.parts (.agg #[(.pointer (some ⟨3, 110, none⟩)), .pointer (some a), .int .u64 150])).run Tryz.prog w = .ok (some (110, a, 150)) w := by kernel_rfl
theorem da110 (w : World) : (Rtype.directlyAssignable 110 110).run Tryz.prog w = .ok true w := by kernel_rfl
theorem fS110 (a b p : Addr) (w w' : World) (hb : w.cell? b = some (.pointer (some p))) (hs : (storeVar 110 a (.pointer (some p))).run Tryz.prog w = .ok () w') : (callFunc 95 #[(.agg #[(.pointer (some ⟨3, 110, none⟩)), .pointer (some a), .int .u64 406]), (.agg #[(.pointer (some ⟨3, 110, none⟩)), .pointer (some b), .int .u64 150])]).run Tryz.prog w = .ok (.value (.tuple #[])) w' := by
  have h : (ReflectliteValue.set #[(.agg #[(.pointer (some ⟨3, 110, none⟩)), .pointer (some a), .int .u64 406]), (.agg #[(.pointer (some ⟨3, 110, none⟩)), .pointer (some b), .int .u64 150])]).run Tryz.prog w = .ok (.tuple #[]) w' := by
    rw [rls]
    simp only [Sem.run_bind, pb110, pc110, Result.andThen]
    simp [ReflectliteValue.flagAddr, loadVar, isAgg, underlying, Tryz.underlying110, hb, Result.andThen, da110, hs]
  rw [ex95]; exact andV h
theorem fK81 (w : World) : (callMethod (.iface 159 (.agg #[(.pointer (some ⟨3, 81, none⟩))])) "Kind" #[]).run Tryz.prog w = .ok (.value (.int .u8 22)) w := by
  have hm : (method (Tryz.prog.types.size + Made.depth) 159 (.agg #[(.pointer (some ⟨3, 81, none⟩))]) "Kind").run Tryz.prog w = .ok (241, (.pointer (some ⟨3, 81, none⟩))) w := by kernel_rfl
  rw [yK hm, ex241]
  have h : ((ReflectliteType.abiMethod fun t => do pure (.int .u8 (← Rtype.kind t))) #[(.pointer (some ⟨3, 81, none⟩))]).run Tryz.prog w = .ok (.int .u8 22) w := by kernel_rfl
  exact andV h
theorem fK79 (w : World) : (callMethod (.iface 159 (.agg #[(.pointer (some ⟨3, 79, none⟩))])) "Kind" #[]).run Tryz.prog w = .ok (.value (.int .u8 22)) w := by
  have hm : (method (Tryz.prog.types.size + Made.depth) 159 (.agg #[(.pointer (some ⟨3, 79, none⟩))]) "Kind").run Tryz.prog w = .ok (241, (.pointer (some ⟨3, 79, none⟩))) w := by kernel_rfl
  rw [yK hm, ex241]
  have h : ((ReflectliteType.abiMethod fun t => do pure (.int .u8 (← Rtype.kind t))) #[(.pointer (some ⟨3, 79, none⟩))]).run Tryz.prog w = .ok (.int .u8 22) w := by kernel_rfl
  exact andV h
theorem fK130 (w : World) : (callMethod (.iface 159 (.agg #[(.pointer (some ⟨3, 130, none⟩))])) "Kind" #[]).run Tryz.prog w = .ok (.value (.int .u8 22)) w := by
  have hm : (method (Tryz.prog.types.size + Made.depth) 159 (.agg #[(.pointer (some ⟨3, 130, none⟩))]) "Kind").run Tryz.prog w = .ok (241, (.pointer (some ⟨3, 130, none⟩))) w := by kernel_rfl
  rw [yK hm, ex241]
  have h : ((ReflectliteType.abiMethod fun t => do pure (.int .u8 (← Rtype.kind t))) #[(.pointer (some ⟨3, 130, none⟩))]).run Tryz.prog w = .ok (.int .u8 22) w := by kernel_rfl
  exact andV h
theorem fK110 (w : World) : (callMethod (.iface 159 (.agg #[(.pointer (some ⟨3, 110, none⟩))])) "Kind" #[]).run Tryz.prog w = .ok (.value (.int .u8 22)) w := by
  have hm : (method (Tryz.prog.types.size + Made.depth) 159 (.agg #[(.pointer (some ⟨3, 110, none⟩))]) "Kind").run Tryz.prog w = .ok (241, (.pointer (some ⟨3, 110, none⟩))) w := by kernel_rfl
  rw [yK hm, ex241]
  have h : ((ReflectliteType.abiMethod fun t => do pure (.int .u8 (← Rtype.kind t))) #[(.pointer (some ⟨3, 110, none⟩))]).run Tryz.prog w = .ok (.int .u8 22) w := by kernel_rfl
  exact andV h
theorem fL81 (w : World) : (callMethod (.iface 159 (.agg #[(.pointer (some ⟨3, 81, none⟩))])) "Elem" #[]).run Tryz.prog w = .ok (.value (.iface 159 (.agg #[(.pointer (some ⟨3, 79, none⟩))]))) w := by
  have hm : (method (Tryz.prog.types.size + Made.depth) 159 (.agg #[(.pointer (some ⟨3, 81, none⟩))]) "Elem").run Tryz.prog w = .ok (254, (.agg #[(.pointer (some ⟨3, 81, none⟩))])) w := by kernel_rfl
  rw [yK hm, ex254]
  have h : ((ReflectliteType.method ReflectliteType.elem) #[(.agg #[(.pointer (some ⟨3, 81, none⟩))])]).run Tryz.prog w = .ok (.iface 159 (.agg #[(.pointer (some ⟨3, 79, none⟩))])) w := by kernel_rfl
  exact andV h
theorem fI79 (w : World) : (callMethod (.iface 159 (.agg #[(.pointer (some ⟨3, 79, none⟩))])) "Implements" #[(.iface 159 (.agg #[(.pointer (some ⟨3, 28, none⟩))]))]).run Tryz.prog w = .ok (.value (.bool true)) w := by
  have hm : (method (Tryz.prog.types.size + Made.depth) 159 (.agg #[(.pointer (some ⟨3, 79, none⟩))]) "Implements").run Tryz.prog w = .ok (255, (.agg #[(.pointer (some ⟨3, 79, none⟩))])) w := by kernel_rfl
  rw [yK hm, ex255]
  have h : ((ReflectliteType.relation "Implements" ReflectliteType.implements_) #[(.agg #[(.pointer (some ⟨3, 79, none⟩))]), (.iface 159 (.agg #[(.pointer (some ⟨3, 28, none⟩))]))]).run Tryz.prog w = .ok (.bool true) w := by kernel_rfl
  exact andV h
theorem fO79 (v : Value) (w : World) : (callFunc 63 #[.iface 79 v]).run Tryz.prog w = .ok (.value (.iface 159 (.agg #[(.pointer (some ⟨3, 79, none⟩))]))) w := by
  have h : (ReflectliteType.typeOf #[.iface 79 v]).run Tryz.prog w = .ok (.iface 159 (.agg #[(.pointer (some ⟨3, 79, none⟩))])) w := by kernel_rfl
  rw [ex63]; exact andV h
theorem fA79_79 (w : World) : (callMethod (.iface 159 (.agg #[(.pointer (some ⟨3, 79, none⟩))])) "AssignableTo" #[(.iface 159 (.agg #[(.pointer (some ⟨3, 79, none⟩))]))]).run Tryz.prog w = .ok (.value (.bool true)) w := by
  have hm : (method (Tryz.prog.types.size + Made.depth) 159 (.agg #[(.pointer (some ⟨3, 79, none⟩))]) "AssignableTo").run Tryz.prog w = .ok (252, (.agg #[(.pointer (some ⟨3, 79, none⟩))])) w := by kernel_rfl
  rw [yK hm, ex252]
  have h : ((ReflectliteType.relation "AssignableTo" ReflectliteType.assignableTo) #[(.agg #[(.pointer (some ⟨3, 79, none⟩))]), (.iface 159 (.agg #[(.pointer (some ⟨3, 79, none⟩))]))]).run Tryz.prog w = .ok (.bool true) w := by kernel_rfl
  exact andV h
theorem fA79_110 (w : World) : (callMethod (.iface 159 (.agg #[(.pointer (some ⟨3, 79, none⟩))])) "AssignableTo" #[(.iface 159 (.agg #[(.pointer (some ⟨3, 110, none⟩))]))]).run Tryz.prog w = .ok (.value (.bool false)) w := by
  have hm : (method (Tryz.prog.types.size + Made.depth) 159 (.agg #[(.pointer (some ⟨3, 79, none⟩))]) "AssignableTo").run Tryz.prog w = .ok (252, (.agg #[(.pointer (some ⟨3, 79, none⟩))])) w := by kernel_rfl
  rw [yK hm, ex252]
  have h : ((ReflectliteType.relation "AssignableTo" ReflectliteType.assignableTo) #[(.agg #[(.pointer (some ⟨3, 79, none⟩))]), (.iface 159 (.agg #[(.pointer (some ⟨3, 110, none⟩))]))]).run Tryz.prog w = .ok (.bool false) w := by kernel_rfl
  exact andV h
theorem fL130 (w : World) : (callMethod (.iface 159 (.agg #[(.pointer (some ⟨3, 130, none⟩))])) "Elem" #[]).run Tryz.prog w = .ok (.value (.iface 159 (.agg #[(.pointer (some ⟨3, 110, none⟩))]))) w := by
  have hm : (method (Tryz.prog.types.size + Made.depth) 159 (.agg #[(.pointer (some ⟨3, 130, none⟩))]) "Elem").run Tryz.prog w = .ok (254, (.agg #[(.pointer (some ⟨3, 130, none⟩))])) w := by kernel_rfl
  rw [yK hm, ex254]
  have h : ((ReflectliteType.method ReflectliteType.elem) #[(.agg #[(.pointer (some ⟨3, 130, none⟩))])]).run Tryz.prog w = .ok (.iface 159 (.agg #[(.pointer (some ⟨3, 110, none⟩))])) w := by kernel_rfl
  exact andV h
theorem fI110 (w : World) : (callMethod (.iface 159 (.agg #[(.pointer (some ⟨3, 110, none⟩))])) "Implements" #[(.iface 159 (.agg #[(.pointer (some ⟨3, 28, none⟩))]))]).run Tryz.prog w = .ok (.value (.bool true)) w := by
  have hm : (method (Tryz.prog.types.size + Made.depth) 159 (.agg #[(.pointer (some ⟨3, 110, none⟩))]) "Implements").run Tryz.prog w = .ok (255, (.agg #[(.pointer (some ⟨3, 110, none⟩))])) w := by kernel_rfl
  rw [yK hm, ex255]
  have h : ((ReflectliteType.relation "Implements" ReflectliteType.implements_) #[(.agg #[(.pointer (some ⟨3, 110, none⟩))]), (.iface 159 (.agg #[(.pointer (some ⟨3, 28, none⟩))]))]).run Tryz.prog w = .ok (.bool true) w := by kernel_rfl
  exact andV h
theorem fO110 (v : Value) (w : World) : (callFunc 63 #[.iface 110 v]).run Tryz.prog w = .ok (.value (.iface 159 (.agg #[(.pointer (some ⟨3, 110, none⟩))]))) w := by
  have h : (ReflectliteType.typeOf #[.iface 110 v]).run Tryz.prog w = .ok (.iface 159 (.agg #[(.pointer (some ⟨3, 110, none⟩))])) w := by kernel_rfl
  rw [ex63]; exact andV h
theorem fA110_79 (w : World) : (callMethod (.iface 159 (.agg #[(.pointer (some ⟨3, 110, none⟩))])) "AssignableTo" #[(.iface 159 (.agg #[(.pointer (some ⟨3, 79, none⟩))]))]).run Tryz.prog w = .ok (.value (.bool false)) w := by
  have hm : (method (Tryz.prog.types.size + Made.depth) 159 (.agg #[(.pointer (some ⟨3, 110, none⟩))]) "AssignableTo").run Tryz.prog w = .ok (252, (.agg #[(.pointer (some ⟨3, 110, none⟩))])) w := by kernel_rfl
  rw [yK hm, ex252]
  have h : ((ReflectliteType.relation "AssignableTo" ReflectliteType.assignableTo) #[(.agg #[(.pointer (some ⟨3, 110, none⟩))]), (.iface 159 (.agg #[(.pointer (some ⟨3, 79, none⟩))]))]).run Tryz.prog w = .ok (.bool false) w := by kernel_rfl
  exact andV h
theorem fA110_110 (w : World) : (callMethod (.iface 159 (.agg #[(.pointer (some ⟨3, 110, none⟩))])) "AssignableTo" #[(.iface 159 (.agg #[(.pointer (some ⟨3, 110, none⟩))]))]).run Tryz.prog w = .ok (.value (.bool true)) w := by
  have hm : (method (Tryz.prog.types.size + Made.depth) 159 (.agg #[(.pointer (some ⟨3, 110, none⟩))]) "AssignableTo").run Tryz.prog w = .ok (252, (.agg #[(.pointer (some ⟨3, 110, none⟩))])) w := by kernel_rfl
  rw [yK hm, ex252]
  have h : ((ReflectliteType.relation "AssignableTo" ReflectliteType.assignableTo) #[(.agg #[(.pointer (some ⟨3, 110, none⟩))]), (.iface 159 (.agg #[(.pointer (some ⟨3, 110, none⟩))]))]).run Tryz.prog w = .ok (.bool true) w := by kernel_rfl
  exact andV h
theorem fC79 (w : World) : (callMethod (.iface 159 (.agg #[(.pointer (some ⟨3, 79, none⟩))])) "Comparable" #[]).run Tryz.prog w = .ok (.value (.bool true)) w := by
  have hm : (method (Tryz.prog.types.size + Made.depth) 159 (.agg #[(.pointer (some ⟨3, 79, none⟩))]) "Comparable").run Tryz.prog w = .ok (253, (.agg #[(.pointer (some ⟨3, 79, none⟩))])) w := by kernel_rfl
  rw [yK hm, ex253]
  have h : ((ReflectliteType.method fun t => do Rtype.noPackHeld "Comparable" t; pure (.bool (← typeInfo t).comparable)) #[(.agg #[(.pointer (some ⟨3, 79, none⟩))])]).run Tryz.prog w = .ok (.bool true) w := by kernel_rfl
  exact andV h
theorem hs79_163 (u : Value) (w : World) : (Instr.typeAssert (.iface 79 u) 28 163 true).run Tryz.prog w = .ok (.tuple #[.nilIface, .bool false]) w := run_typeAssert_lacksB Tryz.underlying163 (by kernel_rfl) (by kernel_rfl) u 28 w
theorem hs79_166 (u : Value) (w : World) : (Instr.typeAssert (.iface 79 u) 28 166 true).run Tryz.prog w = .ok (.tuple #[.nilIface, .bool false]) w := run_typeAssert_lacksB Tryz.underlying166 (by kernel_rfl) (by kernel_rfl) u 28 w
theorem hs79_168 (u : Value) (w : World) : (Instr.typeAssert (.iface 79 u) 28 168 true).run Tryz.prog w = .ok (.tuple #[.nilIface, .bool false]) w := run_typeAssert_lacksB Tryz.underlying168 (by kernel_rfl) (by kernel_rfl) u 28 w
theorem hs79_172 (u : Value) (w : World) : (Instr.typeAssert (.iface 79 u) 28 172 true).run Tryz.prog w = .ok (.tuple #[.iface 79 u, .bool true]) w := run_typeAssert_hasB Tryz.underlying172 (by kernel_rfl) u 28 w
theorem hs110_163 (u : Value) (w : World) : (Instr.typeAssert (.iface 110 u) 28 163 true).run Tryz.prog w = .ok (.tuple #[.nilIface, .bool false]) w := run_typeAssert_lacksB Tryz.underlying163 (by kernel_rfl) (by kernel_rfl) u 28 w
theorem hs110_166 (u : Value) (w : World) : (Instr.typeAssert (.iface 110 u) 28 166 true).run Tryz.prog w = .ok (.tuple #[.iface 110 u, .bool true]) w := run_typeAssert_hasB Tryz.underlying166 (by kernel_rfl) u 28 w
theorem hs110_172 (u : Value) (w : World) : (Instr.typeAssert (.iface 110 u) 28 172 true).run Tryz.prog w = .ok (.tuple #[.nilIface, .bool false]) w := run_typeAssert_lacksB Tryz.underlying172 (by kernel_rfl) (by kernel_rfl) u 28 w
theorem mu110 (w : World) (v : Value) : (method (Tryz.prog.types.size + Made.depth) 110 v "Unwrap").run Tryz.prog w = .ok (247, v) w := by kernel_rfl
theorem mi79 (w : World) (v : Value) : (method (Tryz.prog.types.size + Made.depth) 79 v "Is").run Tryz.prog w = .ok (245, v) w := by kernel_rfl
theorem pi79 : ∃ i j, Tryz.prog.info? 79 = some i ∧ i.comparable = true ∧ Tryz.prog.info? 83 = some j ∧ j.size ≠ 0 := by
  have h : ((Tryz.prog.info? 79).map (·.comparable)) = some true := by kernel_rfl
  have k : ((Tryz.prog.info? 83).map (fun j => Nat.beq j.size 0)) = some false := by kernel_rfl
  obtain ⟨i, hi, h2⟩ := Option.map_eq_some_iff.1 h
  obtain ⟨j, hj, k2⟩ := Option.map_eq_some_iff.1 k
  exact ⟨i, j, hi, h2, hj, fun e => by rw [e] at k2; cases k2⟩
end
end Go.Proofs
namespace Go.Al
open Go.RowKit
section
variable {C : Cx} {A : Nat → SV} {d : Nat} {ty : TypeId} {pos : String} {af : Array Edge} {gd : Option (Nat × Bool)} {x y : Operand} {T T' : TypeId}
theorem s_extP {f g off : Nat} {r : Value} {ats : Array TypeId} (hN : Nat.blt d C.N = true) (hx : opS A x = .ifp T g off) (pr : plain r = true) (hf : ∀ v w, (callFunc f #[.iface T v]).run C.P w = .ok (.value r) w) :
    zf C ⟨some d, .call { callee := .value (.func f), args := #[x], argTypes := ats }, ty, pos, af, gd⟩ (opR x) [] A [(d, .imm (.v r))] := by
  refine zf.value rfl hN fun A' G a w hR S => ?_
  have hev := S.ifp ((z8 hR).trans hx)
  exact ⟨r, run_ext1 (by rw [hev]; exact hf _ w), zt.2 (yg _ _ pr)⟩
theorem repCs_get1 {w : World} {I : Nat → Nat → Prop} : ∀ {ps : List AV} {cs : List Value} {i : Nat} {y : AV}, ps.all (fun p => Nat.beq p.width 1) = true → yx w I ps cs → ps[i]? = some y → ∃ c, cs[i]? = some c ∧ RepC w I y [c]
  | [], _, _, _, _, _, h => by simp at h
  | p :: ps, cs, i, y, hw, hr, h => by
    simp only [yx] at hr
    obtain ⟨c1, c2, rfl, h1, h2⟩ := hr
    simp only [List.all_cons, Bool.and_eq_true] at hw
    have hl := RepC.len _ _ h1
    rw [Nat.eq_of_beq_eq_true hw.1] at hl
    obtain ⟨c, rfl⟩ : ∃ c, c1 = [c] := List.length_eq_one_iff.1 hl
    cases i with
    | zero => simp at h; subst h; exact ⟨c, rfl, h1⟩
    | succ i => obtain ⟨c', k1, k2⟩ := repCs_get1 (i := i) hw.2 h2 (by simpa using h); exact ⟨c', by simpa using k1, k2⟩
theorem s_ixG {n : Nat} {ps : List AV} {el : TypeId} {i : Int} {k : IntKind} {y0 : AV} (hN : Nat.blt d C.N = true) (hx : opV A x = some (.agg ps)) (hy : opV A y = some (.v (.int k i))) (hT : C.P.underlying T = some (.array n el)) (hn : yA C.P el = some 1) (hq : xD C.P el = some false)
    (hw : ps.all (fun p => Nat.beq p.width 1) = true) (h : 0 ≤ i ∧ i < n) (hg : ps[i.toNat]? = some y0) (ha : y0.isAgg = false) : zf C ⟨some d, .index T x y, ty, pos, af, gd⟩ (opR x ++ opR y) [] A [(d, .imm y0)] := by
  refine zf.op2 rfl hN hx hy fun w I ρ h1 h2 => ?_
  have hi := yG h2
  obtain ⟨c, hc1, hc2⟩ := h1
  simp only [RepC] at hc1
  obtain ⟨v, hv1, hv2⟩ := repCs_get1 hw hc1 hg
  have hlt : i.toNat < c.length := (List.getElem?_eq_some_iff.1 hv1).1
  have hvi : c[i.toNat] = v := (List.getElem?_eq_some_iff.1 hv1).2
  have hev : ρ x = .agg c.toArray := by rw [hc2]; rfl
  refine ⟨v, ?_, ⟨[v], hv2, by simp [mkV, ha]⟩⟩
  have hp := run_part (P := C.P) (t := el) (n := 1) (off := i.toNat * 1) (q := false) (cs := c.toArray) (w := w) hq hn rfl (by simp; omega)
  simp only [execOp, Instr.index, hi, hev, asIntOf, Sem.run_bind, Sem.run_pure, Result.andThen_ok, zR hT, h, and_self, if_true, yE hn, hp]
  simp [hlt, List.drop_eq_getElem_cons, List.headD, List.head?, hvi]
end
end Go.Al
namespace Go.Proofs
open Go Go.Al
set_option maxRecDepth 10000
theorem tA121 : xD Tryz.prog 121 = some true := by kernel_rfl
theorem tS121 : yA Tryz.prog 121 = some 3 := by kernel_rfl
theorem tA124 : xD Tryz.prog 124 = some false := by kernel_rfl
theorem tS124 : yA Tryz.prog 124 = some 1 := by kernel_rfl
def z121 : AV := .agg [.v (.pointer none), .v (.pointer none), .v (.int .u64 0)]
theorem tZ121 : ya Tryz.prog 121 z121 := ⟨.agg #[.pointer none, .pointer none, .int .u64 0], by kernel_rfl, by kernel_rfl⟩
abbrev eOf (c : Int) (l : List ByteArray) : AV := errOf 79 110 c l
abbrev eM (f : Fl) : AV := errM 79 110 f
def tyE : List ByteArray → Value
  | [] => (.iface 159 (.agg #[(.pointer (some ⟨3, 79, none⟩))]))
  | _ :: _ => (.iface 159 (.agg #[(.pointer (some ⟨3, 110, none⟩))]))
theorem inv0_raw {v r : Value} {name : String} (hp : plain v = true) (hr : plain r = true) (h : ∀ w, (callMethod v name #[]).run Tryz.prog w = .ok (.value r) w) : ∀ w I u, Rep w I (.v v) u → ∃ x, (callMethod u name #[]).run Tryz.prog w = .ok (.value x) w ∧ Rep w I (.v r) x :=
  fun w I u k => by rw [wT k hp]; exact ⟨r, h w, yg w I hr⟩
theorem inv1_raw {v z r : Value} {name : String} (hp : plain v = true) (hz : plain z = true) (hr : plain r = true) (h : ∀ w, (callMethod v name #[z]).run Tryz.prog w = .ok (.value r) w) : ∀ w I u y, Rep w I (.v v) u → Rep w I (.v z) y → ∃ x, (callMethod u name #[y]).run Tryz.prog w = .ok (.value x) w ∧ Rep w I (.v r) x :=
  fun w I u y k k2 => by rw [wT k hp, wT k2 hz]; exact ⟨r, h w, yg w I hr⟩
theorem typeOf_e (c : Int) (l : List ByteArray) : ∀ w I vs, yD w I [eOf c l] vs → ∃ v, (callFunc 63 (List.toArray vs)).run Tryz.prog w = .ok (.value v) w ∧ Rep w I (.v (tyE l)) v := by
  intro w I vs h
  simp only [yD] at h
  obtain ⟨k, r, rfl, h1, rfl⟩ := h
  cases l with
  | nil => obtain ⟨u, e, _⟩ := rep_ifc (w := w) (I := I) (T := 79) ⟨k, h1, rfl⟩; exact ⟨_, by rw [show mkV (eOf c []) k = .iface 79 u from e]; exact fO79 u w, yg w I rfl⟩
  | cons p ps => obtain ⟨u, e, _⟩ := rep_ifc (w := w) (I := I) (T := 110) ⟨k, h1, rfl⟩; exact ⟨_, by rw [show mkV (eOf c (p :: ps)) k = .iface 110 u from e]; exact fO110 u w, yg w I rfl⟩
theorem asB_e (l : List ByteArray) : ∀ w I u y, Rep w I (.v (tyE l)) u → Rep w I (.v (.iface 159 (.agg #[(.pointer (some ⟨3, 79, none⟩))]))) y → ∃ x, (callMethod u "AssignableTo" #[y]).run Tryz.prog w = .ok (.value x) w ∧ Rep w I (bv (l.isEmpty)) x := by
  cases l with
  | nil => exact inv1_raw (v := (.iface 159 (.agg #[(.pointer (some ⟨3, 79, none⟩))]))) rfl rfl rfl fA79_79
  | cons p ps => exact inv1_raw (v := (.iface 159 (.agg #[(.pointer (some ⟨3, 110, none⟩))]))) rfl rfl rfl fA110_79
theorem asW_e (l : List ByteArray) : ∀ w I u y, Rep w I (.v (tyE l)) u → Rep w I (.v (.iface 159 (.agg #[(.pointer (some ⟨3, 110, none⟩))]))) y → ∃ x, (callMethod u "AssignableTo" #[y]).run Tryz.prog w = .ok (.value x) w ∧ Rep w I (bv (!l.isEmpty)) x := by
  cases l with
  | nil => exact inv1_raw (v := (.iface 159 (.agg #[(.pointer (some ⟨3, 79, none⟩))]))) rfl rfl rfl fA79_110
  | cons p ps => exact inv1_raw (v := (.iface 159 (.agg #[(.pointer (some ⟨3, 110, none⟩))]))) rfl rfl rfl fA110_110
theorem fnew_c (c : Int) : zj Tryz.prog Γ0 25 [iv c] [eM (c, [])] := by
  refine zb Tryz.func25 rfl Tryz.ntmps25 (by kernel_rfl) rfl fun w0 I0 G0 => ?_
  refine zD <| zB <| g_u (zE rfl rfl) <| zF <| zA <| zD <| zD <| zB <| g_u (zC rfl rfl) <| g_u (yn rfl rfl rfl) <| zF <| zA ?_
  refine zN rfl (fun hb1 => ?_) (fun hb1 => ?_)
  · have q : c = 0 := beq_iff_eq.1 hb1
    refine zD <| zB <| g_u (zE rfl rfl) <| zF <| zA <| zJ <| zK ?_
    exact ⟨⟨(rfl : toAV (Al.look _ _) = some _).trans (congrArg some (by (rw [show eM (c, []) = _ from wH (f := (c, [])) q]))), rfl⟩, trivial⟩
  · have q : ¬ c = 0 := beq_eq_false_iff_ne.1 hb1
    refine zO <| zA <| zD <| zB <| g_u (zC rfl rfl) <| g_u (y9 rfl tU83 us83 pl83 rfl rfl rfl rfl) <| g_uG (zi 1007 rfl rfl rfl rfl) rfl <| g_u (s_makeIfaceS rfl rfl rfl rfl rfl nI79) <| g_u (zE rfl rfl) <| zF <| zA <| zJ ?_
    exact ⟨⟨(rfl : toAV (Al.look _ _) = some _).trans (congrArg some (by (rw [show eM (c, []) = _ from errM_pos (f := (c, [])) q]; rfl))), rfl⟩, trivial⟩
theorem finN_c (p : ByteArray) : zj Tryz.prog Γ0 27 [sv p, .v .nilIface] [.v .nilIface] := by
  refine zb Tryz.func27 rfl Tryz.ntmps27 (by kernel_rfl) rfl fun w0 I0 G0 => ?_
  refine zD <| zB <| g_u (zE rfl rfl) <| zF <| zA <| zD <| zD <| zB <| g_u (zC rfl rfl) <| g_u (s_eqNN rfl rfl Tryz.underlying28) <| zF <| zA <| zk rfl <| zD <| zB <| g_u (zE rfl rfl) <| zF <| zA <| zJ <| zK ?_
  exact ⟨⟨(rfl : toAV (Al.look _ _) = some _).trans (congrArg some (by rfl)), rfl⟩, trivial⟩
theorem finP_c (p : ByteArray) (c : Int) (l : List ByteArray) : zj Tryz.prog Γ0 27 [sv p, eOf c l] [eOf c (p :: l)] := by
  refine zb Tryz.func27 rfl Tryz.ntmps27 (by kernel_rfl) rfl fun w0 I0 G0 => ?_
  refine zD <| zB <| g_u (zE rfl rfl) <| zF <| zA <| zD <| zD <| zB <| g_u (zC rfl rfl) <| g_u (s_eqNI' rfl rfl (wG _ _ _ _) rfl Tryz.underlying28) <| zF <| zA <| zd rfl <| zO <| zA <| zD <| zB <| g_u (zC rfl rfl) <| g_u (zC rfl rfl) <| g_u (y9 rfl tU112 us112 pl112 rfl rfl rfl rfl) <| g_uG (zi 1010 rfl rfl rfl rfl) rfl <| g_u (s_makeIfaceS rfl rfl rfl rfl rfl nI110) <| g_u (zE rfl rfl) <| zF <| zA <| zJ ?_
  exact ⟨⟨(rfl : toAV (Al.look _ _) = some _).trans (congrArg some (by rfl)), rfl⟩, trivial⟩
theorem fin_c (p : ByteArray) (f : Fl) : zj Tryz.prog Γ0 27 [sv p, eM f] [eM (f.1, p :: f.2)] := by
  by_cases h : f.1 = 0
  · rw [show eM f = _ from wH h, show eM (f.1, p :: f.2) = _ from wH (f := (f.1, p :: f.2)) h]; exact finN_c p
  · rw [show eM f = _ from errM_pos h, show eM (f.1, p :: f.2) = _ from errM_pos (f := (f.1, p :: f.2)) h]; exact finP_c p f.1 f.2
theorem unwrap_c (p : ByteArray) (c : Int) (l : List ByteArray) : zj Tryz.prog Γ0 247 [.cp (.agg [sv p, eOf c l])] [eOf c l] := by
  refine zb Tryz.func247 rfl Tryz.ntmps247 (by kernel_rfl) rfl fun w0 I0 G0 => ?_
  refine zD <| zB <| g_u (zE rfl rfl) <| zF <| zA <| zD <| zB <| g_u (zC rfl rfl) <| g_u (wu rfl rfl) <| g_u (zY rfl rfl fa112_1 rfl rfl) <| g_u (zW rfl rfl tA28 tS28 rfl rfl) <| g_u (zE rfl rfl) <| zF <| zA <| zJ ?_
  exact ⟨⟨(rfl : toAV (Al.look _ _) = some _).trans (congrArg some (by rfl)), rfl⟩, trivial⟩
set_option maxHeartbeats 4000000 in
theorem asB_c (c : Int) (l : List ByteArray) (x : AV) (hx : x.width = 1) : wj Tryz.prog Γ0 59 [.imm (eOf c l), .ifp 81 100001 0, refV (.pointer (some ⟨3, 81, none⟩)) 100002 (.int .u64 150), .imm (.v (.iface 159 (.agg #[(.pointer (some ⟨3, 79, none⟩))])))] [(100001, .box 79 (.imm x)), (100002, .box 81 (.ptr 100001 0))] (.imm (bv true)) [(100001, .box 79 (.imm (.cp (.agg [iv c])))), (100002, .box 81 (.ptr 100001 0))] := by
  have hX : Nat.beq (SV.width (.imm x)) 1 = true := by show Nat.beq x.width 1 = true; rw [hx]; rfl
  refine yi (rs := [.imm (bv true)]) Tryz.func59 rfl Tryz.ntmps59 (by kernel_rfl) rfl rfl rfl rfl rfl fun w0 I0 G0 E => ?_
  refine zD <| zB <| g_uG (s_box 1006 rfl rfl rfl rfl rfl rfl) rfl <| g_u (zE rfl rfl) <| zF <| zA <| zQ ?_
  refine zs (fun l : List ByteArray => [(0, .imm (eOf c l)), (1, .ifp 81 100001 0), (3, .imm (.v (.iface 159 (.agg #[(.pointer (some ⟨3, 79, none⟩))])))), (6, .ptr 1006 0), (1006, .box 121 (refV (.pointer (some ⟨3, 81, none⟩)) 100002 (.int .u64 150))), (100001, .box 79 (.imm x)), (100002, .box 81 (.ptr 100001 0))]) (fun _ => True) (fun l => l.length) (l) ?_ ⟨rfl, rfl, rfl, rfl, rfl, rfl, rfl, trivial⟩ ?_
  · trivial
  · rintro l -
    refine zQ <| zD <| zD <| zB <| g_u (zC rfl rfl) <| g_u (s_extV rfl rfl (typeOf_e c _)) <| g_u (zC rfl rfl) <| g_u (s_inv1 rfl rfl rfl (asB_e _)) <| zF <| zA ?_
    refine zN rfl (fun hb1 => ?_) (fun hb1 => ?_)
    · obtain rfl : l = [] := List.isEmpty_iff.1 hb1
      refine zD <| zB <| g_u (yq rfl rfl rfl tA121 tS121 rfl rfl rfl) <| g_u (s_elemV rfl rfl rfl rfl rfl rfl rfl fE81) <| g_u (zC rfl rfl) <| g_uG (s_valueOfC 1023 rfl rfl rfl rfl rfl rfl fV79) rfl ?_
      refine g_u (s_setV rfl rfl rfl rfl rfl rfl (by first | rfl | exact hX) tS79 rfl rfl rfl rfl fS79) ?_
      refine zF <| zA <| zD <| zB <| g_u (zE rfl rfl) <| zF <| zA <| zJ <| zK <| ze <| zK <| ze ?_
      exact ⟨⟨.inl ⟨_, rfl, ⟨(rfl : toAV (Al.look _ _) = some _).trans (congrArg some (by rfl)), rfl⟩⟩, trivial⟩, ⟨rfl, rfl, trivial⟩⟩
    · obtain ⟨p, ps, rfl⟩ : ∃ p ps, l = p :: ps := by cases l with | nil => exact absurd hb1 (by decide) | cons p ps => exact ⟨p, ps, rfl⟩
      refine zO <| zA <| zD <| zD <| zB <| g_u (zC rfl rfl) <| g_u (s_hasNo rfl rfl (hs110_163)) <| g_u (s_mv_tup rfl rfl) <| g_u (zh rfl rfl rfl rfl) <| g_u (zh rfl rfl rfl rfl) <| g_u (zE rfl rfl) <| g_u (zE rfl rfl) <| zF <| zA <| zD <| zB <| g_u (zC rfl rfl) <| g_u (zC rfl rfl) <| zI rfl rfl rfl <| zI rfl rfl rfl <| zI rfl rfl rfl <| g_u (zg rfl rfl rfl) <| zF <| zA <| zd rfl <| zO <| zA <| zD <| zB <| g_u (zC rfl rfl) <| zF <| zA <| zQ <| zD <| zB <| g_u (s_hasYes rfl rfl (hs110_166)) <| g_u (zh rfl rfl rfl rfl) <| g_u (zh rfl rfl rfl rfl) <| zF <| zA <| zk rfl <| zD <| zB <| g_u (zE rfl rfl) <| zF <| zA <| zD <| zB <| g_u (zC rfl rfl) <| g_u (s_invC (unwrap_c p c ps) rfl rfl mu110) <| g_u (zE rfl rfl) <| zF <| zA <| zD <| zB <| g_u (zC rfl rfl) <| g_u (s_eqNI' rfl rfl (wG _ _ _ _) rfl Tryz.underlying28) <| zF <| zA <| zd rfl <| zO <| zM <| zM <| zA ?_
      refine ⟨ps, trivial, ⟨rfl, rfl, rfl, rfl, rfl, rfl, rfl, trivial⟩, by simp⟩
set_option maxHeartbeats 4000000 in
theorem asW_c (c : Int) (p : ByteArray) (ps : List ByteArray) (x : AV) (hx : x.width = 1) : wj Tryz.prog Γ0 59 [.imm (eOf c (p :: ps)), .ifp 130 100001 0, refV (.pointer (some ⟨3, 130, none⟩)) 100002 (.int .u64 150), .imm (.v (.iface 159 (.agg #[(.pointer (some ⟨3, 110, none⟩))])))] [(100001, .box 110 (.imm x)), (100002, .box 130 (.ptr 100001 0))] (.imm (bv true)) [(100001, .box 110 (.imm (.cp (.agg [sv p, eOf c ps])))), (100002, .box 130 (.ptr 100001 0))] := by
  have hX : Nat.beq (SV.width (.imm x)) 1 = true := by show Nat.beq x.width 1 = true; rw [hx]; rfl
  refine yi (rs := [.imm (bv true)]) Tryz.func59 rfl Tryz.ntmps59 (by kernel_rfl) rfl rfl rfl rfl rfl fun w0 I0 G0 E => ?_
  refine zD <| zB <| g_uG (s_box 1006 rfl rfl rfl rfl rfl rfl) rfl <| g_u (zE rfl rfl) <| zF <| zA <| zQ ?_
  refine zs (fun l : List ByteArray => [(0, .imm (eOf c l)), (1, .ifp 130 100001 0), (3, .imm (.v (.iface 159 (.agg #[(.pointer (some ⟨3, 110, none⟩))])))), (6, .ptr 1006 0), (1006, .box 121 (refV (.pointer (some ⟨3, 130, none⟩)) 100002 (.int .u64 150))), (100001, .box 110 (.imm x)), (100002, .box 130 (.ptr 100001 0))]) (fun l => l = (p :: ps)) (fun l => l.length) ((p :: ps)) ?_ ⟨rfl, rfl, rfl, rfl, rfl, rfl, rfl, trivial⟩ ?_
  · rfl
  · rintro l rfl
    refine zQ <| zD <| zD <| zB <| g_u (zC rfl rfl) <| g_u (s_extV rfl rfl (typeOf_e c _)) <| g_u (zC rfl rfl) <| g_u (s_inv1 rfl rfl rfl (asW_e _)) <| zF <| zA ?_
    refine zN rfl (fun hb1 => ?_) (fun hb1 => ?_)
    · refine zD ?_
      refine zB <| g_u (yq rfl rfl rfl tA121 tS121 rfl rfl rfl) <| g_u (s_elemV rfl rfl rfl rfl rfl rfl rfl fE130) <| g_u (zC rfl rfl) <| g_uG (s_valueOfC 1023 rfl rfl rfl rfl rfl rfl fV110) rfl ?_
      refine g_u (s_setV rfl rfl rfl rfl rfl rfl (by first | rfl | exact hX) tS110 rfl rfl rfl rfl fS110) ?_
      refine zF <| zA <| zD <| zB <| g_u (zE rfl rfl) <| zF <| zA <| zJ <| zK <| ze <| zK <| ze ?_
      exact ⟨⟨.inl ⟨_, rfl, ⟨(rfl : toAV (Al.look _ _) = some _).trans (congrArg some (by rfl)), rfl⟩⟩, trivial⟩, ⟨rfl, rfl, trivial⟩⟩
    · exact killT hb1 ((by rfl))
set_option maxHeartbeats 4000000 in
theorem asW0_c (c : Int) (x : AV) : wj Tryz.prog Γ0 59 [.imm (eOf c []), .ifp 130 100001 0, refV (.pointer (some ⟨3, 130, none⟩)) 100002 (.int .u64 150), .imm (.v (.iface 159 (.agg #[(.pointer (some ⟨3, 110, none⟩))])))] [(100001, .box 110 (.imm x)), (100002, .box 130 (.ptr 100001 0))] (.imm (bv false)) [(100001, .box 110 (.imm x)), (100002, .box 130 (.ptr 100001 0))] := by
  refine yi (rs := [.imm (bv false)]) Tryz.func59 rfl Tryz.ntmps59 (by kernel_rfl) rfl rfl rfl rfl rfl fun w0 I0 G0 E => ?_
  refine zD <| zB <| g_uG (s_box 1006 rfl rfl rfl rfl rfl rfl) rfl <| g_u (zE rfl rfl) <| zF <| zA <| zQ ?_
  refine zs (fun l : List ByteArray => [(0, .imm (eOf c l)), (1, .ifp 130 100001 0), (3, .imm (.v (.iface 159 (.agg #[(.pointer (some ⟨3, 110, none⟩))])))), (6, .ptr 1006 0), (1006, .box 121 (refV (.pointer (some ⟨3, 130, none⟩)) 100002 (.int .u64 150))), (100001, .box 110 (.imm x)), (100002, .box 130 (.ptr 100001 0))]) (fun l => l = []) (fun l => l.length) ([]) ?_ ⟨rfl, rfl, rfl, rfl, rfl, rfl, rfl, trivial⟩ ?_
  · rfl
  · rintro l rfl
    refine zQ <| zD <| zD <| zB <| g_u (zC rfl rfl) <| g_u (s_extV rfl rfl (typeOf_e c _)) <| g_u (zC rfl rfl) <| g_u (s_inv1 rfl rfl rfl (asW_e _)) <| zF <| zA ?_
    refine zN rfl (fun hb1 => ?_) (fun hb1 => ?_)
    · exact killF hb1 ((by rfl))
    · refine zO ?_
      refine zA <| zD <| zD <| zB <| g_u (zC rfl rfl) <| g_u (s_hasNo rfl rfl (hs79_163)) <| g_u (s_mv_tup rfl rfl) <| g_u (zh rfl rfl rfl rfl) <| g_u (zh rfl rfl rfl rfl) <| g_u (zE rfl rfl) <| g_u (zE rfl rfl) <| zF <| zA <| zD <| zB <| g_u (zC rfl rfl) <| g_u (zC rfl rfl) <| zI rfl rfl rfl <| zI rfl rfl rfl <| zI rfl rfl rfl <| g_u (zg rfl rfl rfl) <| zF <| zA <| zd rfl <| zO <| zA <| zD <| zB <| g_u (zC rfl rfl) <| zF <| zA <| zQ <| zD <| zB <| g_u (s_hasNo rfl rfl (hs79_166)) <| g_u (zh rfl rfl rfl rfl) <| g_u (zh rfl rfl rfl rfl) <| zF <| zA <| zd rfl <| zD <| zB <| g_u (s_hasNo rfl rfl (hs79_168)) <| g_u (zh rfl rfl rfl rfl) <| g_u (zh rfl rfl rfl rfl) <| zF <| zA <| zd rfl <| zD <| zB <| g_u (zE rfl rfl) <| zF <| zA <| zD <| zB <| g_u (zE rfl rfl) <| zF <| zA <| zJ <| ze <| ze <| zK <| ze ?_
      exact ⟨⟨.inl ⟨_, rfl, ⟨(rfl : toAV (Al.look _ _) = some _).trans (congrArg some (by rfl)), rfl⟩⟩, trivial⟩, ⟨rfl, rfl, trivial⟩⟩
set_option maxHeartbeats 4000000 in
theorem AsB_c (c : Int) (l : List ByteArray) (x : AV) (hx : x.width = 1) : wj Tryz.prog Γ0 34 [.imm (eOf c l), .ifp 81 100001 0] [(100001, .box 79 (.imm x))] (.imm (bv true)) [(100001, .box 79 (.imm (.cp (.agg [iv c]))))] := by
  refine yi (rs := [.imm (bv true)]) Tryz.func34 rfl Tryz.ntmps34 (by kernel_rfl) rfl rfl rfl rfl rfl fun w0 I0 G0 E => ?_
  refine zD <| zB <| g_u (zE rfl rfl) <| zF <| zA <| zD <| zD <| zB <| g_u (zC rfl rfl) <| g_u (s_eqNI' rfl rfl (wG _ _ _ _) rfl Tryz.underlying28) <| zF <| zA <| zd rfl <| zO <| zA <| zD <| zD <| zB <| g_u (xX rfl rfl) <| g_u (s_eqNP rfl rfl rfl Tryz.underlying20) <| zF <| zA <| zd rfl <| zO <| zA <| zD <| zB <| g_u (xX rfl rfl) <| g_uG (s_valueOfP 1014 rfl rfl rfl rfl rfl rfl rfl fV81) rfl <| g_uG (zo 1005 rfl rfl rfl tZ121) rfl <| g_u (vL rfl rfl rfl rfl tS121 rfl rfl) <| zF <| zA <| zD <| zB <| g_u (yq rfl rfl rfl tA121 tS121 rfl rfl rfl) <| g_u (s_refRaw rfl rfl rfl rfl rfl fT81) <| g_u (zE rfl rfl) <| zF <| zA <| zD <| zD <| zB <| g_u (zC rfl rfl) <| g_u (s_inv0 rfl rfl (inv0_raw (v := (.iface 159 (.agg #[(.pointer (some ⟨3, 81, none⟩))]))) rfl rfl fK81)) <| g_u (xG rfl rfl rfl) <| g_u (zC rfl rfl) <| zz (t := 20) rfl ?_
  rintro (hb1 | hb1)
  · exact killF hb1 ((by rfl))
  · rw [hb1]
    refine zP rfl rfl (yq rfl rfl rfl tA121 tS121 rfl rfl rfl) <| zP rfl rfl (s_isNilV rfl rfl rfl rfl rfl fN81) <| g_u (zg rfl rfl rfl) <| zF <| zA <| zd rfl <| zO <| zA <| zD <| zB <| g_u (zC rfl rfl) <| g_u (s_inv0 rfl rfl (inv0_raw (v := (.iface 159 (.agg #[(.pointer (some ⟨3, 81, none⟩))]))) rfl rfl fL81)) <| g_u (zE rfl rfl) <| zF <| zA <| zD <| zD <| zB <| g_u (zC rfl rfl) <| g_u (s_inv0 rfl rfl (inv0_raw (v := (.iface 159 (.agg #[(.pointer (some ⟨3, 79, none⟩))]))) rfl rfl fK79)) <| g_u (xG rfl rfl rfl) <| g_u (zC rfl rfl) <| zz (t := 30) rfl ?_
    rintro (hb2 | hb2)
    · rw [hb2]
      refine zP rfl rfl (zC rfl rfl) <| zP rfl rfl (s_loadGlob rfl rfl rfl tA124 tS124) <| zP rfl rfl (s_inv1 rfl rfl rfl (inv1_raw (v := (.iface 159 (.agg #[(.pointer (some ⟨3, 79, none⟩))]))) (z := (.iface 159 (.agg #[(.pointer (some ⟨3, 28, none⟩))]))) rfl rfl rfl fI79)) <| zP rfl rfl (s_not rfl rfl) <| g_u (zX rfl rfl rfl) <| zF <| zA ?_
      refine zN rfl (fun hb3 => ?_) (fun hb3 => ?_)
      · exact killF hb3 ((by rfl))
      · refine zO ?_
        refine zA <| zD <| zB <| g_u (zC rfl rfl) <| g_u (xX rfl rfl) <| g_u (yq rfl rfl rfl tA121 tS121 rfl rfl rfl) <| g_u (zC rfl rfl) <| g_uG (xA [(100001, 100001), (100002, 1014)] (asB_c c l x hx) rfl rfl ⟨.inl rfl, .inl rfl, .inl rfl, .inl rfl, trivial⟩ ⟨rfl, rfl, trivial⟩ rfl rfl rfl) rfl <| g_u (zE rfl rfl) <| zF <| zA <| zJ ?_
        exact ⟨⟨.inl ⟨_, rfl, ⟨(rfl : toAV (Al.look _ _) = some _).trans (congrArg some (by rfl)), rfl⟩⟩, trivial⟩, ⟨rfl, trivial⟩⟩
    · exact killT hb2 ((by rfl))
set_option maxHeartbeats 4000000 in
theorem AsW_c (c : Int) (p : ByteArray) (ps : List ByteArray) (x : AV) (hx : x.width = 1) : wj Tryz.prog Γ0 34 [.imm (eOf c (p :: ps)), .ifp 130 100001 0] [(100001, .box 110 (.imm x))] (.imm (bv true)) [(100001, .box 110 (.imm (.cp (.agg [sv p, eOf c ps]))))] := by
  refine yi (rs := [.imm (bv true)]) Tryz.func34 rfl Tryz.ntmps34 (by kernel_rfl) rfl rfl rfl rfl rfl fun w0 I0 G0 E => ?_
  refine zD <| zB <| g_u (zE rfl rfl) <| zF <| zA <| zD <| zD <| zB <| g_u (zC rfl rfl) <| g_u (s_eqNI' rfl rfl (wG _ _ _ _) rfl Tryz.underlying28) <| zF <| zA <| zd rfl <| zO <| zA <| zD <| zD <| zB <| g_u (xX rfl rfl) <| g_u (s_eqNP rfl rfl rfl Tryz.underlying20) <| zF <| zA <| zd rfl <| zO <| zA <| zD <| zB <| g_u (xX rfl rfl) <| g_uG (s_valueOfP 1014 rfl rfl rfl rfl rfl rfl rfl fV130) rfl <| g_uG (zo 1005 rfl rfl rfl tZ121) rfl <| g_u (vL rfl rfl rfl rfl tS121 rfl rfl) <| zF <| zA <| zD <| zB <| g_u (yq rfl rfl rfl tA121 tS121 rfl rfl rfl) <| g_u (s_refRaw rfl rfl rfl rfl rfl fT130) <| g_u (zE rfl rfl) <| zF <| zA <| zD <| zD <| zB <| g_u (zC rfl rfl) <| g_u (s_inv0 rfl rfl (inv0_raw (v := (.iface 159 (.agg #[(.pointer (some ⟨3, 130, none⟩))]))) rfl rfl fK130)) <| g_u (xG rfl rfl rfl) <| g_u (zC rfl rfl) <| zz (t := 20) rfl ?_
  rintro (hb1 | hb1)
  · exact killF hb1 ((by rfl))
  · rw [hb1]
    refine zP rfl rfl (yq rfl rfl rfl tA121 tS121 rfl rfl rfl) <| zP rfl rfl (s_isNilV rfl rfl rfl rfl rfl fN130) <| g_u (zg rfl rfl rfl) <| zF <| zA <| zd rfl <| zO <| zA <| zD <| zB <| g_u (zC rfl rfl) <| g_u (s_inv0 rfl rfl (inv0_raw (v := (.iface 159 (.agg #[(.pointer (some ⟨3, 130, none⟩))]))) rfl rfl fL130)) <| g_u (zE rfl rfl) <| zF <| zA <| zD <| zD <| zB <| g_u (zC rfl rfl) <| g_u (s_inv0 rfl rfl (inv0_raw (v := (.iface 159 (.agg #[(.pointer (some ⟨3, 110, none⟩))]))) rfl rfl fK110)) <| g_u (xG rfl rfl rfl) <| g_u (zC rfl rfl) <| zz (t := 30) rfl ?_
    rintro (hb2 | hb2)
    · rw [hb2]
      refine zP rfl rfl (zC rfl rfl) <| zP rfl rfl (s_loadGlob rfl rfl rfl tA124 tS124) <| zP rfl rfl (s_inv1 rfl rfl rfl (inv1_raw (v := (.iface 159 (.agg #[(.pointer (some ⟨3, 110, none⟩))]))) (z := (.iface 159 (.agg #[(.pointer (some ⟨3, 28, none⟩))]))) rfl rfl rfl fI110)) <| zP rfl rfl (s_not rfl rfl) <| g_u (zX rfl rfl rfl) <| zF <| zA ?_
      refine zN rfl (fun hb3 => ?_) (fun hb3 => ?_)
      · exact killF hb3 ((by rfl))
      · refine zO ?_
        refine zA <| zD <| zB <| g_u (zC rfl rfl) <| g_u (xX rfl rfl) <| g_u (yq rfl rfl rfl tA121 tS121 rfl rfl rfl) <| g_u (zC rfl rfl) <| g_uG (xA [(100001, 100001), (100002, 1014)] (asW_c c p ps x hx) rfl rfl ⟨.inl rfl, .inl rfl, .inl rfl, .inl rfl, trivial⟩ ⟨rfl, rfl, trivial⟩ rfl rfl rfl) rfl <| g_u (zE rfl rfl) <| zF <| zA <| zJ ?_
        exact ⟨⟨.inl ⟨_, rfl, ⟨(rfl : toAV (Al.look _ _) = some _).trans (congrArg some (by rfl)), rfl⟩⟩, trivial⟩, ⟨rfl, trivial⟩⟩
    · exact killT hb2 ((by rfl))
set_option maxHeartbeats 4000000 in
theorem AsW0_c (c : Int) (x : AV) : wj Tryz.prog Γ0 34 [.imm (eOf c []), .ifp 130 100001 0] [(100001, .box 110 (.imm x))] (.imm (bv false)) [(100001, .box 110 (.imm x))] := by
  refine yi (rs := [.imm (bv false)]) Tryz.func34 rfl Tryz.ntmps34 (by kernel_rfl) rfl rfl rfl rfl rfl fun w0 I0 G0 E => ?_
  refine zD <| zB <| g_u (zE rfl rfl) <| zF <| zA <| zD <| zD <| zB <| g_u (zC rfl rfl) <| g_u (s_eqNI' rfl rfl (wG _ _ _ _) rfl Tryz.underlying28) <| zF <| zA <| zd rfl <| zO <| zA <| zD <| zD <| zB <| g_u (xX rfl rfl) <| g_u (s_eqNP rfl rfl rfl Tryz.underlying20) <| zF <| zA <| zd rfl <| zO <| zA <| zD <| zB <| g_u (xX rfl rfl) <| g_uG (s_valueOfP 1014 rfl rfl rfl rfl rfl rfl rfl fV130) rfl <| g_uG (zo 1005 rfl rfl rfl tZ121) rfl <| g_u (vL rfl rfl rfl rfl tS121 rfl rfl) <| zF <| zA <| zD <| zB <| g_u (yq rfl rfl rfl tA121 tS121 rfl rfl rfl) <| g_u (s_refRaw rfl rfl rfl rfl rfl fT130) <| g_u (zE rfl rfl) <| zF <| zA <| zD <| zD <| zB <| g_u (zC rfl rfl) <| g_u (s_inv0 rfl rfl (inv0_raw (v := (.iface 159 (.agg #[(.pointer (some ⟨3, 130, none⟩))]))) rfl rfl fK130)) <| g_u (xG rfl rfl rfl) <| g_u (zC rfl rfl) <| zz (t := 20) rfl ?_
  rintro (hb1 | hb1)
  · exact killF hb1 ((by rfl))
  · rw [hb1]
    refine zP rfl rfl (yq rfl rfl rfl tA121 tS121 rfl rfl rfl) <| zP rfl rfl (s_isNilV rfl rfl rfl rfl rfl fN130) <| g_u (zg rfl rfl rfl) <| zF <| zA <| zd rfl <| zO <| zA <| zD <| zB <| g_u (zC rfl rfl) <| g_u (s_inv0 rfl rfl (inv0_raw (v := (.iface 159 (.agg #[(.pointer (some ⟨3, 130, none⟩))]))) rfl rfl fL130)) <| g_u (zE rfl rfl) <| zF <| zA <| zD <| zD <| zB <| g_u (zC rfl rfl) <| g_u (s_inv0 rfl rfl (inv0_raw (v := (.iface 159 (.agg #[(.pointer (some ⟨3, 110, none⟩))]))) rfl rfl fK110)) <| g_u (xG rfl rfl rfl) <| g_u (zC rfl rfl) <| zz (t := 30) rfl ?_
    rintro (hb2 | hb2)
    · rw [hb2]
      refine zP rfl rfl (zC rfl rfl) <| zP rfl rfl (s_loadGlob rfl rfl rfl tA124 tS124) <| zP rfl rfl (s_inv1 rfl rfl rfl (inv1_raw (v := (.iface 159 (.agg #[(.pointer (some ⟨3, 110, none⟩))]))) (z := (.iface 159 (.agg #[(.pointer (some ⟨3, 28, none⟩))]))) rfl rfl rfl fI110)) <| zP rfl rfl (s_not rfl rfl) <| g_u (zX rfl rfl rfl) <| zF <| zA ?_
      refine zN rfl (fun hb3 => ?_) (fun hb3 => ?_)
      · exact killF hb3 ((by rfl))
      · refine zO ?_
        refine zA <| zD <| zB <| g_u (zC rfl rfl) <| g_u (xX rfl rfl) <| g_u (yq rfl rfl rfl tA121 tS121 rfl rfl rfl) <| g_u (zC rfl rfl) <| g_uG (xA [(100001, 100001), (100002, 1014)] (asW0_c c x) rfl rfl ⟨.inl rfl, .inl rfl, .inl rfl, .inl rfl, trivial⟩ ⟨rfl, rfl, trivial⟩ rfl rfl rfl) rfl <| g_u (zE rfl rfl) <| zF <| zA <| zJ ?_
        exact ⟨⟨.inl ⟨_, rfl, ⟨(rfl : toAV (Al.look _ _) = some _).trans (congrArg some (by rfl)), rfl⟩⟩, trivial⟩, ⟨rfl, trivial⟩⟩
    · exact killT hb2 ((by rfl))
theorem AsBn_c (x : AV) : wj Tryz.prog Γ0 34 [.imm (.v .nilIface), .ifp 81 100001 0] [(100001, .box 79 (.imm x))] (.imm (bv false)) [(100001, .box 79 (.imm x))] := by
  refine yi (rs := [.imm (bv false)]) Tryz.func34 rfl Tryz.ntmps34 (by kernel_rfl) rfl rfl rfl rfl rfl fun w0 I0 G0 E => ?_
  refine zD <| zB <| g_u (zE rfl rfl) <| zF <| zA <| zD <| zD <| zB <| g_u (zC rfl rfl) <| g_u (s_eqNN rfl rfl Tryz.underlying28) <| zF <| zA <| zk rfl <| zD <| zB <| g_u (zE rfl rfl) <| zF <| zA <| zJ <| zK ?_
  exact ⟨⟨.inl ⟨_, rfl, ⟨(rfl : toAV (Al.look _ _) = some _).trans (congrArg some (by rfl)), rfl⟩⟩, trivial⟩, ⟨rfl, trivial⟩⟩
theorem foP_c (c : Int) (l : List ByteArray) : zj Tryz.prog Γ0 11 [eOf c l] [iv c] := by
  refine zb Tryz.func11 rfl Tryz.ntmps11 (by kernel_rfl) rfl fun w0 I0 G0 => ?_
  refine zD <| zB <| g_u (zE rfl rfl) <| zF <| zA <| zD <| zB <| g_uG (zo 1003 rfl rfl rfl tZ79) rfl <| zF <| zA <| zD <| zD <| zB <| g_u (zC rfl rfl) <| g_u (s_makeIfp rfl rfl nI81) <| g_uG (xA [(100001, 1003)] (AsB_c c l z79 rfl) rfl rfl ⟨.inl rfl, .inl rfl, trivial⟩ ⟨rfl, trivial⟩ rfl rfl rfl) rfl <| zF <| zA <| zk rfl <| zD <| zB <| g_u (zH rfl rfl rfl tA79 tS79 rfl rfl) <| g_u (wu rfl rfl) <| g_u (zY rfl rfl fa83_0 rfl rfl) <| g_u (zW rfl rfl tA30 tS30 rfl rfl) <| g_u (zE rfl rfl) <| zF <| zA <| zJ <| zK ?_
  exact ⟨⟨(rfl : toAV (Al.look _ _) = some _).trans (congrArg some (by rfl)), rfl⟩, trivial⟩
theorem foN_c : zj Tryz.prog Γ0 11 [.v .nilIface] [iv 0] := by
  refine zb Tryz.func11 rfl Tryz.ntmps11 (by kernel_rfl) rfl fun w0 I0 G0 => ?_
  refine zD <| zB <| g_u (zE rfl rfl) <| zF <| zA <| zD <| zB <| g_uG (zo 1003 rfl rfl rfl tZ79) rfl <| zF <| zA <| zD <| zD <| zB <| g_u (zC rfl rfl) <| g_u (s_makeIfp rfl rfl nI81) <| g_uG (xA [(100001, 1003)] (AsBn_c z79) rfl rfl ⟨.inl rfl, .inl rfl, trivial⟩ ⟨rfl, trivial⟩ rfl rfl rfl) rfl <| zF <| zA <| zd rfl <| zO <| zA <| zD <| zB <| g_u (zE rfl rfl) <| zF <| zA <| zJ ?_
  exact ⟨⟨(rfl : toAV (Al.look _ _) = some _).trans (congrArg some (by rfl)), rfl⟩, trivial⟩
theorem fof_c (c : Int) (l : List ByteArray) : zj Tryz.prog Γ0 11 [eM (c, l)] [iv c] := by
  by_cases h : c = 0
  · rw [show eM (c, l) = _ from wH (f := (c, l)) h, h]; exact foN_c
  · rw [show eM (c, l) = _ from errM_pos (f := (c, l)) h]; exact foP_c c l
set_option maxHeartbeats 4000000 in
theorem fpP_c (c : Int) (l0 : List ByteArray) (hl : l0.length ≤ 1000000) : zj Tryz.prog Γ0 35 [eOf c l0] [.sl 1 (l0.map fun x => sv x)] := by
  refine zb Tryz.func35 rfl Tryz.ntmps35 (by kernel_rfl) rfl fun w0 I0 G0 => ?_
  refine zD <| zB <| g_u (zE rfl rfl) <| zF <| zA <| zD <| zB <| g_u (zE rfl rfl) <| zF <| zA <| zD <| aw_newtok 3003 3 1 rfl rfl rfl rfl <| zB <| g_uG (zo 1004 rfl rfl rfl tZ110) rfl <| zF <| zA <| zD <| zQ ?_
  refine zs (fun j : Nat × List ByteArray × AV => [(0, .imm (eOf c j.2.1)), (3, .slg 3003 1 ((l0.take j.1).map fun x => sv x)), (3003, .tok 1 ((l0.take j.1).map fun x => sv x)), (4, .ptr 1004 0), (1004, .box 110 (.imm j.2.2))]) (fun j => j.1 ≤ l0.length ∧ j.2.1 = l0.drop j.1 ∧ j.2.2.width = 1) (fun j => j.2.1.length) (⟨0, l0, z110⟩) ?_ ⟨rfl, rfl, rfl, rfl, rfl, trivial⟩ ?_
  · exact ⟨Nat.zero_le _, rfl, rfl⟩
  · rintro ⟨k, l, x⟩ ⟨h1, h2, h3⟩; dsimp only at h1 h2 h3
    refine zD <| zD ?_
    rcases l with _ | ⟨p, ps⟩
    · refine zB ?_
      refine g_u (zC rfl rfl) <| g_u (s_makeIfp rfl rfl nI130) <| g_uG (xA [(100001, 1004)] (AsW0_c c x) rfl rfl ⟨.inl rfl, .inl rfl, trivial⟩ ⟨rfl, trivial⟩ rfl rfl rfl) rfl <| zF <| zA <| zd rfl <| zv <| zU <| zU <| zp <| zA <| zD <| zB <| g_u (yN rfl rfl) <| g_u (yQ rfl rfl) <| zF <| zA <| zJ ?_
      exact ⟨⟨(rfl : toAV (Al.look _ _) = some _).trans (congrArg some (by (have hk0 : l0.length ≤ k := (by have e := congrArg List.length h2; simp only [List.length_nil, List.length_drop] at e; omega); show AV.sl 1 (List.map _ (List.take k l0)) = _; rw [List.take_of_length_le hk0]))), rfl⟩, trivial⟩
    · refine zB ?_
      refine g_u (zC rfl rfl) <| g_u (s_makeIfp rfl rfl nI130) <| g_uG (xA [(100001, 1004)] (AsW_c c p ps x h3) rfl rfl ⟨.inl rfl, .inl rfl, trivial⟩ ⟨rfl, trivial⟩ rfl rfl rfl) rfl <| zF <| zA <| zk rfl <| zO <| zA <| zQ <| zD <| zB <| g_u (yN rfl rfl) <| g_u (zH rfl rfl rfl tA110 tS110 rfl rfl) <| g_u (wu rfl rfl) <| g_u (zY rfl rfl fa112_0 rfl rfl) <| g_u (zW rfl rfl tA9 tS9 rfl rfl) <| g_u (zu (X0 := z9) rfl Tryz.underlying31 tS9 tZ9 rfl rfl rfl rfl rfl rfl rfl rfl) ?_
      refine g_u (yW rfl rfl rfl rfl rfl Tryz.underlying31 Tryz.underlying31 tS9 zv9 rfl (by decide) by9 (by (try dsimp only); simp only [List.length_append, List.length_cons, List.length_nil, List.length_map, List.length_take]; omega) (by (try dsimp only); simp only [List.length_append, List.length_cons, List.length_nil, List.length_map, List.length_take]; omega)) ?_
      refine g_u (yQ rfl rfl) <| zF <| zA <| zB <| g_u (zH rfl rfl rfl tA110 tS110 rfl rfl) <| g_u (wu rfl rfl) <| g_u (zY rfl rfl fa112_1 rfl rfl) <| g_u (zW rfl rfl tA28 tS28 rfl rfl) <| g_u (zE rfl rfl) <| zF <| zM <| zA ?_
      have hk : k < l0.length := by have e := congrArg List.length h2; simp only [List.length_cons, List.length_drop] at e; omega
      have ed := yz (d := (⟨#[]⟩ : ByteArray)) hk
      rw [← h2] at ed
      have ep := (List.cons.inj ed).1
      have et : ((l0.take (k + 1)).map fun x => sv x) = ((l0.take k).map fun x => sv x) ++ [sv p] := by rw [yS (xI (d := (⟨#[]⟩ : ByteArray)) hk), List.map_append, ← ep]; rfl
      refine ⟨⟨k + 1, ps, .cp (.agg [sv p, eOf c ps])⟩, ⟨hk, (List.cons.inj ed).2, rfl⟩, ⟨rfl, wx rfl et.symm, xZ rfl et.symm, rfl, rfl, trivial⟩, by (try dsimp only); simp⟩
theorem pathB_mono (l : List ByteArray) (i : Nat) : (wD (l.take i)).length ≤ (wD l).length := by
  conv => rhs; rw [← List.take_append_drop i l]
  rw [pathB_app, List.length_append]; omega
theorem path_step {l : List ByteArray} {i : Nat} (h : i < l.length) : yT (wD (l.take (i + 1))) = yT (wD (l.take i)) ++ (nth l i ⟨#[]⟩ ++ ⟨#[58, 32]⟩) := by
  rw [pathB_take h, ← wh, ← wh, strOf_lst]; rfl
set_option maxHeartbeats 4000000 in
theorem ftP_c (c : Int) (l : List ByteArray) (h0 : c ≠ 0) (hl : l.length ≤ 1000000) (hs : (wD l).length ≤ 9000000000000000000) (hc : -9223372036854775808 ≤ c ∧ c < 9223372036854775808) : zj Tryz.prog Γ0 12 [eOf c l] [sv (textF (c, l))] := by
  refine zb Tryz.func12 rfl Tryz.ntmps12 (by kernel_rfl) rfl fun w0 I0 G0 => ?_
  refine zD <| zB <| g_u (zE rfl rfl) <| zF <| zA <| zD <| zD <| zB <| g_u (zC rfl rfl) <| g_u (s_eqNI' rfl rfl (wG _ _ _ _) rfl Tryz.underlying28) <| zF <| zA <| zd rfl <| zO <| zA <| zD <| zB <| g_u (zE rfl rfl) <| zF <| zA <| zD <| zD <| zB <| g_u (zC rfl rfl) <| g_u (zT (fpP_c c l hl) rfl rfl) <| g_u (zx rfl rfl Tryz.underlying31) <| g_u (zC rfl rfl) <| zF <| zA <| zQ ?_
  refine zs (fun i : Nat => [(0, .imm (eOf c l)), (3, .imm (sv (yT (wD (l.take i))))), (9, .imm (.sl 1 (l.map fun x => sv x))), (10, .imm (iv (l.length : Int))), (11, .imm (iv (i : Int)))]) (fun i => i ≤ l.length) (fun i => l.length - i) (0) ?_ ⟨rfl, rfl, rfl, zV rfl (by rw [List.length_map]), rfl, trivial⟩ ?_
  · exact Nat.zero_le _
  · rintro i h1; have h1 : i ≤ l.length := h1
    refine zD <| zB <| g_u (yU rfl rfl rfl) <| zF <| zA <| zD ?_
    refine zN rfl (fun hb1 => ?_) (fun hb1 => ?_)
    · have hi : i < l.length := by have := of_decide_eq_true hb1; (try simp only [List.length_map] at this); omega
      have hq : (wD (l.take i)).length + (nth l i ⟨#[]⟩).size + 2 ≤ 9000000000000000000 := by have q := pathB_take hi; have q2 := congrArg List.length q; have q3 := pathB_mono l (i + 1); simp only [List.length_append, List.length_cons, List.length_nil, yV] at q2; omega
      refine zO <| zA <| zD <| zQ <| zD <| zB ?_
      refine g_u (za rfl rfl rfl Tryz.underlying31 tS9 (by omega) (ixStr hi)) ?_
      refine g_u (zW rfl rfl tA9 tS9 rfl rfl) <| g_u (zE rfl rfl) <| zF <| zA <| zB <| g_u (zC rfl rfl) <| g_u (zC rfl rfl) ?_
      refine g_u (s_catS rfl rfl rfl (by first | exact (by show _ ≤ (9223372036854775807 : Int); have q1 := hq; have q2 : (ByteArray.mk #[58, 32]).size = 2 := rfl; have q3 : (yT (wD (l.take i))).size = (wD (l.take i)).length := z7 _; (try dsimp only); (try simp only [xC]); omega) | exact (by show _ ≤ (9223372036854775807 : Int); have q1 := decB_length c; have q3 : (yT (wD (l.take i))).size = (wD (l.take i)).length := z7 _; have q4 : (yT (decB c)).size = (decB c).length := z7 _; have q5 : (yT ([] ++ decB c)).size = (decB c).length := z7 _; rw [hin, List.take_length] at q3; (try dsimp only); (try simp only [xC]); (try rw [hin, List.take_length]); omega))) ?_
      refine g_u (s_catS rfl rfl rfl (by first | exact (by show _ ≤ (9223372036854775807 : Int); have q1 := hq; have q2 : (ByteArray.mk #[58, 32]).size = 2 := rfl; have q3 : (yT (wD (l.take i))).size = (wD (l.take i)).length := z7 _; (try dsimp only); (try simp only [xC]); omega) | exact (by show _ ≤ (9223372036854775807 : Int); have q1 := decB_length c; have q3 : (yT (wD (l.take i))).size = (wD (l.take i)).length := z7 _; have q4 : (yT (decB c)).size = (decB c).length := z7 _; have q5 : (yT ([] ++ decB c)).size = (decB c).length := z7 _; rw [hin, List.take_length] at q3; (try dsimp only); (try simp only [xC]); (try rw [hin, List.take_length]); omega))) ?_
      refine g_u (zE rfl rfl) <| zF <| zM <| zA <| zB <| g_u (yB rfl rfl rfl) <| g_u (zC rfl rfl) <| zF <| zA ?_
      have et := path_step hi
      refine ⟨i + 1, hi, ⟨rfl, (by rw [et]; rfl), rfl, rfl, zV rfl (by rw [zZ (by omega) (by omega)]; rfl), trivial⟩, by (try dsimp only); omega⟩
    · have hin : i = l.length := by have := of_decide_eq_false hb1; (try simp only [List.length_map] at this); omega
      refine zv <| zU <| zU <| zp <| zA <| zD <| zB <| g_u (zC rfl rfl) <| g_u (zC rfl rfl) <| g_u (zT (foP_c c l) rfl rfl) ?_
      refine g_u (zT (nil1 (n := 1) (dput_c [] c hc (by simp))) rfl rfl) ?_
      refine g_u (s_cvBS' (rfl) rfl rfl Tryz.underlying85 Tryz.underlying9 Tryz.underlying5) ?_
      refine g_u (s_catS rfl rfl rfl (by first | exact (by show _ ≤ (9223372036854775807 : Int); have q1 := hq; have q2 : (ByteArray.mk #[58, 32]).size = 2 := rfl; have q3 : (yT (wD (l.take i))).size = (wD (l.take i)).length := z7 _; (try dsimp only); (try simp only [xC]); omega) | exact (by show _ ≤ (9223372036854775807 : Int); have q1 := decB_length c; have q3 : (yT (wD (l.take i))).size = (wD (l.take i)).length := z7 _; have q4 : (yT (decB c)).size = (decB c).length := z7 _; have q5 : (yT ([] ++ decB c)).size = (decB c).length := z7 _; rw [hin, List.take_length] at q3; (try dsimp only); (try simp only [xC]); (try rw [hin, List.take_length]); omega))) ?_
      refine g_u (zE rfl rfl) <| zF <| zA <| zJ ?_
      exact ⟨⟨(rfl : toAV (Al.look _ _) = some _).trans (congrArg some (by (rw [hin, List.take_length]; show _ = sv (if c = 0 then _ else _); rw [if_neg h0, ← wh]; rfl))), rfl⟩, trivial⟩
theorem ftN_c : zj Tryz.prog Γ0 12 [.v .nilIface] [sv ⟨#[]⟩] := by
  refine zb Tryz.func12 rfl Tryz.ntmps12 (by kernel_rfl) rfl fun w0 I0 G0 => ?_
  refine zD <| zB <| g_u (zE rfl rfl) <| zF <| zA <| zD <| zD <| zB <| g_u (zC rfl rfl) <| g_u (s_eqNN rfl rfl Tryz.underlying28) <| zF <| zA <| zk rfl <| zD <| zB <| g_u (zE rfl rfl) <| zF <| zA <| zJ <| zK ?_
  exact ⟨⟨(rfl : toAV (Al.look _ _) = some _).trans (congrArg some (by rfl)), rfl⟩, trivial⟩
theorem ftext_c (c : Int) (l : List ByteArray) (hl : l.length ≤ 1000000) (hs : (wD l).length ≤ 9000000000000000000) (hc : -9223372036854775808 ≤ c ∧ c < 9223372036854775808) : zj Tryz.prog Γ0 12 [eM (c, l)] [sv (textF (c, l))] := by
  by_cases h : c = 0
  · rw [show eM (c, l) = _ from wH (f := (c, l)) h, show textF (c, l) = ⟨#[]⟩ from if_pos h]; exact ftN_c
  · rw [show eM (c, l) = _ from errM_pos (f := (c, l)) h]; exact ftP_c c l h hl hs hc
end Go.Proofs
namespace Go.Proofs
open Go Go.Al
set_option maxRecDepth 10000
theorem bareIs_c (c k : Int) : wj Tryz.prog Γ0 245 [.imm (.cp (.agg [iv c])), .ifp 79 100001 0] [(100001, .box 83 (.imm (.agg [iv k])))] (.imm (bv (k == c))) [(100001, .box 83 (.imm (.agg [iv k])))] := by
  refine yi (rs := [(.imm (bv (k == c)))]) Tryz.func245 rfl Tryz.ntmps245 (by kernel_rfl) rfl rfl rfl rfl rfl fun w0 I0 G0 E => ?_
  refine zD <| zB <| g_u (zE rfl rfl) <| zF <| zA <| zD <| zB <| g_u (xX rfl rfl) <| g_u (s_assertP rfl rfl nI79) <| g_u (s_mv_tup rfl rfl) <| g_u (zh rfl rfl rfl rfl) <| g_u (zh rfl rfl rfl rfl) <| g_u (s_as_ptr rfl rfl) <| g_u (zE rfl rfl) <| zF <| zA <| zD <| yw mixed <| g_u (zC rfl rfl) <| g_u (zC rfl rfl) <| zP rfl rfl (s_mv_ptr rfl rfl) <| zP rfl rfl (s_nePN rfl rfl rfl Tryz.underlying79) <| g_u (zX rfl rfl rfl) <| g_u (zC rfl rfl) <| zP rfl rfl (s_mv_ptr rfl rfl) <| zP rfl rfl (s_nilCheck_ptr rfl rfl) <| zP rfl rfl (zG rfl rfl fa83_0 rfl) <| zP rfl rfl (zH rfl rfl rfl tA30 tS30 rfl rfl) <| zP rfl rfl (zC rfl rfl) <| zP rfl rfl (wu rfl rfl) <| zP rfl rfl (zY rfl rfl fa83_0 rfl rfl) <| zP rfl rfl (zW rfl rfl tA30 tS30 rfl rfl) <| zP rfl rfl (yn rfl rfl rfl) <| g_u (zX rfl rfl rfl) <| g_u (zE rfl rfl) ?_
  refine zF ⟨by kernel_rfl, ?_⟩
  refine zA <| zJ ?_
  exact ⟨⟨.inl ⟨_, rfl, ⟨(rfl : toAV (Al.look _ _) = some _).trans (congrArg some (by rfl)), rfl⟩⟩, trivial⟩, ⟨rfl, trivial⟩⟩
set_option maxHeartbeats 4000000 in
theorem eis_c (c k : Int) (l0 : List ByteArray) : wj Tryz.prog Γ0 64 [.imm (eOf c l0), .ifp 79 100001 0, .imm (bv true)] [(100001, .box 83 (.imm (.agg [iv k])))] (.imm (bv (k == c))) [(100001, .box 83 (.imm (.agg [iv k])))] := by
  refine yi (rs := [(.imm (bv (k == c)))]) Tryz.func64 rfl Tryz.ntmps64 (by kernel_rfl) rfl rfl rfl rfl rfl fun w0 I0 G0 E => ?_
  refine zD <| zB <| g_u (zE rfl rfl) <| zF <| zA <| zQ ?_
  refine zs (fun l : List ByteArray => [(0, .imm (eOf c l)), (1, .ifp 79 100001 0), (2, .imm (bv true)), (100001, .box 83 (.imm (.agg [iv k])))]) (fun _ => True) (fun l => l.length) (l0) ?_ ⟨rfl, rfl, rfl, rfl, trivial⟩ ?_
  · trivial
  · rintro l -
    refine zQ <| zD <| zD <| zB <| g_u (zC rfl rfl) <| g_u (zC rfl rfl) <| zP rfl rfl (zC rfl rfl) <| zP rfl rfl (xX rfl rfl) ?_
    refine zP rfl rfl (s_eqIP rfl rfl rfl rfl (by first | rfl | exact errB_w _ _ _ _) rfl Tryz.underlying28 Tryz.underlying79 pi79) ?_
    refine g_u (zX rfl rfl rfl) <| zF <| zA <| zd rfl <| zO <| zA <| zD <| zD ?_
    rcases l with _ | ⟨p, ps⟩
    · refine zB ?_
      refine g_u (zC rfl rfl) <| g_u (s_hasYes rfl rfl (hs79_172)) <| g_u (s_mv_tup rfl rfl) <| g_u (zh rfl rfl rfl rfl) <| g_u (zh rfl rfl rfl rfl) <| g_u (zE rfl rfl) <| g_u (zE rfl rfl) <| zF <| zA <| zD <| zB <| g_u (zC rfl rfl) <| g_u (zC rfl rfl) <| zP rfl rfl (zC rfl rfl) <| zP rfl rfl (xX rfl rfl) <| g_runG rfl rfl (s_mcallM [(100001, 100001)] (bareIs_c c k) mi79 rfl rfl rfl ⟨.inl rfl, .inl rfl, trivial⟩ ⟨rfl, trivial⟩ rfl rfl rfl) rfl <| g_u (zX rfl rfl rfl) <| zF <| zA ?_
      refine zN rfl (fun hb1 => ?_) (fun hb1 => ?_)
      · have q : (k == c) = true := hb1
        refine zD <| zB <| g_u (zE rfl rfl) <| zF <| zA <| zJ <| zK <| ze <| zK <| ze ?_
        exact ⟨⟨.inl ⟨_, rfl, ⟨(rfl : toAV (Al.look _ _) = some _).trans (congrArg some (by (rw [q]))), rfl⟩⟩, trivial⟩, ⟨rfl, trivial⟩⟩
      · have q : (k == c) = false := hb1
        refine zO <| zA <| zD <| zB <| g_u (zC rfl rfl) <| zF <| zA <| zQ <| zD <| zB <| g_u (s_hasNo rfl rfl (hs79_166)) <| g_u (zh rfl rfl rfl rfl) <| g_u (zh rfl rfl rfl rfl) <| zF <| zA <| zd rfl <| zD <| zB <| g_u (s_hasNo rfl rfl (hs79_168)) <| g_u (zh rfl rfl rfl rfl) <| g_u (zh rfl rfl rfl rfl) <| zF <| zA <| zd rfl <| zD <| zB <| g_u (zE rfl rfl) <| zF <| zA <| zD <| zB <| g_u (zE rfl rfl) <| zF <| zA <| zJ <| ze <| ze <| zK <| ze ?_
        exact ⟨⟨.inl ⟨_, rfl, ⟨(rfl : toAV (Al.look _ _) = some _).trans (congrArg some (by (rw [q]))), rfl⟩⟩, trivial⟩, ⟨rfl, trivial⟩⟩
    · refine zB ?_
      refine g_u (zC rfl rfl) <| g_u (s_hasNo rfl rfl (hs110_172)) <| g_u (s_mv_tup rfl rfl) <| g_u (zh rfl rfl rfl rfl) <| g_u (zh rfl rfl rfl rfl) <| g_u (zE rfl rfl) <| g_u (zE rfl rfl) <| zF <| zA <| zD <| zB <| g_u (zC rfl rfl) <| g_u (zC rfl rfl) <| zI rfl rfl rfl <| zI rfl rfl rfl <| zI rfl rfl rfl <| g_u (zg rfl rfl rfl) <| zF <| zA <| zd rfl <| zO <| zA <| zD <| zB <| g_u (zC rfl rfl) <| zF <| zA <| zQ <| zD <| zB <| g_u (s_hasYes rfl rfl (hs110_166)) <| g_u (zh rfl rfl rfl rfl) <| g_u (zh rfl rfl rfl rfl) <| zF <| zA <| zk rfl <| zD <| zB <| g_u (zE rfl rfl) <| zF <| zA <| zD <| zB <| g_u (zC rfl rfl) <| g_u (s_invC (unwrap_c p c ps) rfl rfl mu110) <| g_u (zE rfl rfl) <| zF <| zA <| zD <| zB <| g_u (zC rfl rfl) <| g_u (s_eqNI' rfl rfl (wG _ _ _ _) rfl Tryz.underlying28) <| zF <| zA <| zd rfl <| zO <| zM <| zM <| zA ?_
      refine ⟨ps, trivial, ⟨rfl, rfl, rfl, rfl, trivial⟩, by simp⟩
set_option maxHeartbeats 4000000 in
theorem eIs_c (c k : Int) (l : List ByteArray) : wj Tryz.prog Γ0 38 [.imm (eOf c l), .ifp 79 100001 0] [(100001, .box 83 (.imm (.agg [iv k])))] (.imm (bv (k == c))) [(100001, .box 83 (.imm (.agg [iv k])))] := by
  refine yi (rs := [(.imm (bv (k == c)))]) Tryz.func38 rfl Tryz.ntmps38 (by kernel_rfl) rfl rfl rfl rfl rfl fun w0 I0 G0 E => ?_
  refine zD <| zB <| g_u (zE rfl rfl) <| zF <| zA <| zD <| zD <| zB <| g_u (zC rfl rfl) <| g_u (s_eqNI' rfl rfl (wG _ _ _ _) rfl Tryz.underlying28) <| g_u (zC rfl rfl) <| zP rfl rfl (xX rfl rfl) <| zP rfl rfl (s_eqNP rfl rfl rfl Tryz.underlying28) <| g_u (zg rfl rfl rfl) <| zF <| zA <| zd rfl <| zO <| zA <| zD <| zB <| g_u (xX rfl rfl) <| g_u (s_extP rfl rfl rfl fO79) <| g_u (s_inv0 rfl rfl (inv0_raw (v := (.iface 159 (.agg #[(.pointer (some ⟨3, 79, none⟩))]))) rfl rfl fC79)) <| g_u (zE rfl rfl) <| zF <| zA <| zD <| zB <| g_u (zC rfl rfl) <| g_u (xX rfl rfl) <| g_u (zC rfl rfl) <| g_uG (xA [(100001, 100001)] (eis_c c k l) rfl rfl ⟨.inl rfl, .inl rfl, .inl rfl, trivial⟩ ⟨rfl, trivial⟩ rfl rfl rfl) rfl <| g_u (zE rfl rfl) <| zF <| zA <| zJ ?_
  exact ⟨⟨.inl ⟨_, rfl, ⟨(rfl : toAV (Al.look _ _) = some _).trans (congrArg some (by rfl)), rfl⟩⟩, trivial⟩, ⟨rfl, trivial⟩⟩
end Go.Proofs
namespace Go.Al
open Go.RowKit
section
variable {C : Cx} {A : Nat → SV} {d : Nat} {ty : TypeId} {pos : String} {af : Array Edge} {gd : Option (Nat × Bool)} {x y : Operand} {T T' : TypeId}
open Go.Proofs in
theorem s_neM {Tb Tw : Nat} {f : Fl} {p : Array (String × TypeId)} (hN : Nat.blt d C.N = true) (hx : opV A x = some (errM Tb Tw f)) (hT : C.P.underlying T = some (.interface p)) :
    zf C ⟨some d, .binOp .neq T x (.const .nilIface) T', ty, pos, af, gd⟩ (opR x) [] A [(d, .imm (.v (.bool (!(f.1 == 0)))))] := by
  by_cases h : f.1 = 0
  · rw [wH h] at hx
    have e : (!(f.1 == 0)) = false := by simp [h]
    rw [e]; exact s_neNN hN hx hT
  · rw [errM_pos h] at hx
    have e : (!(f.1 == 0)) = true := by simp [h]
    have k := s_neNI' (C := C) (A := A) (ty := ty) (pos := pos) (af := af) (gd := gd) (T' := T') (y := .const .nilIface) hN hx (wG _ _ _ _) rfl hT
    rw [show opR x ++ opR (.const .nilIface) = opR x from List.append_nil _] at k
    rw [e]; exact k
open Go.Proofs in
theorem s_eqM {Tb Tw : Nat} {f : Fl} {p : Array (String × TypeId)} (hN : Nat.blt d C.N = true) (hx : opV A x = some (errM Tb Tw f)) (hT : C.P.underlying T = some (.interface p)) :
    zf C ⟨some d, .binOp .eql T x (.const .nilIface) T', ty, pos, af, gd⟩ (opR x) [] A [(d, .imm (.v (.bool (f.1 == 0))))] := by
  by_cases h : f.1 = 0
  · rw [wH h] at hx
    have e : (f.1 == 0) = true := by simp [h]
    rw [e]; exact s_eqNN hN hx hT
  · rw [errM_pos h] at hx
    have e : (f.1 == 0) = false := by simp [h]
    have k := s_eqNI' (C := C) (A := A) (ty := ty) (pos := pos) (af := af) (gd := gd) (T' := T') (y := .const .nilIface) hN hx (wG _ _ _ _) rfl hT
    rw [show opR x ++ opR (.const .nilIface) = opR x from List.append_nil _] at k
    rw [e]; exact k
end
end Go.Al
namespace Go.Proofs
open Go Go.Al
def nm2 (s : GScope) (i : Nat) : ByteArray := if i = 0 then s.name else s.version
theorem nm2_get {s : GScope} {i : Nat} (h : i < 2) : [sv s.name, sv s.version][((i : Nat) : Int).toNat]? = some (sv (nm2 s i)) := by
  match i, h with
  | 0, _ => rfl
  | 1, _ => rfl
theorem vs1 {s : GScope} {i : Nat} (hi : i < 2) (h : 0 < i → yt s.name = 0) (hn : yt (nm2 s i) ≠ 0) : xW s = (yt (nm2 s i), []) := by
  match i, hi with
  | 0, _ => exact scopeF_1 hn
  | 1, _ => exact scopeF_2 (h (by decide)) hn
theorem vs3 {s : GScope} {i : Nat} (h1 : yt s.name = 0) (h2 : yt s.version = 0) (h : spansF 0 s.spans = spansF i (s.spans.drop i)) (hi : i < s.spans.length) (hn : spanOk (nthS s.spans i) ≠ 0) : xW s = (spanOk (nthS s.spans i), [partM kSpan i]) := by
  rw [scopeF_3 h1 h2, h, spansF_drop hi, if_neg hn]
theorem vs4 {s : GScope} (h1 : yt s.name = 0) (h2 : yt s.version = 0) (h : spansF 0 s.spans = (0, [])) : xW s = (0, []) := by rw [scopeF_3 h1 h2, h]
theorem vr1 {r : GRes} (h : yZ r.attrs ≠ 0) : resF r = (yZ r.attrs, []) := if_pos h
theorem vr2 {r : GRes} (h1 : yZ r.attrs = 0) (h : 16 < r.scopes.length) : resF r = (34, []) := by unfold resF; rw [if_neg (by omega), if_pos h]
theorem vr3 {r : GRes} {i : Nat} (h1 : yZ r.attrs = 0) (h2 : ¬ 16 < r.scopes.length) (h : wN 0 r.scopes = wN i (r.scopes.drop i)) (hi : i < r.scopes.length) (hn : (xW (nthC r.scopes i)).1 ≠ 0) : resF r = ((xW (nthC r.scopes i)).1, partM kScope i :: (xW (nthC r.scopes i)).2) := by
  rw [resF_3 h1 h2, h, scopesF_drop hi, if_neg hn]
theorem vr4 {r : GRes} (h1 : yZ r.attrs = 0) (h2 : ¬ 16 < r.scopes.length) (h : wN 0 r.scopes = (0, [])) : resF r = (0, []) := by rw [resF_3 h1 h2, h]
theorem vk2 {b : List GRes} {i : Nat} (h1 : ¬ 32 < b.length) (h : ressF 0 b = ressF i (b.drop i)) (hi : i < b.length) (hn : (resF (nthR b i)).1 ≠ 0) : chkF b = ((resF (nthR b i)).1, partM kRes i :: (resF (nthR b i)).2) := by
  have e : ressF 0 b = ((resF (nthR b i)).1, partM kRes i :: (resF (nthR b i)).2) := by rw [h, ressF_drop hi, if_neg hn]
  unfold chkF
  rw [if_neg h1, e, if_pos hn]
theorem ress_ris {b : List GRes} (h : ressF 0 b = (0, [])) : ∀ r ∈ b, risA none r.attrs := fun r hr => (attrsC_iff.1 (ressF_iff.1 (by rw [h]) r hr).1).2.1
end Go.Proofs
namespace Go.Proofs
open Go Go.Al
set_option maxRecDepth 10000
theorem vat_c (k : ByteArray) (n : Nat) (hk : k.size ≤ 100) (hn : n ≤ 1000000000) : zj Tryz.prog Γ0 28 [sv k, iv (n : Int)] [sv (partM k n)] := by
  have hz : (k ++ ⟨#[32]⟩).size ≤ 101 := by rw [ByteArray.size_append]; have h2 : (ByteArray.mk #[32]).size = 1 := rfl; omega
  refine zb Tryz.func28 rfl Tryz.ntmps28 (by kernel_rfl) rfl fun w0 I0 G0 => ?_
  refine zD <| zB <| g_u (zE rfl rfl) <| zF <| zA <| zD <| zB <| g_u (zC rfl rfl) ?_
  refine g_u (s_catS rfl rfl rfl (by show _ ≤ (9223372036854775807 : Int); have h2 : (ByteArray.mk #[32]).size = 1 := rfl; (try dsimp only); omega)) ?_
  refine g_u (s_cvSB rfl rfl Tryz.underlying9 Tryz.underlying85 Tryz.underlying5 (by unfold maxLen; omega)) ?_
  refine g_u (zC rfl rfl) ?_
  refine g_u (zT (dput_c (lst (k ++ ⟨#[32]⟩)) (n : Int) ⟨by omega, by omega⟩ (by rw [yV]; omega)) rfl rfl) ?_
  refine g_u (s_cvBS' (rfl) rfl rfl Tryz.underlying85 Tryz.underlying9 Tryz.underlying5) <| g_u (zE rfl rfl) <| zF <| zA <| zJ ?_
  exact ⟨⟨(rfl : toAV (Al.look _ _) = some _).trans (congrArg some (by (exact congrArg sv (part_cat2 k n)))), rfl⟩, trivial⟩
set_option maxHeartbeats 4000000 in
theorem vscope_c (s : GScope) (ho : s.ok) (hw : s.wt ≤ 1000000) : zj Tryz.prog Γ0 50 [s.av] [eM (xW s)] := by
  have qw : s.wt = 1 + s.name.size + s.version.size + zr GSpan.wt s.spans := rfl
  have ql := yJ GSpan.wt (fun e => by unfold GSpan.wt; omega) s.spans
  refine zb Tryz.func50 rfl Tryz.ntmps50 (by kernel_rfl) rfl fun w0 I0 G0 => ?_
  refine zD <| zB <| g_uG (zi 1001 rfl rfl rfl rfl) rfl <| g_u (zE rfl rfl) <| zF <| zA <| zD <| zD <| zB <| g_u (zG rfl rfl fa55_0 rfl) <| g_u (zH rfl rfl rfl tA9 tS9 rfl rfl) <| g_u (zG rfl rfl fa55_1 rfl) <| g_u (zH rfl rfl rfl tA9 tS9 rfl rfl) <| g_u (wV rfl tU151 Tryz.underlying151 tS9 rfl rfl rfl rfl) <| g_u (zC rfl rfl) <| zF <| zA <| zQ ?_
  refine zs (fun i : Nat => [(1, .ptr 1001 0), (1001, .box 55 (.imm s.av)), (13, .imm (.agg [sv s.name, sv s.version])), (14, .imm (iv (i : Int)))]) (fun i => i ≤ 2 ∧ (0 < i → yt s.name = 0) ∧ (1 < i → yt s.version = 0)) (fun i => 2 - i) (0) ?_ ⟨rfl, rfl, rfl, rfl, trivial⟩ ?_
  · exact ⟨by omega, fun h => by omega, fun h => by omega⟩
  · rintro i ⟨h1, h2, h3⟩; (try dsimp only at h1 h2 h3)
    refine zD <| zB <| g_u (yU rfl rfl rfl) <| zF <| zA <| zD ?_
    refine zN rfl (fun hb1 => ?_) (fun hb1 => ?_)
    · have hi : i < 2 := by have := of_decide_eq_true hb1; omega
      have hsz : (nm2 s i).size ≤ 1000000 := by unfold nm2; split <;> omega
      refine zO <| zA <| zD <| zQ <| zD <| zB ?_
      refine g_u (s_ixG rfl rfl rfl Tryz.underlying151 tS9 tA9 (by first | rfl | decide) ⟨by omega, by omega⟩ (nm2_get hi) rfl) ?_
      refine g_u (zE rfl rfl) <| zF <| zA <| zD <| zB <| g_u (zC rfl rfl) ?_
      refine g_u (zT (spanName_c _ (by omega)) rfl rfl) ?_
      refine g_u (zE rfl rfl) <| zF <| zA <| zD <| zB <| g_u (zC rfl rfl) <| g_u (xG rfl rfl rfl) <| zF <| zA ?_
      refine zN rfl (fun hb2 => ?_) (fun hb2 => ?_)
      · have hz : yt (nm2 s i) ≠ 0 := qc.1 hb2
        refine zD <| zB <| g_u (zC rfl rfl) <| g_u (zT (fnew_c _) rfl rfl) <| g_u (zE rfl rfl) <| zF <| zA <| zJ <| ze <| zK <| zK <| ze <| zK ?_
        exact ⟨⟨(rfl : toAV (Al.look _ _) = some _).trans (congrArg some (by (rw [show eM (xW s) = eM _ from congrArg eM (vs1 hi h2 hz)]))), rfl⟩, trivial⟩
      · have hz : yt (nm2 s i) = 0 := qd.1 hb2
        refine zO <| zM <| zA <| zB <| g_u (yB rfl rfl rfl) <| g_u (zC rfl rfl) <| zF <| zA ?_
        refine ⟨i + 1, ⟨hi, fun _ => ?_, fun h => ?_⟩, ⟨rfl, rfl, rfl, zV rfl (by rw [zZ (by omega) (by omega)]; rfl), trivial⟩, by (try dsimp only); omega⟩
        · rcases Nat.eq_zero_or_pos i with hi0 | hi0
          · subst hi0; exact hz
          · exact h2 hi0
        · obtain rfl : i = 1 := by (try dsimp only at h); omega
          exact hz
    · have hin : i = 2 := by have := of_decide_eq_false hb1; omega
      have q1 := h2 (by omega)
      have q2 := h3 (by omega)
      refine zv <| zU <| zU <| zp <| zA <| zD <| zD <| zB <| g_u (zG rfl rfl fa55_2 rfl) <| g_u (zH rfl rfl rfl tA53 tS53 rfl rfl) <| g_u (zx rfl rfl Tryz.underlying53) <| g_u (zC rfl rfl) <| zF <| zA <| zQ ?_
      refine zs (fun i : Nat => [(1, .ptr 1001 0), (1001, .box 55 (.imm s.av)), (25, .imm (.sl 42 (s.spans.map GSpan.av))), (26, .imm (iv (s.spans.length : Int))), (27, .imm (iv (i : Int)))]) (fun i => i ≤ s.spans.length ∧ spansF 0 s.spans = spansF i (s.spans.drop i)) (fun i => s.spans.length - i) (0) ?_ ⟨rfl, rfl, rfl, zV rfl (by rw [List.length_map]), rfl, trivial⟩ ?_
      · exact ⟨Nat.zero_le _, rfl⟩
      · rintro i ⟨h1, h2⟩; (try dsimp only at h1 h2)
        refine zD <| zB <| g_u (yU rfl rfl rfl) <| zF <| zA <| zD ?_
        refine zN rfl (fun hb3 => ?_) (fun hb3 => ?_)
        · have hi : i < s.spans.length := by have := of_decide_eq_true hb3; (try simp only [List.length_map] at this); omega
          have hsx := yM GSpan.wt (nthS_mem hi)
          have hso := ho.2.2 _ (nthS_mem hi)
          refine zO <| zA <| zD <| zQ <| zD <| zB <| g_u (zC rfl rfl) ?_
          refine g_u (za rfl rfl rfl Tryz.underlying53 tS52 (by omega) (ixS hi)) ?_
          refine g_u (zW rfl rfl tA52 tS52 rfl (by first | exact xp (GSpan.width _) rfl | rfl)) ?_
          refine g_uG (zo 1007 rfl rfl rfl tZ52) rfl <| g_u (zE rfl rfl) ?_
          refine g_u (zL rfl rfl rfl tS52 (by first | exact beqW (GSpan.width _) | rfl) (by first | exact setS_w (z52_w.trans (GSpan.width _).symm) rfl | rfl)) ?_
          refine zF <| zA <| zD <| zB ?_
          refine g_u (zH rfl rfl rfl tA52 tS52 rfl (by first | exact xp (GSpan.width _) rfl | rfl)) ?_
          refine g_u (zT (spanCheck_c _ hso (by omega)) rfl rfl) ?_
          refine g_u (zE rfl rfl) <| zF <| zA <| zD <| zB <| g_u (zC rfl rfl) <| g_u (xG rfl rfl rfl) <| zF <| zA ?_
          refine zN rfl (fun hb4 => ?_) (fun hb4 => ?_)
          · have hz : spanOk (nthS s.spans i) ≠ 0 := qc.1 hb4
            refine zD <| zB <| g_u (zC rfl rfl) ?_
            refine g_u (zT (vat_c kSpan i (by decide) (by omega)) rfl rfl) ?_
            refine g_u (zC rfl rfl) <| g_u (zT (fnew_c _) rfl rfl) <| g_u (zT (fin_c _ _) rfl rfl) <| g_u (zE rfl rfl) <| zF <| zA <| zJ <| ze <| zK <| zK <| ze <| zK ?_
            exact ⟨⟨(rfl : toAV (Al.look _ _) = some _).trans (congrArg some (by (exact congrArg eM (vs3 q1 q2 h2 hi hz).symm))), rfl⟩, trivial⟩
          · have hz : spanOk (nthS s.spans i) = 0 := qd.1 hb4
            refine zO <| zM <| zA <| zB <| g_u (yB rfl rfl rfl) <| g_u (zC rfl rfl) <| zF <| zA ?_
            refine ⟨i + 1, ⟨hi, by (try dsimp only); rw [h2, spansF_drop hi, if_pos hz]⟩, ⟨rfl, rfl, rfl, rfl, zV rfl (by rw [zZ (by omega) (by omega)]; rfl), trivial⟩, by (try dsimp only); omega⟩
        · have hin : i = s.spans.length := by have := of_decide_eq_false hb3; (try simp only [List.length_map] at this); omega
          refine zv <| zU <| zU <| zp <| zA <| zD <| zB <| g_u (zE rfl rfl) <| zF <| zA <| zJ ?_
          exact ⟨⟨(rfl : toAV (Al.look _ _) = some _).trans (congrArg some (by (rw [show eM (xW s) = _ from wH (by rw [vs4 q1 q2 (by rw [h2, hin, List.drop_length]; rfl)])]))), rfl⟩, trivial⟩
set_option maxHeartbeats 4000000 in
theorem vres_c (r : GRes) (ho : r.ok) (hf : fitR r) : zj Tryz.prog Γ0 26 [r.av] [eM (resF r)] := by
  have hwa := hf.1
  have ql := hf.2.1
  refine zb Tryz.func26 rfl Tryz.ntmps26 (by kernel_rfl) rfl fun w0 I0 G0 => ?_
  refine zD <| zB <| g_uG (zi 1001 rfl rfl rfl rfl) rfl <| g_u (zE rfl rfl) <| zF <| zA <| zD <| zD <| zB <| g_u (zG rfl rfl fa58_0 rfl) <| g_u (zH rfl rfl rfl tA46 tS46 rfl rfl) ?_
  refine g_u (zT (checkAs_c _ ho.1 (by omega)) rfl rfl) ?_
  refine g_u (zE rfl rfl) <| zF <| zA <| zD <| zB <| g_u (zC rfl rfl) <| g_u (xG rfl rfl rfl) <| zF <| zA ?_
  refine zN rfl (fun hb1 => ?_) (fun hb1 => ?_)
  · have q1 : yZ r.attrs ≠ 0 := qc.1 hb1
    refine zD <| zB <| g_u (zC rfl rfl) <| g_u (zT (fnew_c _) rfl rfl) <| g_u (zE rfl rfl) <| zF <| zA <| zJ <| zK ?_
    exact ⟨⟨(rfl : toAV (Al.look _ _) = some _).trans (congrArg some (by (exact congrArg eM (vr1 q1).symm))), rfl⟩, trivial⟩
  · have q1 : yZ r.attrs = 0 := qd.1 hb1
    refine zO <| zA <| zD <| zD <| zB <| g_u (zG rfl rfl wJ rfl) <| g_u (zH rfl rfl rfl tA56 tS56 rfl rfl) <| g_u (zx rfl rfl Tryz.underlying56) <| g_u (wl rfl rfl rfl) <| zF <| zA ?_
    refine zN rfl (fun hb2 => ?_) (fun hb2 => ?_)
    · have q2 : 16 < r.scopes.length := by have := of_decide_eq_true hb2; (try simp only [List.length_map] at this); omega
      refine zD <| zB <| g_u (zT (fnew_c _) rfl rfl) <| g_u (zE rfl rfl) <| zF <| zA <| zJ <| zK ?_
      exact ⟨⟨(rfl : toAV (Al.look _ _) = some _).trans (congrArg some (by (exact congrArg eM (vr2 q1 q2).symm))), rfl⟩, trivial⟩
    · have q2 : ¬ 16 < r.scopes.length := by have := of_decide_eq_false hb2; (try simp only [List.length_map] at this); omega
      refine zO <| zA <| zD <| zD <| zB <| g_u (zG rfl rfl wJ rfl) <| g_u (zH rfl rfl rfl tA56 tS56 rfl rfl) <| g_u (zx rfl rfl Tryz.underlying56) <| g_u (zC rfl rfl) <| zF <| zA <| zQ ?_
      refine zs (fun i : Nat => [(1, .ptr 1001 0), (1001, .box 58 (.imm r.av)), (20, .imm (.sl 3 (r.scopes.map GScope.av))), (21, .imm (iv (r.scopes.length : Int))), (22, .imm (iv (i : Int)))]) (fun i => i ≤ r.scopes.length ∧ wN 0 r.scopes = wN i (r.scopes.drop i)) (fun i => r.scopes.length - i) (0) ?_ ⟨rfl, rfl, rfl, zV rfl (by rw [List.length_map]), rfl, trivial⟩ ?_
      · exact ⟨Nat.zero_le _, rfl⟩
      · rintro i ⟨h1, h2⟩; (try dsimp only at h1 h2)
        refine zD <| zB <| g_u (yU rfl rfl rfl) <| zF <| zA <| zD ?_
        refine zN rfl (fun hb3 => ?_) (fun hb3 => ?_)
        · have hi : i < r.scopes.length := by have := of_decide_eq_true hb3; (try simp only [List.length_map] at this); omega
          have hsx := hf.2.2.2 _ (nthC_mem hi)
          have hso := ho.2 _ (nthC_mem hi)
          refine zO <| zA <| zD <| zQ <| zD <| zB <| g_u (zC rfl rfl) ?_
          refine g_u (za rfl rfl rfl Tryz.underlying56 tS55 (by omega) (ixC hi)) ?_
          refine g_u (zW rfl rfl tA55 tS55 rfl rfl) <| g_uG (zo 1005 rfl rfl rfl tZ55) rfl <| g_u (zE rfl rfl) <| g_u (zL rfl rfl rfl tS55 rfl rfl) <| zF <| zA <| zD <| zB <| g_u (zl rfl rfl rfl tA55 tS55 rfl rfl) ?_
          refine g_u (zT (vscope_c _ hso (by omega)) rfl rfl) ?_
          refine g_u (zE rfl rfl) <| zF <| zA <| zD <| zB <| g_u (zC rfl rfl) <| g_u (s_neM rfl rfl Tryz.underlying28) <| zF <| zA ?_
          refine zN rfl (fun hb4 => ?_) (fun hb4 => ?_)
          · have hz : (xW (nthC r.scopes i)).1 ≠ 0 := by have e := hb4; simpa using e
            refine zD <| zB <| g_u (zC rfl rfl) ?_
            refine g_u (zT (vat_c kScope i (by decide) (by omega)) rfl rfl) ?_
            refine g_u (zC rfl rfl) <| g_u (zT (fin_c _ _) rfl rfl) <| g_u (zE rfl rfl) <| zF <| zA <| zJ <| ze <| zK <| zK <| ze <| zK ?_
            exact ⟨⟨(rfl : toAV (Al.look _ _) = some _).trans (congrArg some (by (exact congrArg eM (vr3 q1 q2 h2 hi hz).symm))), rfl⟩, trivial⟩
          · have hz : (xW (nthC r.scopes i)).1 = 0 := by have e := hb4; simpa using e
            refine zO <| zM <| zA <| zB <| g_u (yB rfl rfl rfl) <| g_u (zC rfl rfl) <| zF <| zA ?_
            refine ⟨i + 1, ⟨hi, by (try dsimp only); rw [h2, scopesF_drop hi, if_pos hz]⟩, ⟨rfl, rfl, rfl, rfl, zV rfl (by rw [zZ (by omega) (by omega)]; rfl), trivial⟩, by (try dsimp only); omega⟩
        · have hin : i = r.scopes.length := by have := of_decide_eq_false hb3; (try simp only [List.length_map] at this); omega
          refine zv <| zU <| zU <| zp <| zA <| zD <| zB <| g_u (zE rfl rfl) <| zF <| zA <| zJ ?_
          exact ⟨⟨(rfl : toAV (Al.look _ _) = some _).trans (congrArg some (by (rw [show eM (resF r) = _ from wH (by rw [vr4 q1 q2 (by rw [h2, hin, List.drop_length]; rfl)])]))), rfl⟩, trivial⟩
set_option maxHeartbeats 4000000 in
theorem vchk_c (b : List GRes) (ho : okB b) (hw : wtB b ≤ 60000) : zj Tryz.prog Γ0 9 [yp b] [eM (chkF b)] := by
  have hf := fitB_small hw
  have qw : wtB b = zr GRes.wt b := rfl
  have ql := yJ GRes.wt (fun e => by unfold GRes.wt; omega) b
  refine zb Tryz.func9 rfl Tryz.ntmps9 (by kernel_rfl) rfl fun w0 I0 G0 => ?_
  refine zD <| zB <| g_uG (zi 1001 rfl rfl rfl rfl) rfl <| g_u (zE rfl rfl) <| zF <| zA <| zD <| zD <| zB <| g_u (zG rfl rfl fa24_0 rfl) <| g_u (zH rfl rfl rfl tA22 tS22 rfl rfl) <| g_u (zx rfl rfl Tryz.underlying22) <| g_u (wl rfl rfl rfl) <| zF <| zA ?_
  refine zN rfl (fun hb1 => ?_) (fun hb1 => ?_)
  · have q1 : 32 < b.length := by have := of_decide_eq_true hb1; (try simp only [List.length_map] at this); omega
    refine zD <| zB <| g_u (zT (fnew_c _) rfl rfl) <| g_u (zE rfl rfl) <| zF <| zA <| zJ <| zK ?_
    exact ⟨⟨(rfl : toAV (Al.look _ _) = some _).trans (congrArg some (by (exact congrArg eM (ck1 q1).symm))), rfl⟩, trivial⟩
  · have q1 : ¬ 32 < b.length := by have := of_decide_eq_false hb1; (try simp only [List.length_map] at this); omega
    refine zO <| zA <| zD <| zD <| zB <| g_u (zG rfl rfl fa24_0 rfl) <| g_u (zH rfl rfl rfl tA22 tS22 rfl rfl) <| g_u (zx rfl rfl Tryz.underlying22) <| g_u (zC rfl rfl) <| zF <| zA <| zQ ?_
    refine zs (fun i : Nat => [(1, .ptr 1001 0), (1001, .box 24 (.imm (yp b))), (12, .imm (.sl 2 (b.map GRes.av))), (13, .imm (iv (b.length : Int))), (14, .imm (iv (i : Int)))]) (fun i => i ≤ b.length ∧ ressF 0 b = ressF i (b.drop i)) (fun i => b.length - i) (0) ?_ ⟨rfl, rfl, rfl, zV rfl (by rw [List.length_map]), rfl, trivial⟩ ?_
    · exact ⟨Nat.zero_le _, rfl⟩
    · rintro i ⟨h1, h2⟩; (try dsimp only at h1 h2)
      refine zD <| zB <| g_u (yU rfl rfl rfl) <| zF <| zA <| zD ?_
      refine zN rfl (fun hb2 => ?_) (fun hb2 => ?_)
      · have hi : i < b.length := by have := of_decide_eq_true hb2; (try simp only [List.length_map] at this); omega
        have hrm := hf.2 _ (vC hi)
        have hro := ho _ (vC hi)
        refine zO <| zA <| zD <| zQ <| zD <| zB <| g_u (zC rfl rfl) ?_
        refine g_u (za rfl rfl rfl Tryz.underlying22 tS58 (by omega) (ixR hi)) ?_
        refine g_u (zW rfl rfl tA58 tS58 rfl rfl) <| g_uG (zo 1004 rfl rfl rfl tZ58) rfl <| g_u (zE rfl rfl) <| g_u (zL rfl rfl rfl tS58 rfl rfl) <| zF <| zA <| zD <| zB <| g_u (zl rfl rfl rfl tA58 tS58 rfl rfl) ?_
        refine g_u (zT (vres_c _ (by assumption) (by assumption)) rfl rfl) ?_
        refine g_u (zE rfl rfl) <| zF <| zA <| zD <| zB <| g_u (zC rfl rfl) <| g_u (s_neM rfl rfl Tryz.underlying28) <| zF <| zA ?_
        refine zN rfl (fun hb3 => ?_) (fun hb3 => ?_)
        · have hz : (resF (nthR b i)).1 ≠ 0 := by have e := hb3; simpa using e
          refine zD <| zB <| g_u (zC rfl rfl) ?_
          refine g_u (zT (vat_c kRes i (by decide) (by omega)) rfl rfl) ?_
          refine g_u (zC rfl rfl) <| g_u (zT (fin_c _ _) rfl rfl) <| g_u (zE rfl rfl) <| zF <| zA <| zJ <| ze <| zK <| zK <| ze <| zK ?_
          exact ⟨⟨(rfl : toAV (Al.look _ _) = some _).trans (congrArg some (by (exact congrArg eM (vk2 q1 h2 hi hz).symm))), rfl⟩, trivial⟩
        · have hz : (resF (nthR b i)).1 = 0 := by have e := hb3; simpa using e
          refine zO <| zM <| zA <| zB <| g_u (yB rfl rfl rfl) <| g_u (zC rfl rfl) <| zF <| zA ?_
          refine ⟨i + 1, ⟨hi, by (try dsimp only); rw [h2, ressF_drop hi, if_pos hz]⟩, ⟨rfl, rfl, rfl, rfl, zV rfl (by rw [zZ (by omega) (by omega)]; rfl), trivial⟩, by (try dsimp only); omega⟩
      · have hin : i = b.length := by have := of_decide_eq_false hb2; (try simp only [List.length_map] at this); omega
        have hall : ressF 0 b = (0, []) := by rw [h2, hin, List.drop_length]; rfl
        refine zv <| zU <| zU <| zp <| zA <| zD <| zD <| zB <| g_u (zH rfl rfl rfl tA24 tS24 rfl rfl) ?_
        refine g_u (zT (count_c _ (by omega)) rfl rfl) ?_
        refine g_u (wl rfl rfl rfl) <| zF <| zA ?_
        refine zN rfl (fun hb4 => ?_) (fun hb4 => ?_)
        · have q3 : 100 < (plR 0 b).length := by have := of_decide_eq_true hb4; (try simp only [List.length_map] at this); omega
          refine zD <| zB <| g_u (zT (fnew_c _) rfl rfl) <| g_u (zE rfl rfl) <| zF <| zA <| zJ <| zK ?_
          exact ⟨⟨(rfl : toAV (Al.look _ _) = some _).trans (congrArg some (by (exact congrArg eM (ck3 q1 hall q3).symm))), rfl⟩, trivial⟩
        · have q3 : ¬ 100 < (plR 0 b).length := by have := of_decide_eq_false hb4; (try simp only [List.length_map] at this); omega
          refine zO <| zA <| zD <| zD <| zB <| g_u (zH rfl rfl rfl tA24 tS24 rfl rfl) ?_
          refine g_u (zT (batchW_c b ho (by omega) (ress_ris hall)) rfl rfl) ?_
          refine g_u (wl rfl rfl rfl) <| zF <| zA ?_
          refine zN rfl (fun hb5 => ?_) (fun hb5 => ?_)
          · have q4 : 65536 < batchW b := by have := of_decide_eq_true hb5; omega
            refine zD <| zB <| g_u (zT (fnew_c _) rfl rfl) <| g_u (zE rfl rfl) <| zF <| zA <| zJ <| zK ?_
            exact ⟨⟨(rfl : toAV (Al.look _ _) = some _).trans (congrArg some (by (exact congrArg eM (ck4 q1 hall q3 q4).symm))), rfl⟩, trivial⟩
          · have q4 : ¬ 65536 < batchW b := by have := of_decide_eq_false hb5; omega
            refine zO <| zA <| zD <| zB <| g_u (zE rfl rfl) <| zF <| zA <| zJ ?_
            exact ⟨⟨(rfl : toAV (Al.look _ _) = some _).trans (congrArg some (by (rw [show eM (chkF b) = _ from wH (by rw [ck5 q1 hall q3 q4])]))), rfl⟩, trivial⟩
theorem vis_c (b : List GRes) (ho : okB b) (hw : wtB b ≤ 60000) : zj Tryz.prog Γ0 14 [yp b] [bv ((chkF b).1 == 0)] := by
  refine zb Tryz.func14 rfl Tryz.ntmps14 (by kernel_rfl) rfl fun w0 I0 G0 => ?_
  refine zD <| zB <| g_uG (zi 1001 rfl rfl rfl rfl) rfl <| g_u (zE rfl rfl) <| zF <| zA <| zD <| zB <| g_u (zH rfl rfl rfl tA24 tS24 rfl rfl) ?_
  refine g_u (zT (vchk_c _ (by assumption) (by omega)) rfl rfl) ?_
  refine g_u (s_eqM rfl rfl Tryz.underlying28) <| g_u (zE rfl rfl) <| zF <| zA <| zJ ?_
  exact ⟨⟨(rfl : toAV (Al.look _ _) = some _).trans (congrArg some (by rfl)), rfl⟩, trivial⟩
theorem fnewP_c (c : Int) (h : c ≠ 0) : wj Tryz.prog Γ0 25 [.imm (iv c)] [] (.ifp 79 1007 0) [(1007, .box 83 (.imm (.agg [iv c])))] := by
  refine yi (rs := [.ifp 79 1007 0]) Tryz.func25 rfl Tryz.ntmps25 (by kernel_rfl) rfl rfl rfl rfl rfl fun w0 I0 G0 E => ?_
  refine zD <| zB <| g_u (zE rfl rfl) <| zF <| zA <| zD <| zD <| zB <| g_u (zC rfl rfl) <| g_u (yn rfl rfl rfl) <| zF <| zA ?_
  refine zN rfl (fun hb1 => ?_) (fun hb1 => ?_)
  · exact killF hb1 ((beq_false_of_ne h))
  · refine zO ?_
    refine zA <| zD <| zB <| g_u (zC rfl rfl) <| g_u (y9 rfl tU83 us83 pl83 rfl rfl rfl rfl) <| g_uG (zi 1007 rfl rfl rfl rfl) rfl <| g_u (s_makeIfp rfl rfl nI79) <| g_u (s_as_ifp rfl rfl) <| zF <| zA <| zJ ?_
    exact ⟨⟨.inr ⟨_, rfl, (by rfl), rfl⟩, trivial⟩, ⟨rfl, trivial⟩⟩
set_option maxHeartbeats 4000000 in
theorem vlim_c (b : List GRes) (ho : okB b) (hw : wtB b ≤ 60000) : zj Tryz.prog Γ0 15 [yp b] [bv (decide (32 ≤ (chkF b).1 ∧ (chkF b).1 ≤ 36))] := by
  refine zb Tryz.func15 rfl Tryz.ntmps15 (by kernel_rfl) rfl fun w0 I0 G0 => ?_
  refine zD <| zB <| g_uG (zi 1001 rfl rfl rfl rfl) rfl <| g_u (zE rfl rfl) <| zF <| zA <| zD <| zB <| g_u (zH rfl rfl rfl tA24 tS24 rfl rfl) ?_
  refine g_u (zT (vchk_c _ (by assumption) (by omega)) rfl rfl) ?_
  refine g_u (zE rfl rfl) <| zF <| zA <| zD <| zD <| zB <| g_u (zC rfl rfl) <| g_u (s_eqM rfl rfl Tryz.underlying28) <| zF <| zA ?_
  refine zN rfl (fun hb1 => ?_) (fun hb1 => ?_)
  · have q0 : (chkF b).1 = 0 := beq_iff_eq.1 hb1
    refine zD <| zB <| g_u (zE rfl rfl) <| zF <| zA <| zJ <| zK ?_
    exact ⟨⟨(rfl : toAV (Al.look _ _) = some _).trans (congrArg some (by (exact congrArg bv (by rw [q0]; rfl)))), rfl⟩, trivial⟩
  · have q1 : (chkF b).1 ≠ 0 := beq_eq_false_iff_ne.1 hb1
    rw [show eM (chkF b) = _ from errM_pos q1]
    refine zO <| zA <| zD <| zD <| zB <| g_u (zE rfl rfl) <| zF <| zA <| zQ ?_
    refine zs (fun k : Nat => [(3, .imm (eOf (chkF b).1 (chkF b).2)), (4, .imm (iv (k : Int)))]) (fun k => (32 ≤ k ∧ k ≤ 37) ∧ ∀ j : Nat, 32 ≤ j → j < k → (chkF b).1 ≠ (j : Int)) (fun k => 37 - k) (32) ?_ ⟨rfl, rfl, trivial⟩ ?_
    · exact ⟨by omega, fun j h1 h2 => by omega⟩
    · rintro k ⟨h1, h2⟩; (try dsimp only at h1 h2)
      refine zD <| zD <| zB <| g_u (zC rfl rfl) <| g_u (s_leI rfl rfl rfl) <| zF <| zA ?_
      refine zN rfl (fun hb2 => ?_) (fun hb2 => ?_)
      · have hk : k ≤ 36 := by have := of_decide_eq_true hb2; omega
        refine zO <| zA <| zD <| zQ <| zD <| zB <| g_u (zC rfl rfl) <| g_u (zC rfl rfl) ?_
        refine g_uG (xA [(1007, 20001)] (fnewP_c _ (by omega)) rfl rfl ⟨.inl rfl, trivial⟩ trivial rfl rfl rfl) rfl ?_
        refine g_uG (xA [(100001, 20001)] (eIs_c (chkF b).1 (k : Int) (chkF b).2) rfl rfl ⟨.inl rfl, .inl rfl, trivial⟩ ⟨rfl, trivial⟩ rfl rfl rfl) rfl <| zF <| zA ?_
        refine zN rfl (fun hb3 => ?_) (fun hb3 => ?_)
        · have hz : (k : Int) = (chkF b).1 := beq_iff_eq.1 hb3
          refine zD <| zB <| g_u (zE rfl rfl) <| zF <| zA <| zJ <| ze <| zK <| zK <| ze <| zK ?_
          exact ⟨⟨(rfl : toAV (Al.look _ _) = some _).trans (congrArg some (by (exact congrArg bv (decide_eq_true (by omega)).symm))), rfl⟩, trivial⟩
        · have hz : (k : Int) ≠ (chkF b).1 := beq_eq_false_iff_ne.1 hb3
          refine zO <| zM <| zA <| zB <| g_u (zC rfl rfl) <| g_u (yB rfl rfl rfl) <| g_u (zE rfl rfl) <| zF <| zA ?_
          refine ⟨k + 1, ⟨by omega, fun j g1 g2 => ?_⟩, ⟨rfl, zV rfl (by rw [zZ (by omega) (by omega)]; rfl), trivial⟩, by (try dsimp only); omega⟩
          rcases Nat.lt_or_ge j k with g3 | g3
          · exact h2 j g1 g3
          · obtain rfl : j = k := by (try dsimp only at g2); omega
            exact fun e => hz e.symm
      · have hkn : k = 37 := by have := of_decide_eq_false hb2; omega
        refine zv <| zU <| zU <| zp <| zA <| zD <| zB <| g_u (zE rfl rfl) <| zF <| zA <| zJ ?_
        exact ⟨⟨(rfl : toAV (Al.look _ _) = some _).trans (congrArg some (by (exact congrArg bv (decide_eq_false (by intro hh; exact h2 (chkF b).1.toNat (by omega) (by omega) (by omega))).symm))), rfl⟩, trivial⟩
end Go.Proofs
namespace Go.Proofs
open Go Go.Al
end Go.Proofs
namespace Go.Proofs
open Go Go.Al
def R1 (c : Int) : Prop := 0 ≤ c ∧ c ≤ 100
theorem R1_orC {a b : Int} (ha : R1 a) (hb : R1 b) : R1 (orC a b) := by unfold orC; split <;> assumption
theorem nameC_R (s : ByteArray) : R1 (yt s) := by unfold yt R1; repeat' split <;> omega
theorem keyC_R (s : ByteArray) : R1 (keyC s) := by unfold keyC R1; repeat' split <;> omega
mutual
theorem checkV_R : ∀ (d : Int) (g : GV), R1 (xr d g)
  | d, .mk k t n b l m => by
    rw [xr]
    split
    · exact ⟨by decide, by decide⟩
    split
    · exact ⟨by decide, by decide⟩
    split
    · exact ⟨by decide, by decide⟩
    split
    · exact ⟨by decide, by decide⟩
    split
    · exact ⟨by decide, by decide⟩
    · exact R1_orC (checkVs_R _ l) (entC_R _ none m)
theorem checkVs_R : ∀ (d : Int) (l : List GV), R1 (xj d l)
  | d, [] => by rw [xj]; exact ⟨by decide, by decide⟩
  | d, x :: xs => by rw [xj]; exact R1_orC (checkV_R d x) (checkVs_R d xs)
theorem checkA_R : ∀ (d : Int) (a : GA), R1 (checkA d a)
  | d, .mk _ v => by rw [checkA]; exact checkV_R d v
theorem entC_R : ∀ (d : Int) (p : Option ByteArray) (l : List GA), R1 (entC d p l)
  | d, p, [] => by rw [entC]; exact ⟨by decide, by decide⟩
  | d, p, x :: xs => by
    rw [entC]
    refine R1_orC (keyC_R _) ?_
    split
    · exact ⟨by decide, by decide⟩
    · exact R1_orC (checkA_R d x) (entC_R d (some x.key) xs)
end
theorem attrsC_R (l : List GA) : R1 (yZ l) := by
  unfold yZ
  split
  · exact ⟨by decide, by decide⟩
  · exact R1_orC (entC_R _ _ _) (by split <;> exact ⟨by decide, by decide⟩)
theorem evC_R : ∀ l : List GE, R1 (evC l)
  | [] => ⟨by decide, by decide⟩
  | e :: es => by
    rw [evC]
    split
    · exact ⟨by decide, by decide⟩
    · exact R1_orC (R1_orC (nameC_R _) (attrsC_R _)) (evC_R es)
theorem lkC_R : ∀ l : List GL, R1 (lkC l)
  | [] => ⟨by decide, by decide⟩
  | e :: es => by
    rw [lkC]
    split
    · exact ⟨by decide, by decide⟩
    · exact R1_orC (R1_orC (nameC_R _) (attrsC_R _)) (lkC_R es)
theorem firstC_R : ∀ {l : List Int}, (∀ c ∈ l, R1 c) → R1 (wo l)
  | [], _ => ⟨by decide, by decide⟩
  | c :: cs, h => R1_orC (h c List.mem_cons_self) (firstC_R fun x hx => h x (List.mem_cons_of_mem _ hx))
theorem spanOk_R (s : GSpan) : R1 (spanOk s) := by
  unfold spanOk
  apply firstC_R
  intro c h
  simp only [List.mem_cons, List.not_mem_nil, or_false] at h
  rcases h with rfl | rfl | rfl | rfl | rfl | rfl | rfl | rfl | rfl | rfl
  · split <;> exact ⟨by decide, by decide⟩
  · exact nameC_R _
  · exact nameC_R _
  · split <;> exact ⟨by decide, by decide⟩
  · unfold rgCheckM R1; repeat' split <;> omega
  · exact attrsC_R _
  · unfold evsC; split
    · exact ⟨by decide, by decide⟩
    · exact evC_R _
  · unfold lksC; split
    · exact ⟨by decide, by decide⟩
    · exact lkC_R _
  · split <;> exact ⟨by decide, by decide⟩
  · exact nameC_R _
def Fk (k : Nat) (f : Fl) : Prop := R1 f.1 ∧ f.2.length ≤ k ∧ ∀ p ∈ f.2, p.size ≤ 140737488351232
theorem Fk_0 {k : Nat} {c : Int} (h : R1 c) : Fk k (c, []) := ⟨h, Nat.zero_le _, fun p hp => by cases hp⟩
theorem Fk_cons {k : Nat} {f : Fl} {p : ByteArray} (h : Fk k f) (hp : p.size ≤ 1000) : Fk (k + 1) (f.1, p :: f.2) := ⟨h.1, by simpa using h.2.1, fun q hq => (List.mem_cons.1 hq).elim (fun e => by rw [e]; omega) (h.2.2 q)⟩
theorem partM_size {k : ByteArray} (i : Nat) (hk : k.size ≤ 100) : (partM k i).size ≤ 1000 := by
  unfold partM
  rw [z7, List.length_append, List.length_cons, yV]
  have := decB_length (i : Int)
  omega
theorem spansF_k : ∀ (i : Nat) (l : List GSpan), Fk 1 (spansF i l)
  | _, [] => Fk_0 ⟨by decide, by decide⟩
  | i, x :: xs => by
    rw [spansF]
    split
    · exact spansF_k (i + 1) xs
    · exact Fk_cons (k := 0) (f := (spanOk x, [])) (Fk_0 (spanOk_R x)) (partM_size i (by decide))
theorem scopeF_k (s : GScope) : Fk 1 (xW s) := by
  unfold xW
  split
  · exact Fk_0 (nameC_R _)
  split
  · exact Fk_0 (nameC_R _)
  · exact spansF_k 0 _
theorem scopesF_k : ∀ (i : Nat) (l : List GScope), Fk 2 (wN i l)
  | _, [] => Fk_0 ⟨by decide, by decide⟩
  | i, x :: xs => by
    rw [wN]
    split
    · exact scopesF_k (i + 1) xs
    · exact Fk_cons (scopeF_k x) (partM_size i (by decide))
theorem resF_k (r : GRes) : Fk 2 (resF r) := by
  unfold resF
  split
  · exact Fk_0 (attrsC_R _)
  split
  · exact Fk_0 ⟨by decide, by decide⟩
  · exact scopesF_k 0 _
theorem ressF_k : ∀ (i : Nat) (l : List GRes), Fk 3 (ressF i l)
  | _, [] => Fk_0 ⟨by decide, by decide⟩
  | i, x :: xs => by
    rw [ressF]
    split
    · exact ressF_k (i + 1) xs
    · exact Fk_cons (resF_k x) (partM_size i (by decide))
theorem chkF_k (b : List GRes) : Fk 3 (chkF b) := by
  unfold chkF
  split
  · exact Fk_0 ⟨by decide, by decide⟩
  split
  · exact ressF_k 0 b
  split
  · exact Fk_0 ⟨by decide, by decide⟩
  split
  · exact Fk_0 ⟨by decide, by decide⟩
  · exact Fk_0 ⟨by decide, by decide⟩
theorem chk_text (b : List GRes) : (chkF b).2.length ≤ 1000000 ∧ (wD (chkF b).2).length ≤ 9000000000000000000 ∧ -9223372036854775808 ≤ (chkF b).1 ∧ (chkF b).1 < 9223372036854775808 := by
  obtain ⟨⟨h1, h2⟩, h3, h4⟩ := chkF_k b
  have key : ∀ (l : List ByteArray), (∀ x ∈ l, x.size ≤ 140737488351232) → (wD l).length ≤ l.length * (140737488351232 + 2) := by
    intro l
    induction l with
    | nil => intro _; exact Nat.zero_le _
    | cons p l ih =>
      intro h
      have h1 := h p List.mem_cons_self
      have h2 := ih fun x hx => h x (List.mem_cons_of_mem _ hx)
      simp only [wD, List.length_append, List.length_cons, List.length_nil, yV]
      rw [Nat.succ_mul]; omega
  have h5 := key _ h4
  have h6 : (chkF b).2.length * (140737488351232 + 2) ≤ 3 * (140737488351232 + 2) := Nat.mul_le_mul_right _ h3
  omega
end Go.Proofs
namespace Go.Proofs
open Go Go.Al
set_option maxRecDepth 10000
set_option maxRecDepth 100000
def gS30 : GSpan := ⟨1 :: List.replicate 15 0, 2 :: List.replicate 7 0, List.replicate 8 0, ⟨#[]⟩, ⟨#[]⟩, 0, 0, 0, [], [], [], 0, ⟨#[]⟩⟩
def gZ30 : GSpan := ⟨List.replicate 16 0, List.replicate 8 0, List.replicate 8 0, ⟨#[]⟩, ⟨#[]⟩, 0, 0, 0, [], [], [], 0, ⟨#[]⟩⟩
def gB30 : List GRes := [⟨[], [⟨⟨#[]⟩, ⟨#[]⟩, [gS30, gZ30]⟩]⟩]
def gE30 : List GRes := List.replicate 33 ⟨[], []⟩
theorem gS30_ok : gS30.ok := ⟨⟨by decide, by decide, by decide⟩, ⟨by decide, by decide, by decide⟩, ⟨by unfold i64; decide, by unfold u64; decide, by unfold u64; decide, by unfold i64; decide⟩, (fun a h => by cases h), (fun a h => by cases h), (fun a h => by cases h)⟩
theorem gZ30_ok : gZ30.ok := ⟨⟨by decide, by decide, by decide⟩, ⟨by decide, by decide, by decide⟩, ⟨by unfold i64; decide, by unfold u64; decide, by unfold u64; decide, by unfold i64; decide⟩, (fun a h => by cases h), (fun a h => by cases h), (fun a h => by cases h)⟩
theorem gB30_ok : okB gB30 := fun r hr => by
  cases List.mem_singleton.1 hr
  refine ⟨fun a h => (by cases h), fun c hc => ?_⟩
  cases List.mem_singleton.1 hc
  refine ⟨by decide, by decide, fun x hx => ?_⟩
  rcases List.mem_cons.1 hx with rfl | hx
  · exact gS30_ok
  · cases List.mem_singleton.1 hx; exact gZ30_ok
theorem gE30_ok : okB gE30 := fun r hr => by
  rw [List.eq_of_mem_replicate hr]
  exact ⟨fun a h => (by cases h), fun c hc => (by cases hc)⟩
def pS30 : AV := .agg [.agg (zn gS30.trace), .agg (zn gS30.id), .arr 8 gS30.parent, sv ⟨#[]⟩, sv ⟨#[]⟩, iv 0, uv 0, uv 0, .sl 7 [], .sl 3 [], .sl 26 [], .agg [iv 0, sv ⟨#[]⟩]]
theorem upS30 : Up pS30 gS30.av := Up.agg ⟨up_bytes rfl, up_bytes rfl, Up.refl _, Up.refl _, Up.refl _, Up.refl _, Up.refl _, Up.refl _, Up.refl _, Up.refl _, Up.refl _, Up.refl _, trivial⟩
def pB30 : AV := .agg [.sl 2 [.agg [.sl 7 [], .sl 3 [.agg [sv ⟨#[]⟩, sv ⟨#[]⟩, .sl 42 [pS30, gZ30.av]]]]]]
theorem upB30 : Up pB30 (yp gB30) := Up.agg ⟨Up.sl ⟨Up.agg ⟨Up.refl _, Up.sl ⟨Up.agg ⟨Up.refl _, Up.refl _, Up.sl ⟨upS30, Up.refl _, trivial⟩, trivial⟩, trivial⟩, trivial⟩, trivial⟩, trivial⟩
set_option maxHeartbeats 8000000 in
theorem vA : zj Tryz.prog Γ0 8 [] [bv true] := by
  refine zb Tryz.func8 rfl Tryz.ntmps8 (by kernel_rfl) rfl fun w0 I0 G0 => ?_
  refine zD <| zB <| g_u (zE rfl rfl) <| zF <| zA <| zD <| zB <| g_u (wV rfl tV42 Tryz.underlying42 tS5 rfl rfl rfl rfl) <| g_u (wV rfl tV44 Tryz.underlying44 tS5 rfl rfl rfl rfl) <| g_u (y9 rfl tU52 us52 pl52 rfl rfl rfl rfl) <| g_uG (zo 1001 rfl rfl rfl tZ52) rfl ?_
  refine g_u (zL rfl rfl rfl tS52 (by first | exact beqW (GSpan.width _) | rfl) (by first | exact setS_w (z52_w.trans (GSpan.width _).symm) rfl | rfl)) ?_
  refine zF <| zA <| zD <| zB ?_
  refine g_u (zH rfl rfl rfl tA52 tS52 rfl (by first | exact xp (GSpan.width _) rfl | rfl)) ?_
  refine g_u (y9 rfl tU52 us52 pl52 rfl rfl rfl rfl) <| g_u (zu (X0 := z52) rfl Tryz.underlying53 tS52 tZ52 rfl rfl rfl rfl rfl rfl rfl rfl) <| g_u (y9 rfl tU55 us55 pl55 rfl rfl rfl rfl) <| g_u (zu (X0 := z55) rfl Tryz.underlying56 tS55 tZ55 rfl rfl rfl rfl rfl rfl rfl rfl) <| g_u (y9 rfl tU58 us58 pl58 rfl rfl rfl rfl) <| g_u (zu (X0 := z58) rfl Tryz.underlying22 tS58 tZ58 rfl rfl rfl rfl rfl rfl rfl rfl) <| g_u (y9 rfl tU24 us24 pl24 rfl rfl rfl rfl) <| g_uG (zo 1002 rfl rfl rfl tZ24) rfl <| g_u (zL rfl rfl rfl tS24 rfl rfl) <| zF <| zA <| zD <| zB ?_
  refine g_u (s_makeImm (X0 := zs58) (len := 33) (cap := 33) (n := 2) (by_ := 48) (il := 33) (ic := 33) (k1 := .i64) (k2 := .i64) (el := 58) rfl rfl rfl (by decide) (by decide) Tryz.underlying22 tS58 tU58 rfl rfl by58 rfl (by decide) (by decide)) ?_
  refine g_u (y9 rfl tU24 us24 pl24 rfl rfl rfl rfl) <| g_uG (zo 1003 rfl rfl rfl tZ24) rfl <| g_u (zL rfl rfl rfl tS24 rfl rfl) <| zF <| zA <| zD <| aw_upB 1002 (yp gB30) rfl rfl upB30 <| zB <| g_u (zH rfl rfl rfl tA24 tS24 rfl rfl) ?_
  refine g_u (zT (vchk_c gB30 gB30_ok (by decide)) rfl rfl) ?_
  refine g_u (zT (ftext_c (chkF gB30).1 (chkF gB30).2 (chk_text gB30).1 (chk_text gB30).2.1 (chk_text gB30).2.2) rfl rfl) <| g_u (s_eqS rfl rfl rfl) <| g_u (zC rfl rfl) <| zz (t := 21) rfl ?_
  rintro (hb1 | hb1)
  · rw [hb1]
    refine zP rfl rfl (zH rfl rfl rfl tA24 tS24 rfl rfl) ?_
    refine zP rfl rfl (zT (vis_c gB30 gB30_ok (by decide)) rfl rfl) ?_
    refine zP rfl rfl (s_not rfl rfl) <| g_u (zX rfl rfl rfl) <| g_u (zC rfl rfl) <| zz (t := 26) rfl ?_
    rintro (hb2 | hb2)
    · rw [hb2]
      refine zP rfl rfl (zH rfl rfl rfl tA24 tS24 rfl rfl) ?_
      refine zP rfl rfl (zT (vlim_c gB30 gB30_ok (by decide)) rfl rfl) ?_
      refine zP rfl rfl (s_not rfl rfl) <| g_u (zX rfl rfl rfl) <| g_u (zC rfl rfl) <| zz (t := 31) rfl ?_
      rintro (hb3 | hb3)
      · rw [hb3]
        refine zP rfl rfl (y9 rfl tU24 us24 pl24 rfl rfl rfl rfl) ?_
        refine zP rfl rfl (zT (vis_c [] (fun r h => by cases h) (by decide)) rfl rfl) ?_
        refine g_u (zX rfl rfl rfl) <| g_u (zC rfl rfl) <| zz (t := 35) rfl ?_
        rintro (hb4 | hb4)
        · rw [hb4]
          refine zP rfl rfl (zl rfl rfl rfl tA24 tS24 rfl rfl) ?_
          refine zP rfl rfl (zT (vlim_c gE30 gE30_ok (by decide)) rfl rfl) ?_
          refine g_u (zX rfl rfl rfl) <| g_u (zC rfl rfl) <| zz (t := 39) rfl ?_
          rintro (hb5 | hb5)
          · rw [hb5]
            refine zP rfl rfl (zl rfl rfl rfl tA24 tS24 rfl rfl) ?_
            refine zP rfl rfl (zT (vchk_c gE30 gE30_ok (by decide)) rfl rfl) ?_
            refine zP rfl rfl (zT (fof_c (chkF gE30).1 (chkF gE30).2) rfl rfl) <| zP rfl rfl (yn rfl rfl rfl) <| g_u (zX rfl rfl rfl) <| g_u (zE rfl rfl) <| zF <| zA <| zJ ?_
            exact ⟨⟨(rfl : toAV (Al.look _ _) = some _).trans (congrArg some (by (first | rfl | decide +kernel))), rfl⟩, trivial⟩
          · exact killT hb5 (by first | rfl | decide +kernel)
        · exact killT hb4 (by first | rfl | decide +kernel)
      · exact killT hb3 (by first | rfl | decide +kernel)
    · exact killT hb2 (by first | rfl | decide +kernel)
  · exact killT hb1 (by first | rfl | decide +kernel)
end Go.Proofs
namespace Go.Proofs
open Go Go.Al
end Go.Proofs
namespace Go.Proofs
open Go Go.Al
set_option maxRecDepth 10000
end Go.Proofs
namespace Go.Proofs
open Go Go.Al
def rm {α : Type} (l : List α) (i : Nat) : List α := l.take i ++ l.drop (i + 1)
theorem rm_mem {α : Type} {l : List α} {i : Nat} {x : α} (h : x ∈ rm l i) : x ∈ l := by
  rcases List.mem_append.1 h with h | h
  · exact List.mem_of_mem_take h
  · exact List.mem_of_mem_drop h
theorem rm_sum {α : Type} (f : α → Nat) {l : List α} {i : Nat} {d : α} (h : i < l.length) : zr f (rm l i) + f (nth l i d) = zr f l := by
  have e : zr f l = zr f (l.take i) + zr f (l.drop i) := by rw [← ym, List.take_append_drop]
  rw [rm, ym, e, yz (d := d) h, zr]; omega
theorem rm_le {α : Type} (f : α → Nat) (l : List α) (i : Nat) : zr f (rm l i) ≤ zr f l := by
  have e : zr f l = zr f (l.take i) + zr f (l.drop i) := by rw [← ym, List.take_append_drop]
  have e2 : zr f (l.drop i) = zr f ((l.drop i).take 1) + zr f ((l.drop i).drop 1) := by rw [← ym, List.take_append_drop]
  rw [rm, ym, e, e2, List.drop_drop]; omega
theorem rm_len {α : Type} (l : List α) (i : Nat) : (rm l i).length ≤ l.length := by
  rw [rm, List.length_append, List.length_take, List.length_drop]; omega
theorem rm_map {α β : Type} (f : α → β) (l : List α) (i : Nat) (m : List β) (h : m = l.map f) : ([] ++ (m.take i).drop 0) ++ ((m.take m.length).drop (i + 1)) = (rm l i).map f := by
  subst h
  rw [List.take_length, List.drop_zero, List.nil_append, rm, List.map_append, List.map_take, List.map_drop]
theorem spansOf_sum : ∀ l : List GScope, (xY l).length = zr (fun c => c.spans.length) l
  | [] => rfl
  | c :: l => by rw [xY, List.length_append, spansOf_sum l, zr]
theorem allS_sum : ∀ b : List GRes, (allS b).length = zr (fun r => (xY r.scopes).length) b
  | [] => rfl
  | r :: b => by
    have e : allS (r :: b) = xY r.scopes ++ allS b := by unfold allS; rw [List.flatMap_cons]
    rw [e, List.length_append, allS_sum b, zr]
theorem one_chk {b : List GRes} {r r' : GRes} (h : (chkF b).1 = 0) (hr : r ∈ b) (ho : okRs r') (hn : (xY r'.scopes).length ≤ (xY r.scopes).length) (hw : resW r' ≤ resW r) : (chkF [r']).1 = 0 := by
  obtain ⟨h1, h2, h3, h4⟩ := chkF_iff.1 h
  rw [plR_all, allS_sum] at h3
  refine chkF_iff.2 ⟨by show 1 ≤ 32; decide, fun x hx => by rw [List.mem_singleton.1 hx]; exact ho, ?_, ?_⟩
  · rw [plR_all, allS_sum]
    have := yM (fun r : GRes => (xY r.scopes).length) hr
    show (xY r'.scopes).length + 0 ≤ 100
    omega
  · have := yM resW hr
    unfold batchW at h4
    show 16 + (resW r' + 0) ≤ 65536
    omega
theorem rm_chk {b : List GRes} {i : Nat} (h : (chkF b).1 = 0) : (chkF (rm b i)).1 = 0 := by
  obtain ⟨h1, h2, h3, h4⟩ := chkF_iff.1 h
  have hl := rm_len b i
  refine chkF_iff.2 ⟨by omega, fun r hr => h2 r (rm_mem hr), ?_, ?_⟩
  · rw [plR_all, allS_sum] at h3 ⊢
    have := rm_le (fun r : GRes => (xY r.scopes).length) b i
    omega
  · unfold batchW at h4 ⊢
    have := rm_le resW b i
    omega
theorem rm_ok {b : List GRes} {i : Nat} (h : okB b) : okB (rm b i) := fun r hr => h r (rm_mem hr)
theorem rm_wtB {b : List GRes} {i : Nat} : wtB (rm b i) ≤ wtB b := rm_le GRes.wt b i
theorem chk_canon {b : List GRes} (h : (chkF b).1 = 0) : canonB b = b := by
  have h2 := (chkF_iff.1 h).2.1
  unfold canonB
  conv => rhs; rw [← List.map_id b]
  refine List.map_congr_left fun r hr => ?_
  obtain ⟨a1, a2, a3⟩ := h2 r hr
  obtain ⟨az, ss⟩ := r
  show (⟨yv az, ss.map canonSc⟩ : GRes) = ⟨az, ss⟩
  rw [canonAs_of_ent (attrsC_ent a1)]
  congr 1
  conv => rhs; rw [← List.map_id ss]
  refine List.map_congr_left fun c hc => ?_
  obtain ⟨_, _, b3⟩ := a3 c hc
  obtain ⟨n, v, xs⟩ := c
  show (⟨n, v, xs.map canonS⟩ : GScope) = ⟨n, v, xs⟩
  congr 1
  conv => rhs; rw [← List.map_id xs]
  exact List.map_congr_left fun x hx => canonS_of (b3 x hx)
def rmC (r : GRes) (j : Nat) : GRes := ⟨r.attrs, rm r.scopes j⟩
def rmX (c : GScope) (k : Nat) : GScope := ⟨c.name, c.version, rm c.spans k⟩
def rmS (r : GRes) (j k : Nat) : GRes := ⟨r.attrs, rm r.scopes j ++ [rmX (nthC r.scopes j) k]⟩
theorem rmC_ok {r : GRes} {j : Nat} (h : r.ok) : (rmC r j).ok := ⟨h.1, fun c hc => h.2 c (rm_mem hc)⟩
theorem rmX_ok {c : GScope} {k : Nat} (h : c.ok) : (rmX c k).ok := ⟨h.1, h.2.1, fun x hx => h.2.2 x (rm_mem hx)⟩
theorem rmS_ok {r : GRes} {j k : Nat} (h : r.ok) (hj : j < r.scopes.length) : (rmS r j k).ok := ⟨h.1, fun c hc => by
  rcases List.mem_append.1 hc with hc | hc
  · exact h.2 c (rm_mem hc)
  · rw [List.mem_singleton.1 hc]; exact rmX_ok (h.2 _ (nthC_mem hj))⟩
theorem rmC_wt {r : GRes} {j : Nat} : (rmC r j).wt ≤ r.wt := by
  have := rm_le GScope.wt r.scopes j
  unfold GRes.wt rmC
  dsimp only; omega
theorem rmX_wt {c : GScope} {k : Nat} : (rmX c k).wt ≤ c.wt := by
  have := rm_le GSpan.wt c.spans k
  unfold GScope.wt rmX
  dsimp only; omega
theorem rmS_wt {r : GRes} {j k : Nat} (hj : j < r.scopes.length) : (rmS r j k).wt ≤ r.wt := by
  have h1 := rm_sum GScope.wt (d := gc0) hj
  have h2 := rmX_wt (c := nthC r.scopes j) (k := k)
  unfold GRes.wt rmS
  dsimp only
  rw [ym]
  show 1 + wtAs r.attrs + (zr GScope.wt (rm r.scopes j) + ((rmX (nthC r.scopes j) k).wt + 0)) ≤ _
  have h3 : nthC r.scopes j = nth r.scopes j gc0 := rfl
  rw [h3] at h2 ⊢
  omega
theorem rmC_W {r : GRes} {j : Nat} : resW (rmC r j) ≤ resW r := by
  have := rm_le (fun s => scopeW s (y8 r)) r.scopes j
  show 64 + wY r.attrs + zr (fun s => scopeW s (y8 r)) (rm r.scopes j) ≤ _
  unfold resW; omega
theorem rmX_W {c : GScope} {k : Nat} (t : ByteArray) : scopeW (rmX c k) t ≤ scopeW c t := by
  have := rm_le (fun x => spanW x t) c.spans k
  show 64 + 6 * (c.name.size + c.version.size) + zr (fun x => spanW x t) (rm c.spans k) ≤ _
  unfold scopeW; omega
theorem rmS_W {r : GRes} {j k : Nat} (hj : j < r.scopes.length) : resW (rmS r j k) ≤ resW r := by
  have h1 := rm_sum (fun s => scopeW s (y8 r)) (d := gc0) hj
  have h2 := rmX_W (c := nthC r.scopes j) (k := k) (y8 r)
  show 64 + wY r.attrs + zr (fun s => scopeW s (y8 r)) (rm r.scopes j ++ [rmX (nthC r.scopes j) k]) ≤ _
  rw [ym]
  show 64 + wY r.attrs + (zr (fun s => scopeW s (y8 r)) (rm r.scopes j) + (scopeW (rmX (nthC r.scopes j) k) (y8 r) + 0)) ≤ _
  have h3 : nthC r.scopes j = nth r.scopes j gc0 := rfl
  rw [h3] at h2 ⊢
  unfold resW; omega
theorem rmC_rs {r : GRes} {j : Nat} (h : okRs r) : okRs (rmC r j) := ⟨h.1, by have := rm_len r.scopes j; have := h.2.1; show (rm r.scopes j).length ≤ 16; omega, fun c hc => h.2.2 c (rm_mem hc)⟩
theorem rmX_sc {c : GScope} {k : Nat} (h : okSc c) : okSc (rmX c k) := ⟨h.1, h.2.1, fun x hx => h.2.2 x (rm_mem hx)⟩
theorem rmS_rs {r : GRes} {j k : Nat} (h : okRs r) (hj : j < r.scopes.length) : okRs (rmS r j k) := by
  refine ⟨h.1, ?_, fun c hc => ?_⟩
  · have h1 := h.2.1
    show (rm r.scopes j ++ [rmX (nthC r.scopes j) k]).length ≤ 16
    rw [List.length_append, rm, List.length_append, List.length_take, List.length_drop]
    show _ + 1 ≤ 16
    omega
  · rcases List.mem_append.1 hc with hc | hc
    · exact h.2.2 c (rm_mem hc)
    · rw [List.mem_singleton.1 hc]; exact rmX_sc (h.2.2 _ (nthC_mem hj))
theorem rmC_sp {r : GRes} {j : Nat} : (xY (rmC r j).scopes).length ≤ (xY r.scopes).length := by
  rw [spansOf_sum, spansOf_sum]; exact rm_le _ r.scopes j
theorem rmS_sp {r : GRes} {j k : Nat} (hj : j < r.scopes.length) : (xY (rmS r j k).scopes).length ≤ (xY r.scopes).length := by
  rw [spansOf_sum, spansOf_sum]
  have h1 := rm_sum (fun c : GScope => c.spans.length) (d := gc0) hj
  have h2 := rm_len (nthC r.scopes j).spans k
  show zr (fun c : GScope => c.spans.length) (rm r.scopes j ++ [rmX (nthC r.scopes j) k]) ≤ _
  rw [ym]
  show zr (fun c : GScope => c.spans.length) (rm r.scopes j) + ((rm (nthC r.scopes j).spans k).length + 0) ≤ _
  have h3 : nthC r.scopes j = nth r.scopes j gc0 := rfl
  rw [h3] at h2 ⊢
  omega
theorem one_ok {r : GRes} (h : r.ok) : okB [r] := fun x hx => by rw [List.mem_singleton.1 hx]; exact h
end Go.Proofs
