/- Texts that the proofs of this claim share, part 4: the abstract logic, plain Lean on values and batches, and walks. No condition but those typed in each lemma. -/
import Derived.Test.YtilolbiefnbccaaGreatDoorR3
set_option linter.unusedSimpArgs false
set_option linter.unusedVariables false
set_option maxHeartbeats 400000
namespace Go.Proofs
open Go Go.Al
set_option maxRecDepth 10000
def truthB (n : Int) : Bs := if n = 0 then [102, 97, 108, 115, 101] else [116, 114, 117, 101]
def wC (v : GV) : AV :=
  if v.kind = 0 then .ifc 198 (sv (yT [110, 117, 108, 108]))
  else if v.kind = 1 then .ifc 197 (sv v.text)
  else if v.kind = 2 then .ifc 198 (sv (yT (truthB v.num)))
  else if v.kind = 3 then .ifc 198 (sv (yT (decB v.num)))
  else if v.kind = 4 then .ifc 197 (sv (yT (48 :: 120 :: hexB (be 8 v.bits.toNat))))
  else if v.kind = 5 then .ifc 197 (sv (yT (hexB (lst v.text))))
  else if v.kind = 6 then .ifc 239 (.sl 6 (v.list.map avV))
  else if v.kind = 7 then .ifc 240 (.sl 7 (v.map.map avA))
  else .ifc 198 (sv ⟨#[]⟩)
theorem truth_c (n : Int) : zj Tryz.prog Γ0 178 [iv n] [sv (yT (truthB n))] := by
  refine zb Tryz.func178 rfl Tryz.ntmps178 (by kernel_rfl) rfl fun w0 I0 G0 => ?_
  refine zD <| zB <| g_u (zE rfl rfl) <| zF <| zA <| zD <| zD <| zB <| g_u (zC rfl rfl) <| g_u (xG rfl rfl rfl) <| zF <| zA ?_
  refine zN rfl (fun hb1 => ?_) (fun hb1 => ?_)
  · refine zD ?_
    refine zB <| g_u (zE rfl rfl) <| zF <| zA <| zJ <| zK ?_
    exact ⟨⟨(rfl : toAV (Al.look _ _) = some _).trans (congrArg some (by (unfold truthB; first | (rw [if_neg (by simpa using hb1)]; rfl) | (rw [if_pos (by simpa using hb1)]; rfl)))), rfl⟩, trivial⟩
  · refine zO ?_
    refine zA <| zD <| zB <| g_u (zE rfl rfl) <| zF <| zA <| zJ ?_
    exact ⟨⟨(rfl : toAV (Al.look _ _) = some _).trans (congrArg some (by (unfold truthB; first | (rw [if_neg (by simpa using hb1)]; rfl) | (rw [if_pos (by simpa using hb1)]; rfl)))), rfl⟩, trivial⟩
theorem double_c (u : Int) (h : 0 ≤ u ∧ u < 18446744073709551616) : zj Tryz.prog Γ0 179 [uv u] [sv (yT (48 :: 120 :: hexB (be 8 u.toNat)))] := by
  have c1 : (ByteArray.mk #[48, 120]).size = 2 := rfl
  refine zb Tryz.func179 rfl Tryz.ntmps179 (by kernel_rfl) rfl fun w0 I0 G0 => ?_
  refine zD <| zB <| g_u (zE rfl rfl) <| zF <| zA <| zD <| zB <| g_u (zC rfl rfl) ?_
  refine g_u (zT (nil1 (n := 1) (high_c [] u h (by simp))) rfl rfl) ?_
  refine g_u (s_cvBS' (rfl) rfl rfl Tryz.underlying85 Tryz.underlying9 Tryz.underlying5) ?_
  refine g_u (zT (htext_c _ (by rw [z7]; simp only [List.nil_append, be_length]; omega)) rfl rfl) ?_
  refine g_u (s_catS rfl rfl rfl (by show _ ≤ (9223372036854775807 : Int); simp only [z7, yh, vG, List.nil_append, be_length, c1]; omega)) ?_
  refine g_u (zE rfl rfl) <| zF <| zA <| zJ ?_
  exact ⟨⟨(rfl : toAV (Al.look _ _) = some _).trans (congrArg some (by (rw [vG]; rfl))), rfl⟩, trivial⟩
theorem thing_c (v : GV) (ho : v.ok) (hw : v.wt ≤ 10000000) : zj Tryz.prog Γ0 115 [v.av] [wC v] := by
  have lv := x_ v.list
  have la := yr v.map
  have ek := v.wt_eq
  have ok := v.ok_iff.1 ho
  have sl := yf v
  have jl := xw v
  refine zb Tryz.func115 rfl Tryz.ntmps115 (by kernel_rfl) rfl fun w0 I0 G0 => ?_
  refine zD <| zB <| g_uG (zi 1001 rfl rfl rfl rfl) rfl <| g_u (zE rfl rfl) <| zF <| zA <| zD <| zD <| zB <| g_u (zG rfl rfl fa91_0 rfl) <| g_u (zH rfl rfl rfl tA5 tS5 rfl rfl) <| zF <| zA <| zQ <| zD <| zB <| g_u (yn rfl rfl rfl) <| g_u (zE rfl rfl) <| zF <| zA ?_
  refine zN rfl (fun hb1 => ?_) (fun hb1 => ?_)
  · refine zD ?_
    refine zB <| g_u (xa rfl rfl nI198) <| g_u (zE rfl rfl) <| zF <| zA <| zJ <| ze <| zK ?_
    exact ⟨⟨(rfl : toAV (Al.look _ _) = some _).trans (congrArg some (by (simp only [beq_iff_eq, beq_eq_false_iff_ne, ne_eq, qa, qb] at *; unfold wC; (repeat (first | rw [if_pos (by omega)] | rw [if_neg (by omega)])); (first | done | rfl)))), rfl⟩, trivial⟩
  · refine zD ?_
    refine zB <| g_u (yn rfl rfl rfl) <| g_u (zE rfl rfl) <| zF <| zA ?_
    refine zN rfl (fun hb2 => ?_) (fun hb2 => ?_)
    · refine zD ?_
      refine zB <| g_u (zG rfl rfl fa91_1 rfl) <| g_u (zH rfl rfl rfl tA9 tS9 rfl rfl) <| g_u (xa rfl rfl nI197) <| g_u (zE rfl rfl) <| zF <| zA <| zJ <| ze <| zK ?_
      exact ⟨⟨(rfl : toAV (Al.look _ _) = some _).trans (congrArg some (by (simp only [beq_iff_eq, beq_eq_false_iff_ne, ne_eq, qa, qb] at *; unfold wC; (repeat (first | rw [if_pos (by omega)] | rw [if_neg (by omega)])); (first | done | rfl)))), rfl⟩, trivial⟩
    · refine zD ?_
      refine zB <| g_u (yn rfl rfl rfl) <| g_u (zE rfl rfl) <| zF <| zA ?_
      refine zN rfl (fun hb3 => ?_) (fun hb3 => ?_)
      · refine zD ?_
        refine zB <| g_u (zG rfl rfl fa91_2 rfl) <| g_u (zH rfl rfl rfl tA3 tS3 rfl rfl) <| g_u (zT (truth_c _) rfl rfl) <| g_u (xa rfl rfl nI198) <| g_u (zE rfl rfl) <| zF <| zA <| zJ <| ze <| zK ?_
        exact ⟨⟨(rfl : toAV (Al.look _ _) = some _).trans (congrArg some (by (simp only [beq_iff_eq, beq_eq_false_iff_ne, ne_eq, qa, qb] at *; unfold wC; (repeat (first | rw [if_pos (by omega)] | rw [if_neg (by omega)])); (first | done | rfl)))), rfl⟩, trivial⟩
      · refine zD ?_
        refine zB <| g_u (yn rfl rfl rfl) <| g_u (zE rfl rfl) <| zF <| zA ?_
        refine zN rfl (fun hb4 => ?_) (fun hb4 => ?_)
        · refine zD ?_
          refine zB <| g_u (zG rfl rfl fa91_2 rfl) <| g_u (zH rfl rfl rfl tA3 tS3 rfl rfl) ?_
          refine g_u (zT (nil1 (n := 1) (dput_c [] _ ok.2.2.1 (by simp))) rfl rfl) ?_
          refine g_u (s_cvBS' (rfl) rfl rfl Tryz.underlying85 Tryz.underlying198 Tryz.underlying5) <| g_u (xa rfl rfl nI198) <| g_u (zE rfl rfl) <| zF <| zA <| zJ <| ze <| zK ?_
          exact ⟨⟨(rfl : toAV (Al.look _ _) = some _).trans (congrArg some (by (simp only [beq_iff_eq, beq_eq_false_iff_ne, ne_eq, qa, qb] at *; unfold wC; (repeat (first | rw [if_pos (by omega)] | rw [if_neg (by omega)])); (first | done | rfl)))), rfl⟩, trivial⟩
        · refine zD ?_
          refine zB <| g_u (yn rfl rfl rfl) <| g_u (zE rfl rfl) <| zF <| zA ?_
          refine zN rfl (fun hb5 => ?_) (fun hb5 => ?_)
          · refine zD ?_
            refine zB <| g_u (zG rfl rfl fa91_3 rfl) <| g_u (zH rfl rfl rfl tA45 tS45 rfl rfl) <| g_u (zT (double_c _ ok.2.2.2.1) rfl rfl) <| g_u (xa rfl rfl nI197) <| g_u (zE rfl rfl) <| zF <| zA <| zJ <| ze <| zK ?_
            exact ⟨⟨(rfl : toAV (Al.look _ _) = some _).trans (congrArg some (by (simp only [beq_iff_eq, beq_eq_false_iff_ne, ne_eq, qa, qb] at *; unfold wC; (repeat (first | rw [if_pos (by omega)] | rw [if_neg (by omega)])); (first | done | rfl)))), rfl⟩, trivial⟩
          · refine zD ?_
            refine zB <| g_u (yn rfl rfl rfl) <| g_u (zE rfl rfl) <| zF <| zA ?_
            refine zN rfl (fun hb6 => ?_) (fun hb6 => ?_)
            · refine zD ?_
              refine zB <| g_u (zG rfl rfl fa91_1 rfl) <| g_u (zH rfl rfl rfl tA9 tS9 rfl rfl) ?_
              refine g_u (zT (htext_c _ (by omega)) rfl rfl) ?_
              refine g_u (xa rfl rfl nI197) <| g_u (zE rfl rfl) <| zF <| zA <| zJ <| ze <| zK ?_
              exact ⟨⟨(rfl : toAV (Al.look _ _) = some _).trans (congrArg some (by (simp only [beq_iff_eq, beq_eq_false_iff_ne, ne_eq, qa, qb] at *; unfold wC; (repeat (first | rw [if_pos (by omega)] | rw [if_neg (by omega)])); (first | done | rfl)))), rfl⟩, trivial⟩
            · refine zD ?_
              refine zB <| g_u (yn rfl rfl rfl) <| g_u (zE rfl rfl) <| zF <| zA ?_
              refine zN rfl (fun hb7 => ?_) (fun hb7 => ?_)
              · refine zD ?_
                refine zB <| g_u (zG rfl rfl vI rfl) <| g_u (zH rfl rfl rfl tA89 tS89 rfl rfl) <| g_u (xa rfl rfl nI239) <| g_u (zE rfl rfl) <| zF <| zA <| zJ <| ze <| zK ?_
                exact ⟨⟨(rfl : toAV (Al.look _ _) = some _).trans (congrArg some (by (simp only [beq_iff_eq, beq_eq_false_iff_ne, ne_eq, qa, qb] at *; unfold wC; (repeat (first | rw [if_pos (by omega)] | rw [if_neg (by omega)])); (first | done | rfl)))), rfl⟩, trivial⟩
              · refine zD ?_
                refine zB <| g_u (yn rfl rfl rfl) <| g_u (zE rfl rfl) <| zF <| zA ?_
                refine zN rfl (fun hb8 => ?_) (fun hb8 => ?_)
                · refine zD ?_
                  refine zB <| g_u (zG rfl rfl vH rfl) <| g_u (zH rfl rfl rfl tA46 tS46 rfl rfl) <| g_u (xa rfl rfl nI240) <| g_u (zE rfl rfl) <| zF <| zA <| zJ <| ze <| zK ?_
                  exact ⟨⟨(rfl : toAV (Al.look _ _) = some _).trans (congrArg some (by (simp only [beq_iff_eq, beq_eq_false_iff_ne, ne_eq, qa, qb] at *; unfold wC; (repeat (first | rw [if_pos (by omega)] | rw [if_neg (by omega)])); (first | done | rfl)))), rfl⟩, trivial⟩
                · refine zO ?_
                  refine zM <| zA <| zD <| zB <| g_u (xa rfl rfl nI198) <| g_u (zE rfl rfl) <| zF <| zA <| zJ ?_
                  exact ⟨⟨(rfl : toAV (Al.look _ _) = some _).trans (congrArg some (by (simp only [beq_iff_eq, beq_eq_false_iff_ne, ne_eq, qa, qb] at *; unfold wC; (repeat (first | rw [if_pos (by omega)] | rw [if_neg (by omega)])); (first | done | rfl)))), rfl⟩, trivial⟩
theorem thing_p {v : GV} (h : v.kind ≠ 1 ∧ v.kind ≠ 4 ∧ v.kind ≠ 5 ∧ v.kind ≠ 6 ∧ v.kind ≠ 7) (c : zj Tryz.prog Γ0 115 [v.av] [wC v]) : zj Tryz.prog Γ0 115 [v.av] [.ifc 198 (sv (yT (xH v)))] := by
  have e : wC v = .ifc 198 (sv (yT (xH v))) := by
    unfold wC
    by_cases h0 : v.kind = 0
    · rw [if_pos h0, json0 h0]
    · rw [if_neg h0, if_neg h.1, jsonE (by omega)]
      by_cases h2 : v.kind = 2
      · rw [if_pos h2]
        by_cases hn : v.num = 0
        · rw [simp2 h2 hn, truthB, if_pos hn]
        · rw [simp2' h2 hn, truthB, if_neg hn]
      · rw [if_neg h2]
        by_cases h3 : v.kind = 3
        · rw [if_pos h3, simp3 h3]
        · rw [if_neg h3, if_neg h.2.1, if_neg h.2.2.1, if_neg h.2.2.2.1, if_neg h.2.2.2.2, simp6 (by omega)]; rfl
  rw [← e]; exact c
theorem thing_q {v : GV} (h : v.kind = 1 ∨ v.kind = 4 ∨ v.kind = 5) (c : zj Tryz.prog Γ0 115 [v.av] [wC v]) : zj Tryz.prog Γ0 115 [v.av] [.ifc 197 (sv (yT (wS v)))] := by
  have e : wC v = .ifc 197 (sv (yT (wS v))) := by
    unfold wC
    rcases h with h | h | h
    · rw [if_neg (by omega), if_pos h, simp1 h]
    · rw [if_neg (by omega), if_neg (by omega), if_neg (by omega), if_neg (by omega), if_pos h, simp4 h]
    · rw [if_neg (by omega), if_neg (by omega), if_neg (by omega), if_neg (by omega), if_neg (by omega), if_pos h, simp5 h]
  rw [← e]; exact c
theorem thing_l {v : GV} (h : v.kind = 6) (c : zj Tryz.prog Γ0 115 [v.av] [wC v]) : zj Tryz.prog Γ0 115 [v.av] [.ifc 239 (.sl 6 (v.list.map avV))] := by
  have e : wC v = .ifc 239 (.sl 6 (v.list.map avV)) := by
    unfold wC
    rw [if_neg (by omega), if_neg (by omega), if_neg (by omega), if_neg (by omega), if_neg (by omega), if_neg (by omega), if_pos h]
  rw [← e]; exact c
theorem thing_m {v : GV} (h : v.kind = 7) (c : zj Tryz.prog Γ0 115 [v.av] [wC v]) : zj Tryz.prog Γ0 115 [v.av] [.ifc 240 (.sl 7 (v.map.map avA))] := by
  have e : wC v = .ifc 240 (.sl 7 (v.map.map avA)) := by
    unfold wC
    rw [if_neg (by omega), if_neg (by omega), if_neg (by omega), if_neg (by omega), if_neg (by omega), if_neg (by omega), if_neg (by omega), if_pos h]
  rw [← e]; exact c
theorem lay_p (v : GV) (ho : v.ok) (hw : v.wt ≤ 10000000) (xs : List AV) (hx : W1 xs) (hl : xs.length + 150 * v.wt ≤ 5000000000) (hk : v.kind ≠ 1 ∧ v.kind ≠ 4 ∧ v.kind ≠ 5 ∧ v.kind ≠ 6 ∧ v.kind ≠ 7) : wj Tryz.prog Γ0 181 [.slg 100001 1 xs, .imm v.av] [(100001, .tok 1 xs)] (.slg 100001 1 (xs ++ zn (xH v))) [(100001, .tok 1 (xs ++ zn (xH v)))] := by
  have lv := x_ v.list
  have la := yr v.map
  have ek := v.wt_eq
  have ok := v.ok_iff.1 ho
  have sl := yf v
  have jl := xw v
  have e0 : zn (yT (xH v)).data.toList = zn (xH v) := by rw [xS]
  refine yi (rs := [.slg 100001 1 (xs ++ zn (xH v))]) Tryz.func181 rfl Tryz.ntmps181 (by kernel_rfl) rfl rfl rfl rfl rfl fun w0 I0 G0 E => ?_
  refine zD <| zB <| g_uG (zi 1003 rfl rfl rfl rfl) rfl <| g_u (zE rfl rfl) <| zF <| zA <| zD <| zD <| zB <| g_u (zH rfl rfl rfl tA91 tS91 rfl rfl) <| g_u (zT (thing_p hk (thing_c v ho hw)) rfl rfl) <| zF <| zA <| zQ <| zD <| zB <| g_u (w_ rfl rfl nI198) <| g_u (zh rfl rfl rfl rfl) <| g_u (zh rfl rfl rfl rfl) <| zF <| zA <| zk rfl <| zD <| zB <| g_u (zE rfl rfl) <| zF <| zA <| zD <| zB <| g_u (yN rfl rfl) <| g_u (zC rfl rfl) ?_
  refine g_u (s_appendS rfl rfl rfl rfl rfl Tryz.underlying85 Tryz.underlying198 tS5 zv5 rfl by5 (by rw [z7]; omega) (by rw [z7]; omega)) ?_
  refine g_u (yQ rfl rfl) <| zF <| zA <| zJ <| ze <| zK ?_
  exact ⟨⟨.inr ⟨_, rfl, wx rfl (by rw [e0]), rfl⟩, trivial⟩, ⟨xZ rfl (by rw [e0]), trivial⟩⟩
theorem lay_q (v : GV) (ho : v.ok) (hw : v.wt ≤ 10000000) (xs : List AV) (hx : W1 xs) (hl : xs.length + 150 * v.wt ≤ 5000000000) (hk : v.kind = 1 ∨ v.kind = 4 ∨ v.kind = 5) : wj Tryz.prog Γ0 181 [.slg 100001 1 xs, .imm v.av] [(100001, .tok 1 xs)] (.slg 100001 1 (xs ++ zn (xH v))) [(100001, .tok 1 (xs ++ zn (xH v)))] := by
  have lv := x_ v.list
  have la := yr v.map
  have ek := v.wt_eq
  have ok := v.ok_iff.1 ho
  have sl := yf v
  have jl := xw v
  refine yi (rs := [.slg 100001 1 (xs ++ zn (xH v))]) Tryz.func181 rfl Tryz.ntmps181 (by kernel_rfl) rfl rfl rfl rfl rfl fun w0 I0 G0 E => ?_
  refine zD <| zB <| g_uG (zi 1003 rfl rfl rfl rfl) rfl <| g_u (zE rfl rfl) <| zF <| zA <| zD <| zD <| zB <| g_u (zH rfl rfl rfl tA91 tS91 rfl rfl) <| g_u (zT (thing_q hk (thing_c v ho hw)) rfl rfl) <| zF <| zA <| zQ <| zD <| zB ?_
  refine g_u (y7 rfl rfl nI198 tZ198 (fun z h => by rw [zv198] at h; cases h; rfl) rfl) ?_
  refine g_u (zh rfl rfl rfl rfl) <| g_u (zh rfl rfl rfl rfl) <| zF <| zA <| zd rfl <| zD <| zB <| g_u (w_ rfl rfl nI197) <| g_u (zh rfl rfl rfl rfl) <| g_u (zh rfl rfl rfl rfl) <| zF <| zA <| zk rfl <| zD <| zB <| g_u (zE rfl rfl) <| zF <| zA <| zD <| zB <| g_u (yN rfl rfl) <| g_u (zC rfl rfl) ?_
  refine g_uG (xA [(3014, 20001)] (jput_c _ _ hx (by rw [z7]; omega) (by omega)) rfl rfl ⟨.inr ⟨_, rfl, rfl⟩, .inl rfl, trivial⟩ trivial rfl rfl rfl) rfl ?_
  refine g_u (yQ rfl rfl) <| zF <| zA ?_
  refine aw_renTok 20001 100001 1 (xs ++ zn (quoteB (lst (yT (wS v))))) [(4, .slg 100001 1 (xs ++ zn (quoteB (lst (yT (wS v))))))] rfl rfl rfl rfl rfl rfl ⟨.inr (.inl ⟨rfl, rfl⟩), trivial⟩ (by rw [List.length_append, yC]; simp only [quoteB, List.length_cons]; omega) ?_
  refine zJ <| ze <| zK ?_
  exact ⟨⟨.inr ⟨_, rfl, wx rfl (by rw [jsonS hk, vG]), rfl⟩, trivial⟩, ⟨xZ rfl (by rw [jsonS hk, vG]), trivial⟩⟩
theorem bytesL_cons (c : UInt8) (l : Bs) : zn (c :: l) = .v (wK c) :: zn l := rfl
theorem bytesL_nil : zn [] = [] := rfl
theorem W1.app {a b : List AV} (h : W1 a) (k : W1 b) : W1 (a ++ b) := fun x hx => (List.mem_append.1 hx).elim (h x) (k x)
theorem lay_l (v : GV) (ho : v.ok) (hw : v.wt ≤ 10000000) (xs : List AV) (hx : W1 xs) (hl : xs.length + 150 * v.wt ≤ 5000000000) (hk : v.kind = 6) (ih : ∀ y ∈ v.list, ∀ xs : List AV, W1 xs → xs.length + 150 * y.wt ≤ 5000000000 → wj Tryz.prog Γ0 181 [.slg 100001 1 xs, .imm y.av] [(100001, .tok 1 xs)] (.slg 100001 1 (xs ++ zn (xH y))) [(100001, .tok 1 (xs ++ zn (xH y)))]) : wj Tryz.prog Γ0 181 [.slg 100001 1 xs, .imm v.av] [(100001, .tok 1 xs)] (.slg 100001 1 (xs ++ zn (xH v))) [(100001, .tok 1 (xs ++ zn (xH v)))] := by
  have lv := x_ v.list
  have la := yr v.map
  have ek := v.wt_eq
  have ok := v.ok_iff.1 ho
  have sl := yf v
  have jl := xw v
  refine yi (rs := [.slg 100001 1 (xs ++ zn (xH v))]) Tryz.func181 rfl Tryz.ntmps181 (by kernel_rfl) rfl rfl rfl rfl rfl fun w0 I0 G0 E => ?_
  refine zD <| zB <| g_uG (zi 1003 rfl rfl rfl rfl) rfl <| g_u (zE rfl rfl) <| zF <| zA <| zD <| zD <| zB <| g_u (zH rfl rfl rfl tA91 tS91 rfl rfl) <| g_u (zT (thing_l hk (thing_c v ho hw)) rfl rfl) <| zF <| zA <| zQ <| zD <| zB ?_
  refine g_u (y7 rfl rfl nI198 tZ198 (fun z h => by rw [zv198] at h; cases h; rfl) rfl) ?_
  refine g_u (zh rfl rfl rfl rfl) <| g_u (zh rfl rfl rfl rfl) <| zF <| zA <| zd rfl <| zD <| zB ?_
  refine g_u (y7 rfl rfl nI197 tZ197 (fun z h => by rw [zv197] at h; cases h; rfl) rfl) ?_
  refine g_u (zh rfl rfl rfl rfl) <| g_u (zh rfl rfl rfl rfl) <| zF <| zA <| zd rfl <| zD <| zB <| g_u (w_ rfl rfl nI239) <| g_u (zh rfl rfl rfl rfl) <| g_u (zh rfl rfl rfl rfl) <| zF <| zA <| zk rfl <| zD <| zB <| g_u (zE rfl rfl) <| zF <| zA <| zD <| zB <| g_u (yN rfl rfl) <| g_u (zu (X0 := z5) rfl Tryz.underlying85 tS5 tZ5 rfl rfl rfl rfl rfl rfl rfl rfl) ?_
  refine g_u (yW rfl rfl rfl rfl rfl Tryz.underlying85 Tryz.underlying85 tS5 zv5 rfl (by decide) by5 (by (try dsimp only); simp only [List.length_append, List.length_cons, List.length_nil]; omega) (by (try dsimp only); simp only [List.length_append, List.length_cons, List.length_nil]; omega)) ?_
  refine g_u (yQ rfl rfl) <| zF <| zA <| zD <| zD <| zB <| g_u (zC rfl rfl) <| g_u (zx rfl rfl Tryz.underlying239) <| g_u (zC rfl rfl) <| zF <| zA <| zQ ?_
  refine zs (fun j : Nat × List AV => [(0, .slg 100001 1 j.2), (100001, .tok 1 j.2), (33, .imm (.sl 6 (v.list.map avV))), (34, .imm (iv (v.list.length : Int))), (35, .imm (iv (j.1 : Int)))]) (fun j => j.1 ≤ v.list.length ∧ j.2 = xs ++ zn (91 :: jsonVs true (v.list.take j.1))) (fun j => v.list.length - j.1) (⟨0, xs ++ zn [91]⟩) ?_ ⟨rfl, rfl, rfl, zV rfl (by rw [List.length_map]), rfl, trivial⟩ ?_
  · exact ⟨Nat.zero_le _, rfl⟩
  · rintro ⟨i, ys⟩ ⟨h1, h2⟩; dsimp only at h1 h2; have hlen : ys.length ≤ xs.length + 1 + 150 * wtVs (v.list.take i) := by have := jsonVs_len (v.list.take i) true; rw [h2, List.length_append, yC, List.length_cons]; omega
    have hwy : W1 ys := by rw [h2]; exact hx.app (W1.bytes _)
    have htk := wtVs_take v.list i
    refine zD <| zB <| g_u (yU rfl rfl rfl) <| zF <| zA <| zD ?_
    refine zN rfl (fun hb1 => ?_) (fun hb1 => ?_)
    · have hiv : i < v.list.length := by have := of_decide_eq_true hb1; simp only [List.length_map] at this; omega
      refine zO <| zA <| zD <| zQ <| zD <| zB <| g_u (zC rfl rfl) ?_
      refine g_u (za rfl rfl rfl Tryz.underlying239 tS91 (by omega) (ixV hiv)) ?_
      refine g_u (zW rfl rfl tA91 tS91 rfl rfl) <| g_uG (zo 1009 rfl rfl rfl tZ91) rfl <| g_u (zE rfl rfl) <| g_u (zL rfl rfl rfl tS91 rfl rfl) <| zF <| zA <| zD <| zD <| zB <| g_u (zC rfl rfl) <| g_u (wl rfl rfl rfl) <| zF <| zA ?_
      refine zN rfl (fun hb2 => ?_) (fun hb2 => ?_)
      · have hc : comma (i == 0) = [44] := by have hp : i ≠ 0 := (by have := of_decide_eq_true hb2; omega); rw [show (i == 0) = false from by simpa using hp]; rfl
        refine zB <| g_u (yN rfl rfl) <| g_u (zu (X0 := z5) rfl Tryz.underlying85 tS5 tZ5 rfl rfl rfl rfl rfl rfl rfl rfl) ?_
        refine g_u (yW rfl rfl rfl rfl rfl Tryz.underlying85 Tryz.underlying85 tS5 zv5 rfl (by decide) by5 (by (try dsimp only); simp only [List.length_append, List.length_cons, List.length_nil]; omega) (by (try dsimp only); simp only [List.length_append, List.length_cons, List.length_nil]; omega)) ?_
        refine g_u (yQ rfl rfl) <| zF <| zA <| zB <| g_u (yN rfl rfl) <| g_u (zl rfl rfl rfl tA91 tS91 rfl rfl) ?_
        refine g_uG (xA [(100001, 100001)] (ih _ (nthV_mem hiv) _ (by first | exact hwy | exact hwy.app (W1.bytes [44])) (by have q1 := wtVs_nth hiv; (try simp only [List.length_append, List.length_cons, List.length_nil]); omega)) rfl rfl ⟨.inl rfl, .inl rfl, trivial⟩ ⟨rfl, trivial⟩ rfl rfl rfl) rfl ?_
        refine g_u (yQ rfl rfl) <| zF <| zM <| zA <| zB <| g_u (yB rfl rfl rfl) <| g_u (zC rfl rfl) <| zF <| zA ?_
        refine ⟨⟨i + 1, _⟩, ⟨hiv, ?_⟩, ⟨rfl, rfl, rfl, rfl, zV rfl (by rw [zZ (by omega) (by omega)]; rfl), trivial⟩, by dsimp only; omega⟩
        dsimp only
        rw [jsonVs_take hiv, hc]
        subst h2
        simp only [List.append_assoc, List.cons_append, List.nil_append, ← yX, bytesL_cons, bytesL_nil, xS, vG]
        try rfl
      · have hc : comma (i == 0) = [] := by have hp : i = 0 := (by have := of_decide_eq_false hb2; omega); rw [hp]; rfl
        refine zO <| zA <| zB <| g_u (yN rfl rfl) <| g_u (zl rfl rfl rfl tA91 tS91 rfl rfl) ?_
        refine g_uG (xA [(100001, 100001)] (ih _ (nthV_mem hiv) _ (by first | exact hwy | exact hwy.app (W1.bytes [44])) (by have q1 := wtVs_nth hiv; (try simp only [List.length_append, List.length_cons, List.length_nil]); omega)) rfl rfl ⟨.inl rfl, .inl rfl, trivial⟩ ⟨rfl, trivial⟩ rfl rfl rfl) rfl ?_
        refine g_u (yQ rfl rfl) <| zF <| zM <| zA <| zB <| g_u (yB rfl rfl rfl) <| g_u (zC rfl rfl) <| zF <| zA ?_
        refine ⟨⟨i + 1, _⟩, ⟨hiv, ?_⟩, ⟨rfl, rfl, rfl, rfl, zV rfl (by rw [zZ (by omega) (by omega)]; rfl), trivial⟩, by dsimp only; omega⟩
        dsimp only
        rw [jsonVs_take hiv, hc]
        subst h2
        simp only [List.append_assoc, List.cons_append, List.nil_append, ← yX, bytesL_cons, bytesL_nil, xS, vG]
        try rfl
    · have hi : i = v.list.length := by have := of_decide_eq_false hb1; simp only [List.length_map] at this; omega
      refine zv <| zU <| zU <| zp <| zA <| zD <| zB <| g_u (yN rfl rfl) <| g_u (zu (X0 := z5) rfl Tryz.underlying85 tS5 tZ5 rfl rfl rfl rfl rfl rfl rfl rfl) ?_
      refine g_u (yW rfl rfl rfl rfl rfl Tryz.underlying85 Tryz.underlying85 tS5 zv5 rfl (by decide) by5 (by (try dsimp only); simp only [List.length_append, List.length_cons, List.length_nil]; omega) (by (try dsimp only); simp only [List.length_append, List.length_cons, List.length_nil]; omega)) ?_
      refine g_u (yQ rfl rfl) <| zF <| zA <| zJ <| ze <| zK ?_
      exact ⟨⟨.inr ⟨_, rfl, wx rfl (by rw [json6 hk, h2, hi, List.take_of_length_le (Nat.le_refl _), List.append_assoc]; exact congrArg (xs ++ ·) (yX _ [93])), rfl⟩, trivial⟩, ⟨xZ rfl (by rw [json6 hk, h2, hi, List.take_of_length_le (Nat.le_refl _), List.append_assoc]; exact congrArg (xs ++ ·) (yX _ [93])), trivial⟩⟩
theorem lay_m (v : GV) (ho : v.ok) (hw : v.wt ≤ 10000000) (xs : List AV) (hx : W1 xs) (hl : xs.length + 150 * v.wt ≤ 5000000000) (hk : v.kind = 7) (ih : ∀ a ∈ v.map, ∀ xs : List AV, W1 xs → xs.length + 150 * a.val.wt ≤ 5000000000 → wj Tryz.prog Γ0 181 [.slg 100001 1 xs, .imm a.val.av] [(100001, .tok 1 xs)] (.slg 100001 1 (xs ++ zn (xH a.val))) [(100001, .tok 1 (xs ++ zn (xH a.val)))]) : wj Tryz.prog Γ0 181 [.slg 100001 1 xs, .imm v.av] [(100001, .tok 1 xs)] (.slg 100001 1 (xs ++ zn (xH v))) [(100001, .tok 1 (xs ++ zn (xH v)))] := by
  have lv := x_ v.list
  have la := yr v.map
  have ek := v.wt_eq
  have ok := v.ok_iff.1 ho
  have sl := yf v
  have jl := xw v
  refine yi (rs := [.slg 100001 1 (xs ++ zn (xH v))]) Tryz.func181 rfl Tryz.ntmps181 (by kernel_rfl) rfl rfl rfl rfl rfl fun w0 I0 G0 E => ?_
  refine zD <| zB <| g_uG (zi 1003 rfl rfl rfl rfl) rfl <| g_u (zE rfl rfl) <| zF <| zA <| zD <| zD <| zB <| g_u (zH rfl rfl rfl tA91 tS91 rfl rfl) <| g_u (zT (thing_m hk (thing_c v ho hw)) rfl rfl) <| zF <| zA <| zQ <| zD <| zB ?_
  refine g_u (y7 rfl rfl nI198 tZ198 (fun z h => by rw [zv198] at h; cases h; rfl) rfl) ?_
  refine g_u (zh rfl rfl rfl rfl) <| g_u (zh rfl rfl rfl rfl) <| zF <| zA <| zd rfl <| zD <| zB ?_
  refine g_u (y7 rfl rfl nI197 tZ197 (fun z h => by rw [zv197] at h; cases h; rfl) rfl) ?_
  refine g_u (zh rfl rfl rfl rfl) <| g_u (zh rfl rfl rfl rfl) <| zF <| zA <| zd rfl <| zD <| zB ?_
  refine g_u (y7 rfl rfl nI239 tZ239 (fun z h => by rw [zv239] at h; cases h; rfl) rfl) ?_
  refine g_u (zh rfl rfl rfl rfl) <| g_u (zh rfl rfl rfl rfl) <| zF <| zA <| zd rfl <| zD <| zB <| g_u (w_ rfl rfl nI240) <| g_u (zh rfl rfl rfl rfl) <| g_u (zh rfl rfl rfl rfl) <| zF <| zA <| zk rfl <| zD <| zB <| g_u (zE rfl rfl) <| zF <| zA <| zD <| zB <| g_u (yN rfl rfl) <| g_u (zu (X0 := z5) rfl Tryz.underlying85 tS5 tZ5 rfl rfl rfl rfl rfl rfl rfl rfl) ?_
  refine g_u (yW rfl rfl rfl rfl rfl Tryz.underlying85 Tryz.underlying85 tS5 zv5 rfl (by decide) by5 (by (try dsimp only); (try (have q1 := xN hia; have q2 := (nthA v.map i).wt_eq; have q3 := yI (lst (nthA v.map i).key); have q4 := yV (nthA v.map i).key)); (try simp only [List.length_append, List.length_cons, List.length_nil, yC]); omega) (by (try dsimp only); (try (have q1 := xN hia; have q2 := (nthA v.map i).wt_eq; have q3 := yI (lst (nthA v.map i).key); have q4 := yV (nthA v.map i).key)); (try simp only [List.length_append, List.length_cons, List.length_nil, yC]); omega)) ?_
  refine g_u (yQ rfl rfl) <| zF <| zA <| zD <| zD <| zB <| g_u (zC rfl rfl) <| g_u (zx rfl rfl Tryz.underlying240) <| g_u (zC rfl rfl) <| zF <| zA <| zQ ?_
  refine zs (fun j : Nat × List AV => [(0, .slg 100001 1 j.2), (100001, .tok 1 j.2), (58, .imm (.sl 7 (v.map.map avA))), (59, .imm (iv (v.map.length : Int))), (60, .imm (iv (j.1 : Int)))]) (fun j => j.1 ≤ v.map.length ∧ j.2 = xs ++ zn (123 :: jsonAs true (v.map.take j.1))) (fun j => v.map.length - j.1) (⟨0, xs ++ zn [123]⟩) ?_ ⟨rfl, rfl, rfl, zV rfl (by rw [List.length_map]), rfl, trivial⟩ ?_
  · exact ⟨Nat.zero_le _, rfl⟩
  · rintro ⟨i, ys⟩ ⟨h1, h2⟩; dsimp only at h1 h2; have hlen : ys.length ≤ xs.length + 1 + 150 * wtAs (v.map.take i) := by have := jsonAs_len (v.map.take i) true; rw [h2, List.length_append, yC, List.length_cons]; omega
    have hwy : W1 ys := by rw [h2]; exact hx.app (W1.bytes _)
    have htk := wtAs_take v.map i
    refine zD <| zB <| g_u (yU rfl rfl rfl) <| zF <| zA <| zD ?_
    refine zN rfl (fun hb1 => ?_) (fun hb1 => ?_)
    · have hia : i < v.map.length := by have := of_decide_eq_true hb1; simp only [List.length_map] at this; omega
      have hka : (nthA v.map i).key.size ≤ 10000000000 := by have q1 := xN hia; have q4 := (nthA v.map i).wt_eq; omega
      refine zO <| zA <| zD <| zQ <| zD <| zB <| g_u (zC rfl rfl) ?_
      refine g_u (za rfl rfl rfl Tryz.underlying240 tS93 (by omega) (ixA hia)) ?_
      refine g_u (zW rfl rfl tA93 tS93 rfl rfl) <| g_uG (zo 1012 rfl rfl rfl tZ93) rfl <| g_u (zE rfl rfl) <| g_u (zL rfl rfl rfl tS93 rfl rfl) <| zF <| zA <| zD <| zD <| zB <| g_u (zC rfl rfl) <| g_u (wl rfl rfl rfl) <| zF <| zA ?_
      refine zN rfl (fun hb2 => ?_) (fun hb2 => ?_)
      · have hc : comma (i == 0) = [44] := by have hp : i ≠ 0 := (by have := of_decide_eq_true hb2; omega); rw [show (i == 0) = false from by simpa using hp]; rfl
        refine zB <| g_u (yN rfl rfl) <| g_u (zu (X0 := z5) rfl Tryz.underlying85 tS5 tZ5 rfl rfl rfl rfl rfl rfl rfl rfl) ?_
        refine g_u (yW rfl rfl rfl rfl rfl Tryz.underlying85 Tryz.underlying85 tS5 zv5 rfl (by decide) by5 (by (try dsimp only); (try (have q1 := xN hia; have q2 := (nthA v.map i).wt_eq; have q3 := yI (lst (nthA v.map i).key); have q4 := yV (nthA v.map i).key)); (try simp only [List.length_append, List.length_cons, List.length_nil, yC]); omega) (by (try dsimp only); (try (have q1 := xN hia; have q2 := (nthA v.map i).wt_eq; have q3 := yI (lst (nthA v.map i).key); have q4 := yV (nthA v.map i).key)); (try simp only [List.length_append, List.length_cons, List.length_nil, yC]); omega)) ?_
        refine g_u (yQ rfl rfl) <| zF <| zA <| yw mixed <| g_u (yN rfl rfl) <| g_u (zG rfl rfl fa93_0 rfl) <| g_u (zH rfl rfl rfl tA9 tS9 rfl rfl) ?_
        refine g_uG (xA [(3014, 20001)] (jput_c _ _ (by first | exact hwy | exact hwy.app (W1.bytes [44])) hka (by have q1 := xN hia; have q2 := (nthA v.map i).wt_eq; have q3 := yI (lst (nthA v.map i).key); have q4 := yV (nthA v.map i).key; (try simp only [List.length_append, List.length_cons, List.length_nil, yC]); omega)) rfl rfl ⟨.inr ⟨_, rfl, rfl⟩, .inl rfl, trivial⟩ trivial rfl rfl rfl) rfl ?_
        refine g_u (zu (X0 := z5) rfl Tryz.underlying85 tS5 tZ5 rfl rfl rfl rfl rfl rfl rfl rfl) ?_
        refine g_u (yW rfl rfl rfl rfl rfl Tryz.underlying85 Tryz.underlying85 tS5 zv5 rfl (by decide) by5 (by (try dsimp only); (try (have q1 := xN hia; have q2 := (nthA v.map i).wt_eq; have q3 := yI (lst (nthA v.map i).key); have q4 := yV (nthA v.map i).key)); (try simp only [List.length_append, List.length_cons, List.length_nil, yC]); omega) (by (try dsimp only); (try (have q1 := xN hia; have q2 := (nthA v.map i).wt_eq; have q3 := yI (lst (nthA v.map i).key); have q4 := yV (nthA v.map i).key)); (try simp only [List.length_append, List.length_cons, List.length_nil, yC]); omega)) ?_
        refine g_u (zG rfl rfl fa93_1 rfl) <| g_u (zH rfl rfl rfl tA91 tS91 rfl rfl) ?_
        refine g_uG (xA [(100001, 20001)] (ih _ (xm hia) _ (by first | exact ((hwy.app (W1.bytes _)).app (W1.bytes [58])) | exact (((hwy.app (W1.bytes [44])).app (W1.bytes _)).app (W1.bytes [58]))) (by show _ + 150 * (nthA v.map i).val.wt ≤ 5000000000; have q1 := xN hia; have q2 := (nthA v.map i).wt_eq; have q3 := yI (lst (nthA v.map i).key); have q4 := yV (nthA v.map i).key; (try simp only [List.length_append, List.length_cons, List.length_nil, yC]); omega)) rfl rfl ⟨.inl rfl, .inl rfl, trivial⟩ ⟨rfl, trivial⟩ rfl rfl rfl) rfl ?_
        refine g_u (yQ rfl rfl) ?_
        refine zF ⟨by kernel_rfl, ?_⟩
        refine zM <| zA ?_
        refine aw_renTok 20001 100001 1 _ [(0, .slg 100001 1 _), (58, .imm (.sl 7 (v.map.map avA))), (59, .imm (iv (v.map.length : Int))), (60, .imm (iv (i : Int)))] rfl rfl rfl rfl rfl rfl ⟨.inr (.inl ⟨rfl, rfl⟩), .inl ⟨rfl, rfl⟩, .inl ⟨rfl, rfl⟩, .inl ⟨rfl, rfl⟩, trivial⟩ (by simp only [List.length_append, List.length_cons, List.length_nil, yC]; omega) ?_
        refine zB <| g_u (yB rfl rfl rfl) <| g_u (zC rfl rfl) <| zF <| zA ?_
        refine ⟨⟨i + 1, _⟩, ⟨hia, ?_⟩, ⟨rfl, rfl, rfl, rfl, zV rfl (by rw [zZ (by omega) (by omega)]; rfl), trivial⟩, by dsimp only; omega⟩
        dsimp only
        rw [jsonAs_take hia, hc, jsonA_eq]
        subst h2
        simp only [List.append_assoc, List.cons_append, List.nil_append, ← yX, bytesL_cons, bytesL_nil, xS, vG]
        try rfl
      · have hc : comma (i == 0) = [] := by have hp : i = 0 := (by have := of_decide_eq_false hb2; omega); rw [hp]; rfl
        refine zO <| zA <| yw mixed <| g_u (yN rfl rfl) <| g_u (zG rfl rfl fa93_0 rfl) <| g_u (zH rfl rfl rfl tA9 tS9 rfl rfl) ?_
        refine g_uG (xA [(3014, 20002)] (jput_c _ _ (by first | exact hwy | exact hwy.app (W1.bytes [44])) hka (by have q1 := xN hia; have q2 := (nthA v.map i).wt_eq; have q3 := yI (lst (nthA v.map i).key); have q4 := yV (nthA v.map i).key; (try simp only [List.length_append, List.length_cons, List.length_nil, yC]); omega)) rfl rfl ⟨.inr ⟨_, rfl, rfl⟩, .inl rfl, trivial⟩ trivial rfl rfl rfl) rfl ?_
        refine g_u (zu (X0 := z5) rfl Tryz.underlying85 tS5 tZ5 rfl rfl rfl rfl rfl rfl rfl rfl) ?_
        refine g_u (yW rfl rfl rfl rfl rfl Tryz.underlying85 Tryz.underlying85 tS5 zv5 rfl (by decide) by5 (by (try dsimp only); (try (have q1 := xN hia; have q2 := (nthA v.map i).wt_eq; have q3 := yI (lst (nthA v.map i).key); have q4 := yV (nthA v.map i).key)); (try simp only [List.length_append, List.length_cons, List.length_nil, yC]); omega) (by (try dsimp only); (try (have q1 := xN hia; have q2 := (nthA v.map i).wt_eq; have q3 := yI (lst (nthA v.map i).key); have q4 := yV (nthA v.map i).key)); (try simp only [List.length_append, List.length_cons, List.length_nil, yC]); omega)) ?_
        refine g_u (zG rfl rfl fa93_1 rfl) <| g_u (zH rfl rfl rfl tA91 tS91 rfl rfl) ?_
        refine g_uG (xA [(100001, 20002)] (ih _ (xm hia) _ (by first | exact ((hwy.app (W1.bytes _)).app (W1.bytes [58])) | exact (((hwy.app (W1.bytes [44])).app (W1.bytes _)).app (W1.bytes [58]))) (by show _ + 150 * (nthA v.map i).val.wt ≤ 5000000000; have q1 := xN hia; have q2 := (nthA v.map i).wt_eq; have q3 := yI (lst (nthA v.map i).key); have q4 := yV (nthA v.map i).key; (try simp only [List.length_append, List.length_cons, List.length_nil, yC]); omega)) rfl rfl ⟨.inl rfl, .inl rfl, trivial⟩ ⟨rfl, trivial⟩ rfl rfl rfl) rfl ?_
        refine g_u (yQ rfl rfl) ?_
        refine zF ⟨by kernel_rfl, ?_⟩
        refine zM <| zA ?_
        refine aw_renTok 20002 100001 1 _ [(0, .slg 100001 1 _), (58, .imm (.sl 7 (v.map.map avA))), (59, .imm (iv (v.map.length : Int))), (60, .imm (iv (i : Int)))] rfl rfl rfl rfl rfl rfl ⟨.inr (.inl ⟨rfl, rfl⟩), .inl ⟨rfl, rfl⟩, .inl ⟨rfl, rfl⟩, .inl ⟨rfl, rfl⟩, trivial⟩ (by simp only [List.length_append, List.length_cons, List.length_nil, yC]; omega) ?_
        refine zB <| g_u (yB rfl rfl rfl) <| g_u (zC rfl rfl) <| zF <| zA ?_
        refine ⟨⟨i + 1, _⟩, ⟨hia, ?_⟩, ⟨rfl, rfl, rfl, rfl, zV rfl (by rw [zZ (by omega) (by omega)]; rfl), trivial⟩, by dsimp only; omega⟩
        dsimp only
        rw [jsonAs_take hia, hc, jsonA_eq]
        subst h2
        simp only [List.append_assoc, List.cons_append, List.nil_append, ← yX, bytesL_cons, bytesL_nil, xS, vG]
        try rfl
    · have hi : i = v.map.length := by have := of_decide_eq_false hb1; simp only [List.length_map] at this; omega
      refine zv <| zU <| zU <| zp <| zA <| zD <| zB <| g_u (yN rfl rfl) <| g_u (zu (X0 := z5) rfl Tryz.underlying85 tS5 tZ5 rfl rfl rfl rfl rfl rfl rfl rfl) ?_
      refine g_u (yW rfl rfl rfl rfl rfl Tryz.underlying85 Tryz.underlying85 tS5 zv5 rfl (by decide) by5 (by (try dsimp only); (try (have q1 := xN hia; have q2 := (nthA v.map i).wt_eq; have q3 := yI (lst (nthA v.map i).key); have q4 := yV (nthA v.map i).key)); (try simp only [List.length_append, List.length_cons, List.length_nil, yC]); omega) (by (try dsimp only); (try (have q1 := xN hia; have q2 := (nthA v.map i).wt_eq; have q3 := yI (lst (nthA v.map i).key); have q4 := yV (nthA v.map i).key)); (try simp only [List.length_append, List.length_cons, List.length_nil, yC]); omega)) ?_
      refine g_u (yQ rfl rfl) <| zF <| zA <| zJ <| ze <| zK ?_
      exact ⟨⟨.inr ⟨_, rfl, wx rfl (by rw [json7 hk, h2, hi, List.take_of_length_le (Nat.le_refl _), List.append_assoc]; exact congrArg (xs ++ ·) (yX _ [125])), rfl⟩, trivial⟩, ⟨xZ rfl (by rw [json7 hk, h2, hi, List.take_of_length_le (Nat.le_refl _), List.append_assoc]; exact congrArg (xs ++ ·) (yX _ [125])), trivial⟩⟩
theorem lay_c (v : GV) : v.ok → v.wt ≤ 10000000 → ∀ xs : List AV, W1 xs → xs.length + 150 * v.wt ≤ 5000000000 → wj Tryz.prog Γ0 181 [.slg 100001 1 xs, .imm v.av] [(100001, .tok 1 xs)] (.slg 100001 1 (xs ++ zn (xH v))) [(100001, .tok 1 (xs ++ zn (xH v)))] := by
  refine GV.ind (P := fun v => v.ok → v.wt ≤ 10000000 → ∀ xs : List AV, W1 xs → xs.length + 150 * v.wt ≤ 5000000000 → wj Tryz.prog Γ0 181 [.slg 100001 1 xs, .imm v.av] [(100001, .tok 1 xs)] (.slg 100001 1 (xs ++ zn (xH v))) [(100001, .tok 1 (xs ++ zn (xH v)))]) ?_ v
  intro v h1 h2 ho hw xs hx hl
  have ok := v.ok_iff.1 ho
  have ek := v.wt_eq
  by_cases h6 : v.kind = 6
  · exact lay_l v ho hw xs hx hl h6 fun y hy ys hy1 hy2 => h1 y hy (ok.2.2.2.2.1 y hy) (by have := wtVs_mem hy; omega) ys hy1 hy2
  by_cases h7 : v.kind = 7
  · exact lay_m v ho hw xs hx hl h7 fun a ha ys hy1 hy2 => h2 a ha ((GA.ok_iff a).1 (ok.2.2.2.2.2 a ha)).2 (by have := wM ha; have := a.wt_eq; omega) ys hy1 hy2
  by_cases hq : v.kind = 1 ∨ v.kind = 4 ∨ v.kind = 5
  · exact lay_q v ho hw xs hx hl hq
  · exact lay_p v ho hw xs hx hl (by omega)
theorem json_c (v : GV) (ho : v.ok) (hw : v.wt ≤ 10000000) : zj Tryz.prog Γ0 116 [v.av] [sv (yT (xH v))] := by
  have lv := x_ v.list
  have la := yr v.map
  have ek := v.wt_eq
  have ok := v.ok_iff.1 ho
  have sl := yf v
  have jl := xw v
  refine zb Tryz.func116 rfl Tryz.ntmps116 (by kernel_rfl) rfl fun w0 I0 G0 => ?_
  refine zD <| zB <| g_uG (zi 1001 rfl rfl rfl rfl) rfl <| g_u (zE rfl rfl) <| zF <| zA <| zD <| zB <| g_u (zH rfl rfl rfl tA91 tS91 rfl rfl) ?_
  refine g_u (zT (pcall_nil (n := 1) (xs := [v.av]) (lay_c v ho hw [] (fun x hx => by cases hx) (by simp only [List.length_nil]; omega))) rfl rfl) ?_
  refine g_u (s_cvBS' (rfl) rfl rfl Tryz.underlying85 Tryz.underlying9 Tryz.underlying5) <| g_u (zE rfl rfl) <| zF <| zA <| zJ ?_
  exact ⟨⟨(rfl : toAV (Al.look _ _) = some _).trans (congrArg some (by rfl)), rfl⟩, trivial⟩
theorem text_q (v : GV) (ho : v.ok) (hw : v.wt ≤ 10000000) (hk : v.kind = 1 ∨ v.kind = 4 ∨ v.kind = 5) : zj Tryz.prog Γ0 82 [v.av] [sv (textM v)] := by
  have lv := x_ v.list
  have la := yr v.map
  have ek := v.wt_eq
  have ok := v.ok_iff.1 ho
  have sl := yf v
  have jl := xw v
  refine zb Tryz.func82 rfl Tryz.ntmps82 (by kernel_rfl) rfl fun w0 I0 G0 => ?_
  refine zD <| zB <| g_uG (zi 1001 rfl rfl rfl rfl) rfl <| g_u (zE rfl rfl) <| zF <| zA <| zD <| zD <| zB <| g_u (zH rfl rfl rfl tA91 tS91 rfl rfl) <| g_u (zT (thing_q hk (thing_c v ho hw)) rfl rfl) <| zF <| zA <| zQ <| zD <| zB <| g_u (w_ rfl rfl nI197) <| g_u (zh rfl rfl rfl rfl) <| g_u (zh rfl rfl rfl rfl) <| zF <| zA <| zk rfl <| zD <| zB <| g_u (zE rfl rfl) <| zF <| zA <| zD <| zB <| g_u (zC rfl rfl) <| g_u (zE rfl rfl) <| zF <| zA <| zJ <| ze <| zK ?_
  exact ⟨⟨(rfl : toAV (Al.look _ _) = some _).trans (congrArg some (by (rw [textE (by omega)]))), rfl⟩, trivial⟩
theorem text_p (v : GV) (ho : v.ok) (hw : v.wt ≤ 10000000) (hk : v.kind ≠ 1 ∧ v.kind ≠ 4 ∧ v.kind ≠ 5 ∧ v.kind ≠ 6 ∧ v.kind ≠ 7) : zj Tryz.prog Γ0 82 [v.av] [sv (textM v)] := by
  have lv := x_ v.list
  have la := yr v.map
  have ek := v.wt_eq
  have ok := v.ok_iff.1 ho
  have sl := yf v
  have jl := xw v
  refine zb Tryz.func82 rfl Tryz.ntmps82 (by kernel_rfl) rfl fun w0 I0 G0 => ?_
  refine zD <| zB <| g_uG (zi 1001 rfl rfl rfl rfl) rfl <| g_u (zE rfl rfl) <| zF <| zA <| zD <| zD <| zB <| g_u (zH rfl rfl rfl tA91 tS91 rfl rfl) <| g_u (zT (thing_p hk (thing_c v ho hw)) rfl rfl) <| zF <| zA <| zQ <| zD <| zB ?_
  refine g_u (y7 rfl rfl nI197 tZ197 (fun z h => by rw [zv197] at h; cases h; rfl) rfl) ?_
  refine g_u (zh rfl rfl rfl rfl) <| g_u (zh rfl rfl rfl rfl) <| zF <| zA <| zd rfl <| zD <| zB <| g_u (w_ rfl rfl nI198) <| g_u (zh rfl rfl rfl rfl) <| g_u (zh rfl rfl rfl rfl) <| zF <| zA <| zk rfl <| zD <| zB <| g_u (zE rfl rfl) <| zF <| zA <| zD <| zD <| zB <| g_u (zG rfl rfl fa91_0 rfl) <| g_u (zH rfl rfl rfl tA5 tS5 rfl rfl) <| g_u (yn rfl rfl rfl) <| zF <| zA ?_
  refine zN rfl (fun hb1 => ?_) (fun hb1 => ?_)
  · refine zD ?_
    refine zB <| g_u (zE rfl rfl) <| zF <| zA <| zJ <| zK <| ze <| zK ?_
    exact ⟨⟨(rfl : toAV (Al.look _ _) = some _).trans (congrArg some (by (simp only [beq_iff_eq, beq_eq_false_iff_ne, ne_eq, qa, qb] at *; rw [textE (by omega), simp6 (by omega)]; rfl))), rfl⟩, trivial⟩
  · refine zO ?_
    refine zA <| zD <| zB <| g_u (zC rfl rfl) <| g_u (zE rfl rfl) <| zF <| zA <| zJ <| ze <| zK ?_
    exact ⟨⟨(rfl : toAV (Al.look _ _) = some _).trans (congrArg some (by (simp only [beq_iff_eq, beq_eq_false_iff_ne, ne_eq, qa, qb] at *; rw [textE (by omega), jsonE (by omega)]))), rfl⟩, trivial⟩
theorem text_l (v : GV) (ho : v.ok) (hw : v.wt ≤ 10000000) (hk : v.kind = 6) : zj Tryz.prog Γ0 82 [v.av] [sv (textM v)] := by
  have lv := x_ v.list
  have la := yr v.map
  have ek := v.wt_eq
  have ok := v.ok_iff.1 ho
  have sl := yf v
  have jl := xw v
  refine zb Tryz.func82 rfl Tryz.ntmps82 (by kernel_rfl) rfl fun w0 I0 G0 => ?_
  refine zD <| zB <| g_uG (zi 1001 rfl rfl rfl rfl) rfl <| g_u (zE rfl rfl) <| zF <| zA <| zD <| zD <| zB <| g_u (zH rfl rfl rfl tA91 tS91 rfl rfl) <| g_u (zT (thing_l hk (thing_c v ho hw)) rfl rfl) <| zF <| zA <| zQ <| zD <| zB ?_
  refine g_u (y7 rfl rfl nI197 tZ197 (fun z h => by rw [zv197] at h; cases h; rfl) rfl) ?_
  refine g_u (zh rfl rfl rfl rfl) <| g_u (zh rfl rfl rfl rfl) <| zF <| zA <| zd rfl <| zD <| zB ?_
  refine g_u (y7 rfl rfl nI198 tZ198 (fun z h => by rw [zv198] at h; cases h; rfl) rfl) ?_
  refine g_u (zh rfl rfl rfl rfl) <| g_u (zh rfl rfl rfl rfl) <| zF <| zA <| zd rfl <| zO <| zM <| zA <| zD <| zB <| g_u (zH rfl rfl rfl tA91 tS91 rfl rfl) <| g_u (zT (json_c v ho hw) rfl rfl) <| g_u (zE rfl rfl) <| zF <| zA <| zJ ?_
  exact ⟨⟨(rfl : toAV (Al.look _ _) = some _).trans (congrArg some (by (rw [text6 (by omega)]))), rfl⟩, trivial⟩
theorem text_m (v : GV) (ho : v.ok) (hw : v.wt ≤ 10000000) (hk : v.kind = 7) : zj Tryz.prog Γ0 82 [v.av] [sv (textM v)] := by
  have lv := x_ v.list
  have la := yr v.map
  have ek := v.wt_eq
  have ok := v.ok_iff.1 ho
  have sl := yf v
  have jl := xw v
  refine zb Tryz.func82 rfl Tryz.ntmps82 (by kernel_rfl) rfl fun w0 I0 G0 => ?_
  refine zD <| zB <| g_uG (zi 1001 rfl rfl rfl rfl) rfl <| g_u (zE rfl rfl) <| zF <| zA <| zD <| zD <| zB <| g_u (zH rfl rfl rfl tA91 tS91 rfl rfl) <| g_u (zT (thing_m hk (thing_c v ho hw)) rfl rfl) <| zF <| zA <| zQ <| zD <| zB ?_
  refine g_u (y7 rfl rfl nI197 tZ197 (fun z h => by rw [zv197] at h; cases h; rfl) rfl) ?_
  refine g_u (zh rfl rfl rfl rfl) <| g_u (zh rfl rfl rfl rfl) <| zF <| zA <| zd rfl <| zD <| zB ?_
  refine g_u (y7 rfl rfl nI198 tZ198 (fun z h => by rw [zv198] at h; cases h; rfl) rfl) ?_
  refine g_u (zh rfl rfl rfl rfl) <| g_u (zh rfl rfl rfl rfl) <| zF <| zA <| zd rfl <| zO <| zM <| zA <| zD <| zB <| g_u (zH rfl rfl rfl tA91 tS91 rfl rfl) <| g_u (zT (json_c v ho hw) rfl rfl) <| g_u (zE rfl rfl) <| zF <| zA <| zJ ?_
  exact ⟨⟨(rfl : toAV (Al.look _ _) = some _).trans (congrArg some (by (rw [text6 (by omega)]))), rfl⟩, trivial⟩
theorem text_c (v : GV) (ho : v.ok) (hw : v.wt ≤ 10000000) : zj Tryz.prog Γ0 82 [v.av] [sv (textM v)] := by
  by_cases h6 : v.kind = 6
  · exact text_l v ho hw h6
  by_cases h7 : v.kind = 7
  · exact text_m v ho hw h7
  by_cases hq : v.kind = 1 ∨ v.kind = 4 ∨ v.kind = 5
  · exact text_q v ho hw hq
  · exact text_p v ho hw (by omega)
end Go.Proofs
namespace Go.Proofs
open Go Go.Al
set_option maxRecDepth 10000
theorem leftV_st (v : GV) (n : Int) (hn : -1 ≤ n ∧ n ≤ 1000000000) (ih : ∀ y ∈ v.list, ∀ n : Int, -1 ≤ n ∧ n ≤ 1000000000 → zj Tryz.prog Γ0 48 [y.av, iv n] [iv (leftV y n)]) (ihm : ∀ n : Int, -1 ≤ n ∧ n ≤ 1000000000 → zj Tryz.prog Γ0 23 [.sl 7 (v.map.map avA), iv n] [iv (yF v.map n)]) : zj Tryz.prog Γ0 48 [v.av, iv n] [iv (leftV v n)] := by
  have ek := v.wt_eq
  refine zb Tryz.func48 rfl Tryz.ntmps48 (by kernel_rfl) rfl fun w0 I0 G0 => ?_
  refine zD <| zB <| g_uG (zi 1002 rfl rfl rfl rfl) rfl <| g_u (zE rfl rfl) <| zF <| zA <| zD <| zD <| zB <| g_u (zC rfl rfl) <| g_u (yU rfl rfl rfl) <| g_u (zC rfl rfl) <| zz (t := 8) rfl ?_
  rintro (hb1 | hb1)
  · rw [hb1]
    have hn0 : n < 0 := of_decide_eq_true hb1
    refine zI rfl rfl rfl <| zI rfl rfl rfl <| zI rfl rfl rfl <| zI rfl rfl rfl <| zI rfl rfl rfl <| g_u (zX rfl rfl rfl) <| zF <| zA <| zk rfl <| zD <| zB <| g_u (zE rfl rfl) <| zF <| zA <| zJ <| zK ?_
    exact ⟨⟨(rfl : toAV (Al.look _ _) = some _).trans (congrArg some (by (exact congrArg iv (by rw [leftV_F, if_pos hn0])))), rfl⟩, trivial⟩
  · rw [hb1]
    have hn0 : ¬ n < 0 := of_decide_eq_false hb1
    refine zP rfl rfl (zG rfl rfl fa91_1 rfl) <| zP rfl rfl (zH rfl rfl rfl tA9 tS9 rfl rfl) <| zP rfl rfl (yd rfl rfl Tryz.underlying9) <| zP rfl rfl (zC rfl rfl) <| zP rfl rfl (wl rfl rfl rfl) <| g_u (zg rfl rfl rfl) <| zF <| zA ?_
    refine zN rfl (fun hb2 => ?_) (fun hb2 => ?_)
    · have ht0 : (v.text.size : Int) > n := of_decide_eq_true hb2
      refine zD <| zB <| g_u (zE rfl rfl) <| zF <| zA <| zJ <| zK ?_
      exact ⟨⟨(rfl : toAV (Al.look _ _) = some _).trans (congrArg some (by (exact congrArg iv (by rw [leftV_F, if_neg hn0]; unfold leftF; rw [if_neg (by omega)])))), rfl⟩, trivial⟩
    · have ht0 : ¬ (v.text.size : Int) > n := of_decide_eq_false hb2
      have hL : -1 ≤ n - 1 - v.text.size := by omega
      refine zO <| zA <| zD <| zB <| g_u (zC rfl rfl) <| g_u (s_sub rfl rfl rfl) <| g_u (zG rfl rfl fa91_1 rfl) <| g_u (zH rfl rfl rfl tA9 tS9 rfl rfl) <| g_u (yd rfl rfl Tryz.underlying9) <| g_u (s_sub rfl rfl rfl) <| g_u (zE rfl rfl) <| zF <| zA <| zD <| zD <| zB <| g_u (zE rfl rfl) <| zF <| zA <| zQ ?_
      refine zs (fun i : Nat => [(2, .ptr 1002 0), (1002, .box 91 (.imm v.av)), (1, .imm (iv (leftF (n - 1 - v.text.size) (wtVs (v.list.take i))))), (5, .imm (iv (i : Int)))]) (fun i => i ≤ v.list.length) (fun i => v.list.length - i) (0) ?_ ⟨rfl, rfl, zV rfl (by rw [show wtVs (v.list.take 0) = 0 from rfl, leftF_zero hL, zZ (n := n - 1) (by omega) (by omega), zZ (by omega) (by omega)]), rfl, trivial⟩ ?_
      · exact Nat.zero_le _
      · rintro i h1; have h1 : i ≤ v.list.length := h1; have bd := leftF_bd hL (wtVs (v.list.take i))
        refine zD <| zD <| zB <| g_u (zC rfl rfl) <| g_u (zG rfl rfl vI rfl) <| g_u (zH rfl rfl rfl tA89 tS89 rfl rfl) <| g_u (zx rfl rfl Tryz.underlying89) <| g_u (yU rfl rfl rfl) <| g_u (zC rfl rfl) <| zz (t := 26) rfl ?_
        rintro (hb3 | hb3)
        · rw [hb3]
          have hiv : i < v.list.length := by have := of_decide_eq_true hb3; (try simp only [List.length_map] at this); omega
          refine zP rfl rfl (zC rfl rfl) <| zP rfl rfl (s_geI rfl rfl rfl) <| g_u (zX rfl rfl rfl) <| zF <| zA ?_
          refine zN rfl (fun hb4 => ?_) (fun hb4 => ?_)
          · have hs : 0 ≤ leftF (n - 1 - v.text.size) (wtVs (v.list.take i)) := of_decide_eq_true hb4
            have hi9 := leftV_len hs h1
            refine zO <| zA <| zD <| zQ <| zB <| g_u (zG rfl rfl vI rfl) <| g_u (zH rfl rfl rfl tA89 tS89 rfl rfl) <| g_u (zC rfl rfl) ?_
            refine g_u (za rfl rfl rfl Tryz.underlying89 tS91 (by omega) (ixV hiv)) ?_
            refine g_u (zW rfl rfl tA91 tS91 rfl rfl) <| g_u (zC rfl rfl) ?_
            refine g_u (zT (ih _ (nthV_mem hiv) _ ⟨bd.1, by have := bd.2; omega⟩) rfl rfl) ?_
            refine g_u (zE rfl rfl) <| zF <| zM <| zA <| zB <| g_u (zC rfl rfl) <| g_u (yB rfl rfl rfl) <| g_u (zE rfl rfl) <| zF <| zA ?_
            refine ⟨i + 1, hiv, ⟨rfl, rfl, zV rfl (leftV_step hiv hs), zV rfl (by rw [zZ (by omega) (by omega)]; rfl), trivial⟩, by (try dsimp only); omega⟩
          · have hs : ¬ 0 ≤ leftF (n - 1 - v.text.size) (wtVs (v.list.take i)) := of_decide_eq_false hb4
            refine zv <| zU <| zU <| zp <| zA <| zD <| zB <| g_u (zG rfl rfl vH rfl) <| g_u (zH rfl rfl rfl tA46 tS46 rfl rfl) <| g_u (zC rfl rfl) ?_
            refine g_u (zT (ihm _ ⟨bd.1, by have := bd.2; omega⟩) rfl rfl) ?_
            refine g_u (zE rfl rfl) <| zF <| zA <| zJ ?_
            exact ⟨⟨(rfl : toAV (Al.look _ _) = some _).trans (congrArg some (by (exact congrArg iv (leftV_fin hn0 ht0 (by first | exact .inl hivn | exact .inr (by omega)))))), rfl⟩, trivial⟩
        · rw [hb3]
          have hivn : i = v.list.length := by have := of_decide_eq_false hb3; (try simp only [List.length_map] at this); omega
          refine zI rfl rfl rfl <| zI rfl rfl rfl <| g_u (zg rfl rfl rfl) <| zF <| zA <| zd rfl <| zv <| zU <| zU <| zp <| zA <| zD <| zB <| g_u (zG rfl rfl vH rfl) <| g_u (zH rfl rfl rfl tA46 tS46 rfl rfl) <| g_u (zC rfl rfl) ?_
          refine g_u (zT (ihm _ ⟨bd.1, by have := bd.2; omega⟩) rfl rfl) ?_
          refine g_u (zE rfl rfl) <| zF <| zA <| zJ ?_
          exact ⟨⟨(rfl : toAV (Al.look _ _) = some _).trans (congrArg some (by (exact congrArg iv (leftV_fin hn0 ht0 (by first | exact .inl hivn | exact .inr (by omega)))))), rfl⟩, trivial⟩
theorem leftAs_st (l : List GA) (n : Int) (hn : -1000000000000 ≤ n ∧ n ≤ 1000000000) (ih : ∀ a ∈ l, ∀ n : Int, -1 ≤ n ∧ n ≤ 1000000000 → zj Tryz.prog Γ0 48 [a.val.av, iv n] [iv (leftV a.val n)]) : zj Tryz.prog Γ0 23 [.sl 7 (l.map avA), iv n] [iv (yF l n)] := by
  refine zb Tryz.func23 rfl Tryz.ntmps23 (by kernel_rfl) rfl fun w0 I0 G0 => ?_
  refine zD <| zB <| g_u (zE rfl rfl) <| zF <| zA <| zD <| zD <| zB <| g_u (zE rfl rfl) <| zF <| zA <| zQ ?_
  refine zs (fun i : Nat => [(0, .imm (.sl 7 (l.map avA))), (1, .imm (iv (yF (l.take i) n))), (5, .imm (iv (i : Int)))]) (fun i => i ≤ l.length) (fun i => l.length - i) (0) ?_ ⟨rfl, zV rfl (leftAs_zero l).symm, rfl, trivial⟩ ?_
  · exact Nat.zero_le _
  · rintro i h1; have h1 : i ≤ l.length := h1; have bd := xz (l.take i) n
    refine zD <| zD <| zB <| g_u (zC rfl rfl) <| g_u (zC rfl rfl) <| g_u (zx rfl rfl Tryz.underlying46) <| g_u (yU rfl rfl rfl) <| g_u (zC rfl rfl) <| zz (t := 10) rfl ?_
    rintro (hb1 | hb1)
    · rw [hb1]
      have hia : i < l.length := by have := of_decide_eq_true hb1; (try simp only [List.length_map] at this); omega
      refine zP rfl rfl (zC rfl rfl) <| zP rfl rfl (s_geI rfl rfl rfl) <| g_u (zX rfl rfl rfl) <| zF <| zA ?_
      refine zN rfl (fun hb2 => ?_) (fun hb2 => ?_)
      · have hs : 0 ≤ yF (l.take i) n := of_decide_eq_true hb2
        have hi9 := leftAs_len hs h1
        refine zO <| zA <| zD <| zQ <| zD <| zD <| zB <| g_u (zC rfl rfl) <| g_u (zC rfl rfl) ?_
        refine g_u (za rfl rfl rfl Tryz.underlying46 tS93 (by omega) (ixA hia)) ?_
        refine g_u (zY rfl rfl fa93_0 rfl rfl) <| g_u (zW rfl rfl tA9 tS9 rfl rfl) <| g_u (yd rfl rfl Tryz.underlying9) <| g_u (zC rfl rfl) <| g_u (wl rfl rfl rfl) <| zF <| zA ?_
        refine zN rfl (fun hb3 => ?_) (fun hb3 => ?_)
        · have hk : ((nthA l i).key.size : Int) > yF (l.take i) n := of_decide_eq_true hb3
          refine zD <| zB <| g_u (zE rfl rfl) <| zF <| zA <| zJ <| zK <| ze <| zK <| zK <| ze <| zK ?_
          exact ⟨⟨(rfl : toAV (Al.look _ _) = some _).trans (congrArg some (by (exact congrArg iv (leftAs_out hia hs hk)))), rfl⟩, trivial⟩
        · have hk : ¬ ((nthA l i).key.size : Int) > yF (l.take i) n := of_decide_eq_false hb3
          have ew : IntKind.i64.wrap (yF (l.take i) n - (nthA l i).key.size) = yF (l.take i) n - (nthA l i).key.size := zZ (by omega) (by omega)
          refine zO <| zA <| yw mixed <| g_u (zC rfl rfl) <| g_u (zC rfl rfl) ?_
          refine g_u (za rfl rfl rfl Tryz.underlying46 tS93 (by omega) (ixA hia)) ?_
          refine g_u (zY rfl rfl fa93_1 rfl rfl) <| g_u (zW rfl rfl tA91 tS91 rfl rfl) <| g_u (zC rfl rfl) <| g_u (zC rfl rfl) <| g_u (zC rfl rfl) ?_
          refine g_u (za rfl rfl rfl Tryz.underlying46 tS93 (by omega) (ixA hia)) ?_
          refine g_u (zY rfl rfl fa93_0 rfl rfl) <| g_u (zW rfl rfl tA9 tS9 rfl rfl) <| g_u (yd rfl rfl Tryz.underlying9) <| g_u (s_sub rfl rfl rfl) ?_
          refine g_u (zT ((show zj Tryz.prog Γ0 48 [(nthA l i).val.av, iv (IntKind.i64.wrap (yF (l.take i) n - (nthA l i).key.size))] [iv (leftV (nthA l i).val (yF (l.take i) n - (nthA l i).key.size))] from by rw [ew]; exact ih _ (xm hia) _ ⟨by omega, by omega⟩)) rfl rfl) ?_
          refine g_u (zE rfl rfl) ?_
          refine zF ⟨by kernel_rfl, ?_⟩
          refine zM <| zA <| zB <| g_u (zC rfl rfl) <| g_u (yB rfl rfl rfl) <| g_u (zE rfl rfl) <| zF <| zA ?_
          refine ⟨i + 1, hia, ⟨rfl, zV rfl (leftAs_step hia hs hk), zV rfl (by rw [zZ (by omega) (by omega)]; rfl), trivial⟩, by (try dsimp only); omega⟩
      · have hs : ¬ 0 ≤ yF (l.take i) n := of_decide_eq_false hb2
        refine zv <| zU <| zU <| zp <| zA <| zD <| zB <| g_u (zC rfl rfl) <| g_u (zE rfl rfl) <| zF <| zA <| zJ ?_
        exact ⟨⟨(rfl : toAV (Al.look _ _) = some _).trans (congrArg some (by (exact congrArg iv (leftAs_fin (by first | exact .inl hian | exact .inr (by omega)))))), rfl⟩, trivial⟩
    · rw [hb1]
      have hian : i = l.length := by have := of_decide_eq_false hb1; (try simp only [List.length_map] at this); omega
      refine zI rfl rfl rfl <| zI rfl rfl rfl <| g_u (zg rfl rfl rfl) <| zF <| zA <| zd rfl <| zv <| zU <| zU <| zp <| zA <| zD <| zB <| g_u (zC rfl rfl) <| g_u (zE rfl rfl) <| zF <| zA <| zJ ?_
      exact ⟨⟨(rfl : toAV (Al.look _ _) = some _).trans (congrArg some (by (exact congrArg iv (leftAs_fin (by first | exact .inl hian | exact .inr (by omega)))))), rfl⟩, trivial⟩
theorem leftV_c (v : GV) : ∀ n : Int, -1 ≤ n ∧ n ≤ 1000000000 → zj Tryz.prog Γ0 48 [v.av, iv n] [iv (leftV v n)] := by
  refine GV.ind (P := fun v => ∀ n : Int, -1 ≤ n ∧ n ≤ 1000000000 → zj Tryz.prog Γ0 48 [v.av, iv n] [iv (leftV v n)]) ?_ v
  intro v h1 h2 n hn
  exact leftV_st v n hn h1 fun n hn => leftAs_st v.map n (by omega) h2
theorem leftAs_c (l : List GA) (n : Int) (hn : -1000000000000 ≤ n ∧ n ≤ 1000000000) : zj Tryz.prog Γ0 23 [.sl 7 (l.map avA), iv n] [iv (yF l n)] := leftAs_st l n hn fun a _ => leftV_c a.val
end Go.Proofs
namespace Go.Proofs
open Go Go.Al
set_option maxRecDepth 10000
theorem z52_w : AV.width z52 = 42 := by kernel_rfl
theorem z107_w : AV.width z107 = 26 := by kernel_rfl
theorem sumA_c (l : List GA) (F : GA → Nat) (fn : FuncId) (caps : List AV) (hf : ∀ y ∈ l, zj Tryz.prog Γ0 fn (y.av :: caps) [iv (F y : Nat)]) (hl : l.length ≤ 1000000000000) (hF : zr F l ≤ 10000000000000000) : zj Tryz.prog Γ0 132 [.sl 7 (l.map avA), .fn (.func fn) [] caps] [iv (zr F l : Nat)] := by
  refine zb Tryz.func132 rfl Tryz.ntmps132 (by kernel_rfl) rfl fun w0 I0 G0 => ?_
  refine zD <| zB <| g_u (zE rfl rfl) <| zF <| zA <| zD <| zB <| g_u (zE rfl rfl) <| zF <| zA <| zD <| zD <| zB <| g_u (zC rfl rfl) <| g_u (zx rfl rfl Tryz.underlying46) <| g_u (zC rfl rfl) <| zF <| zA <| zQ ?_
  refine zs (fun i : Nat => [(1, .imm (.fn (.func fn) [] caps)), (5, .imm (iv (zr F (l.take i) : Nat))), (8, .imm (.sl 7 (l.map avA))), (9, .imm (iv (l.length : Int))), (10, .imm (iv (i : Int)))]) (fun i => i ≤ l.length) (fun i => l.length - i) (0) ?_ ⟨rfl, rfl, rfl, zV rfl (by rw [List.length_map]), rfl, trivial⟩ ?_
  · exact Nat.zero_le _
  · rintro i h1; have h1 : i ≤ l.length := h1
    refine zD <| zB <| g_u (yU rfl rfl rfl) <| zF <| zA <| zD ?_
    refine zN rfl (fun hb1 => ?_) (fun hb1 => ?_)
    · have hi : i < l.length := by have := of_decide_eq_true hb1; (try simp only [List.length_map] at this); omega
      refine zO <| zA <| zD <| zQ <| zD <| zB ?_
      refine g_u (za rfl rfl rfl Tryz.underlying46 tS93 (by omega) (ixA hi)) ?_
      refine g_u (zW rfl rfl tA93 tS93 rfl rfl) <| g_uG (zo 1007 rfl rfl rfl tZ93) rfl <| g_u (zL rfl rfl rfl tS93 rfl rfl) <| zF <| zA <| zB <| g_u (zC rfl rfl) <| g_u (zC rfl rfl) <| g_u (zl rfl rfl rfl tA93 tS93 rfl rfl) <| g_u (xQ (hf _ (xm hi)) rfl rfl rfl) <| g_u (yB rfl rfl rfl) <| g_u (zE rfl rfl) <| zF <| zM <| zA <| zB <| g_u (yB rfl rfl rfl) <| g_u (zC rfl rfl) <| zF <| zA ?_
      have q1 := wd (F := F) (d := a0) hi
      have q2 := sumBy_nth (F := F) (d := a0) hi
      refine ⟨i + 1, hi, ⟨rfl, zV rfl (by show IntKind.i64.wrap ((zr F (l.take i) : Int) + (F (nth l i a0) : Int)) = _; rw [zZ (by omega) (by omega), q2]; rfl), rfl, rfl, zV rfl (by rw [zZ (by omega) (by omega)]; rfl), trivial⟩, by (try dsimp only); omega⟩
    · have hin : i = l.length := by have := of_decide_eq_false hb1; (try simp only [List.length_map] at this); omega
      refine zv <| zU <| zU <| zp <| zA <| zD <| zB <| g_u (zC rfl rfl) <| g_u (zE rfl rfl) <| zF <| zA <| zJ ?_
      exact ⟨⟨(rfl : toAV (Al.look _ _) = some _).trans (congrArg some (by (exact congrArg iv (by rw [hin, List.take_length])))), rfl⟩, trivial⟩
theorem sumE_c (l : List GE) (F : GE → Nat) (fn : FuncId) (caps : List AV) (hf : ∀ y ∈ l, zj Tryz.prog Γ0 fn (y.av :: caps) [iv (F y : Nat)]) (hl : l.length ≤ 1000000000000) (hF : zr F l ≤ 10000000000000000) : zj Tryz.prog Γ0 187 [.sl 3 (l.map GE.av), .fn (.func fn) [] caps] [iv (zr F l : Nat)] := by
  refine zb Tryz.func187 rfl Tryz.ntmps187 (by kernel_rfl) rfl fun w0 I0 G0 => ?_
  refine zD <| zB <| g_u (zE rfl rfl) <| zF <| zA <| zD <| zB <| g_u (zE rfl rfl) <| zF <| zA <| zD <| zD <| zB <| g_u (zC rfl rfl) <| g_u (zx rfl rfl Tryz.underlying47) <| g_u (zC rfl rfl) <| zF <| zA <| zQ ?_
  refine zs (fun i : Nat => [(1, .imm (.fn (.func fn) [] caps)), (5, .imm (iv (zr F (l.take i) : Nat))), (8, .imm (.sl 3 (l.map GE.av))), (9, .imm (iv (l.length : Int))), (10, .imm (iv (i : Int)))]) (fun i => i ≤ l.length) (fun i => l.length - i) (0) ?_ ⟨rfl, rfl, rfl, zV rfl (by rw [List.length_map]), rfl, trivial⟩ ?_
  · exact Nat.zero_le _
  · rintro i h1; have h1 : i ≤ l.length := h1
    refine zD <| zB <| g_u (yU rfl rfl rfl) <| zF <| zA <| zD ?_
    refine zN rfl (fun hb1 => ?_) (fun hb1 => ?_)
    · have hi : i < l.length := by have := of_decide_eq_true hb1; (try simp only [List.length_map] at this); omega
      refine zO <| zA <| zD <| zQ <| zD <| zB ?_
      refine g_u (za rfl rfl rfl Tryz.underlying47 tS95 (by omega) (ixE hi)) ?_
      refine g_u (zW rfl rfl tA95 tS95 rfl rfl) <| g_uG (zo 1007 rfl rfl rfl tZ95) rfl <| g_u (zL rfl rfl rfl tS95 rfl rfl) <| zF <| zA <| zB <| g_u (zC rfl rfl) <| g_u (zC rfl rfl) <| g_u (zl rfl rfl rfl tA95 tS95 rfl rfl) <| g_u (xQ (hf _ (nthE_mem hi)) rfl rfl rfl) <| g_u (yB rfl rfl rfl) <| g_u (zE rfl rfl) <| zF <| zM <| zA <| zB <| g_u (yB rfl rfl rfl) <| g_u (zC rfl rfl) <| zF <| zA ?_
      have q1 := wd (F := F) (d := ge0) hi
      have q2 := sumBy_nth (F := F) (d := ge0) hi
      refine ⟨i + 1, hi, ⟨rfl, zV rfl (by show IntKind.i64.wrap ((zr F (l.take i) : Int) + (F (nth l i ge0) : Int)) = _; rw [zZ (by omega) (by omega), q2]; rfl), rfl, rfl, zV rfl (by rw [zZ (by omega) (by omega)]; rfl), trivial⟩, by (try dsimp only); omega⟩
    · have hin : i = l.length := by have := of_decide_eq_false hb1; (try simp only [List.length_map] at this); omega
      refine zv <| zU <| zU <| zp <| zA <| zD <| zB <| g_u (zC rfl rfl) <| g_u (zE rfl rfl) <| zF <| zA <| zJ ?_
      exact ⟨⟨(rfl : toAV (Al.look _ _) = some _).trans (congrArg some (by (exact congrArg iv (by rw [hin, List.take_length])))), rfl⟩, trivial⟩
theorem sumL_c (l : List GL) (F : GL → Nat) (fn : FuncId) (caps : List AV) (hf : ∀ y ∈ l, zj Tryz.prog Γ0 fn (y.av :: caps) [iv (F y : Nat)]) (hl : l.length ≤ 1000000000000) (hF : zr F l ≤ 10000000000000000) : zj Tryz.prog Γ0 189 [.sl 26 (l.map GL.av), .fn (.func fn) [] caps] [iv (zr F l : Nat)] := by
  refine zb Tryz.func189 rfl Tryz.ntmps189 (by kernel_rfl) rfl fun w0 I0 G0 => ?_
  refine zD <| zB <| g_u (zE rfl rfl) <| zF <| zA <| zD <| zB <| g_u (zE rfl rfl) <| zF <| zA <| zD <| zD <| zB <| g_u (zC rfl rfl) <| g_u (zx rfl rfl Tryz.underlying48) <| g_u (zC rfl rfl) <| zF <| zA <| zQ ?_
  refine zs (fun i : Nat => [(1, .imm (.fn (.func fn) [] caps)), (5, .imm (iv (zr F (l.take i) : Nat))), (8, .imm (.sl 26 (l.map GL.av))), (9, .imm (iv (l.length : Int))), (10, .imm (iv (i : Int)))]) (fun i => i ≤ l.length) (fun i => l.length - i) (0) ?_ ⟨rfl, rfl, rfl, zV rfl (by rw [List.length_map]), rfl, trivial⟩ ?_
  · exact Nat.zero_le _
  · rintro i h1; have h1 : i ≤ l.length := h1
    refine zD <| zB <| g_u (yU rfl rfl rfl) <| zF <| zA <| zD ?_
    refine zN rfl (fun hb1 => ?_) (fun hb1 => ?_)
    · have hi : i < l.length := by have := of_decide_eq_true hb1; (try simp only [List.length_map] at this); omega
      refine zO <| zA <| zD <| zQ <| zD <| zB ?_
      refine g_u (za rfl rfl rfl Tryz.underlying48 tS107 (by omega) (ixL hi)) ?_
      refine g_u (zW rfl rfl tA107 tS107 rfl (by first | exact xp (GL.width _) rfl | rfl)) ?_
      refine g_uG (zo 1007 rfl rfl rfl tZ107) rfl ?_
      refine g_u (zL rfl rfl rfl tS107 (by first | exact beqW (GL.width _) | rfl) (by first | exact setS_w (z107_w.trans (GL.width _).symm) rfl | rfl)) ?_
      refine zF <| zA <| zB <| g_u (zC rfl rfl) <| g_u (zC rfl rfl) ?_
      refine g_u (zH rfl rfl rfl tA107 tS107 rfl (by first | exact xp (GL.width _) rfl | rfl)) ?_
      refine g_u (xQ (hf _ (nthL_mem hi)) rfl rfl rfl) <| g_u (yB rfl rfl rfl) <| g_u (zE rfl rfl) <| zF <| zM <| zA <| zB <| g_u (yB rfl rfl rfl) <| g_u (zC rfl rfl) <| zF <| zA ?_
      have q1 := wd (F := F) (d := gl0) hi
      have q2 := sumBy_nth (F := F) (d := gl0) hi
      refine ⟨i + 1, hi, ⟨rfl, zV rfl (by show IntKind.i64.wrap ((zr F (l.take i) : Int) + (F (nth l i gl0) : Int)) = _; rw [zZ (by omega) (by omega), q2]; rfl), rfl, rfl, zV rfl (by rw [zZ (by omega) (by omega)]; rfl), trivial⟩, by (try dsimp only); omega⟩
    · have hin : i = l.length := by have := of_decide_eq_false hb1; (try simp only [List.length_map] at this); omega
      refine zv <| zU <| zU <| zp <| zA <| zD <| zB <| g_u (zC rfl rfl) <| g_u (zE rfl rfl) <| zF <| zA <| zJ ?_
      exact ⟨⟨(rfl : toAV (Al.look _ _) = some _).trans (congrArg some (by (exact congrArg iv (by rw [hin, List.take_length])))), rfl⟩, trivial⟩
theorem sumS_c (l : List GSpan) (F : GSpan → Nat) (fn : FuncId) (caps : List AV) (hf : ∀ y ∈ l, zj Tryz.prog Γ0 fn (y.av :: caps) [iv (F y : Nat)]) (hl : l.length ≤ 1000000000000) (hF : zr F l ≤ 10000000000000000) : zj Tryz.prog Γ0 134 [.sl 42 (l.map GSpan.av), .fn (.func fn) [] caps] [iv (zr F l : Nat)] := by
  refine zb Tryz.func134 rfl Tryz.ntmps134 (by kernel_rfl) rfl fun w0 I0 G0 => ?_
  refine zD <| zB <| g_u (zE rfl rfl) <| zF <| zA <| zD <| zB <| g_u (zE rfl rfl) <| zF <| zA <| zD <| zD <| zB <| g_u (zC rfl rfl) <| g_u (zx rfl rfl Tryz.underlying53) <| g_u (zC rfl rfl) <| zF <| zA <| zQ ?_
  refine zs (fun i : Nat => [(1, .imm (.fn (.func fn) [] caps)), (5, .imm (iv (zr F (l.take i) : Nat))), (8, .imm (.sl 42 (l.map GSpan.av))), (9, .imm (iv (l.length : Int))), (10, .imm (iv (i : Int)))]) (fun i => i ≤ l.length) (fun i => l.length - i) (0) ?_ ⟨rfl, rfl, rfl, zV rfl (by rw [List.length_map]), rfl, trivial⟩ ?_
  · exact Nat.zero_le _
  · rintro i h1; have h1 : i ≤ l.length := h1
    refine zD <| zB <| g_u (yU rfl rfl rfl) <| zF <| zA <| zD ?_
    refine zN rfl (fun hb1 => ?_) (fun hb1 => ?_)
    · have hi : i < l.length := by have := of_decide_eq_true hb1; (try simp only [List.length_map] at this); omega
      refine zO <| zA <| zD <| zQ <| zD <| zB ?_
      refine g_u (za rfl rfl rfl Tryz.underlying53 tS52 (by omega) (ixS hi)) ?_
      refine g_u (zW rfl rfl tA52 tS52 rfl (by first | exact xp (GSpan.width _) rfl | rfl)) ?_
      refine g_uG (zo 1007 rfl rfl rfl tZ52) rfl ?_
      refine g_u (zL rfl rfl rfl tS52 (by first | exact beqW (GSpan.width _) | rfl) (by first | exact setS_w (z52_w.trans (GSpan.width _).symm) rfl | rfl)) ?_
      refine zF <| zA <| zB <| g_u (zC rfl rfl) <| g_u (zC rfl rfl) ?_
      refine g_u (zH rfl rfl rfl tA52 tS52 rfl (by first | exact xp (GSpan.width _) rfl | rfl)) ?_
      refine g_u (xQ (hf _ (nthS_mem hi)) rfl rfl rfl) <| g_u (yB rfl rfl rfl) <| g_u (zE rfl rfl) <| zF <| zM <| zA <| zB <| g_u (yB rfl rfl rfl) <| g_u (zC rfl rfl) <| zF <| zA ?_
      have q1 := wd (F := F) (d := gs0) hi
      have q2 := sumBy_nth (F := F) (d := gs0) hi
      refine ⟨i + 1, hi, ⟨rfl, zV rfl (by show IntKind.i64.wrap ((zr F (l.take i) : Int) + (F (nth l i gs0) : Int)) = _; rw [zZ (by omega) (by omega), q2]; rfl), rfl, rfl, zV rfl (by rw [zZ (by omega) (by omega)]; rfl), trivial⟩, by (try dsimp only); omega⟩
    · have hin : i = l.length := by have := of_decide_eq_false hb1; (try simp only [List.length_map] at this); omega
      refine zv <| zU <| zU <| zp <| zA <| zD <| zB <| g_u (zC rfl rfl) <| g_u (zE rfl rfl) <| zF <| zA <| zJ ?_
      exact ⟨⟨(rfl : toAV (Al.look _ _) = some _).trans (congrArg some (by (exact congrArg iv (by rw [hin, List.take_length])))), rfl⟩, trivial⟩
theorem sumC_c (l : List GScope) (F : GScope → Nat) (fn : FuncId) (caps : List AV) (hf : ∀ y ∈ l, zj Tryz.prog Γ0 fn (y.av :: caps) [iv (F y : Nat)]) (hl : l.length ≤ 1000000000000) (hF : zr F l ≤ 10000000000000000) : zj Tryz.prog Γ0 87 [.sl 3 (l.map GScope.av), .fn (.func fn) [] caps] [iv (zr F l : Nat)] := by
  refine zb Tryz.func87 rfl Tryz.ntmps87 (by kernel_rfl) rfl fun w0 I0 G0 => ?_
  refine zD <| zB <| g_u (zE rfl rfl) <| zF <| zA <| zD <| zB <| g_u (zE rfl rfl) <| zF <| zA <| zD <| zD <| zB <| g_u (zC rfl rfl) <| g_u (zx rfl rfl Tryz.underlying56) <| g_u (zC rfl rfl) <| zF <| zA <| zQ ?_
  refine zs (fun i : Nat => [(1, .imm (.fn (.func fn) [] caps)), (5, .imm (iv (zr F (l.take i) : Nat))), (8, .imm (.sl 3 (l.map GScope.av))), (9, .imm (iv (l.length : Int))), (10, .imm (iv (i : Int)))]) (fun i => i ≤ l.length) (fun i => l.length - i) (0) ?_ ⟨rfl, rfl, rfl, zV rfl (by rw [List.length_map]), rfl, trivial⟩ ?_
  · exact Nat.zero_le _
  · rintro i h1; have h1 : i ≤ l.length := h1
    refine zD <| zB <| g_u (yU rfl rfl rfl) <| zF <| zA <| zD ?_
    refine zN rfl (fun hb1 => ?_) (fun hb1 => ?_)
    · have hi : i < l.length := by have := of_decide_eq_true hb1; (try simp only [List.length_map] at this); omega
      refine zO <| zA <| zD <| zQ <| zD <| zB ?_
      refine g_u (za rfl rfl rfl Tryz.underlying56 tS55 (by omega) (ixC hi)) ?_
      refine g_u (zW rfl rfl tA55 tS55 rfl rfl) <| g_uG (zo 1007 rfl rfl rfl tZ55) rfl <| g_u (zL rfl rfl rfl tS55 rfl rfl) <| zF <| zA <| zB <| g_u (zC rfl rfl) <| g_u (zC rfl rfl) <| g_u (zl rfl rfl rfl tA55 tS55 rfl rfl) <| g_u (xQ (hf _ (nthC_mem hi)) rfl rfl rfl) <| g_u (yB rfl rfl rfl) <| g_u (zE rfl rfl) <| zF <| zM <| zA <| zB <| g_u (yB rfl rfl rfl) <| g_u (zC rfl rfl) <| zF <| zA ?_
      have q1 := wd (F := F) (d := gc0) hi
      have q2 := sumBy_nth (F := F) (d := gc0) hi
      refine ⟨i + 1, hi, ⟨rfl, zV rfl (by show IntKind.i64.wrap ((zr F (l.take i) : Int) + (F (nth l i gc0) : Int)) = _; rw [zZ (by omega) (by omega), q2]; rfl), rfl, rfl, zV rfl (by rw [zZ (by omega) (by omega)]; rfl), trivial⟩, by (try dsimp only); omega⟩
    · have hin : i = l.length := by have := of_decide_eq_false hb1; (try simp only [List.length_map] at this); omega
      refine zv <| zU <| zU <| zp <| zA <| zD <| zB <| g_u (zC rfl rfl) <| g_u (zE rfl rfl) <| zF <| zA <| zJ ?_
      exact ⟨⟨(rfl : toAV (Al.look _ _) = some _).trans (congrArg some (by (exact congrArg iv (by rw [hin, List.take_length])))), rfl⟩, trivial⟩
theorem sumR_c (l : List GRes) (F : GRes → Nat) (fn : FuncId) (caps : List AV) (hf : ∀ y ∈ l, zj Tryz.prog Γ0 fn (y.av :: caps) [iv (F y : Nat)]) (hl : l.length ≤ 1000000000000) (hF : zr F l ≤ 10000000000000000) : zj Tryz.prog Γ0 52 [.sl 2 (l.map GRes.av), .fn (.func fn) [] caps] [iv (zr F l : Nat)] := by
  refine zb Tryz.func52 rfl Tryz.ntmps52 (by kernel_rfl) rfl fun w0 I0 G0 => ?_
  refine zD <| zB <| g_u (zE rfl rfl) <| zF <| zA <| zD <| zB <| g_u (zE rfl rfl) <| zF <| zA <| zD <| zD <| zB <| g_u (zC rfl rfl) <| g_u (zx rfl rfl Tryz.underlying22) <| g_u (zC rfl rfl) <| zF <| zA <| zQ ?_
  refine zs (fun i : Nat => [(1, .imm (.fn (.func fn) [] caps)), (5, .imm (iv (zr F (l.take i) : Nat))), (8, .imm (.sl 2 (l.map GRes.av))), (9, .imm (iv (l.length : Int))), (10, .imm (iv (i : Int)))]) (fun i => i ≤ l.length) (fun i => l.length - i) (0) ?_ ⟨rfl, rfl, rfl, zV rfl (by rw [List.length_map]), rfl, trivial⟩ ?_
  · exact Nat.zero_le _
  · rintro i h1; have h1 : i ≤ l.length := h1
    refine zD <| zB <| g_u (yU rfl rfl rfl) <| zF <| zA <| zD ?_
    refine zN rfl (fun hb1 => ?_) (fun hb1 => ?_)
    · have hi : i < l.length := by have := of_decide_eq_true hb1; (try simp only [List.length_map] at this); omega
      refine zO <| zA <| zD <| zQ <| zD <| zB ?_
      refine g_u (za rfl rfl rfl Tryz.underlying22 tS58 (by omega) (ixR hi)) ?_
      refine g_u (zW rfl rfl tA58 tS58 rfl rfl) <| g_uG (zo 1007 rfl rfl rfl tZ58) rfl <| g_u (zL rfl rfl rfl tS58 rfl rfl) <| zF <| zA <| zB <| g_u (zC rfl rfl) <| g_u (zC rfl rfl) <| g_u (zl rfl rfl rfl tA58 tS58 rfl rfl) <| g_u (xQ (hf _ (vC hi)) rfl rfl rfl) <| g_u (yB rfl rfl rfl) <| g_u (zE rfl rfl) <| zF <| zM <| zA <| zB <| g_u (yB rfl rfl rfl) <| g_u (zC rfl rfl) <| zF <| zA ?_
      have q1 := wd (F := F) (d := gr0) hi
      have q2 := sumBy_nth (F := F) (d := gr0) hi
      refine ⟨i + 1, hi, ⟨rfl, zV rfl (by show IntKind.i64.wrap ((zr F (l.take i) : Int) + (F (nth l i gr0) : Int)) = _; rw [zZ (by omega) (by omega), q2]; rfl), rfl, rfl, zV rfl (by rw [zZ (by omega) (by omega)]; rfl), trivial⟩, by (try dsimp only); omega⟩
    · have hin : i = l.length := by have := of_decide_eq_false hb1; (try simp only [List.length_map] at this); omega
      refine zv <| zU <| zU <| zp <| zA <| zD <| zB <| g_u (zC rfl rfl) <| g_u (zE rfl rfl) <| zF <| zA <| zJ ?_
      exact ⟨⟨(rfl : toAV (Al.look _ _) = some _).trans (congrArg some (by (exact congrArg iv (by rw [hin, List.take_length])))), rfl⟩, trivial⟩
theorem attrW_c (a : GA) (ho : a.ok) (hw : a.wt ≤ 10000000) : zj Tryz.prog Γ0 133 [a.av] [iv (attrW a : Nat)] := by
  have ek := a.wt_eq
  have q1 := textM_le a.val
  refine zb Tryz.func133 rfl Tryz.ntmps133 (by kernel_rfl) rfl fun w0 I0 G0 => ?_
  refine zD <| zB <| g_uG (zi 1001 rfl rfl rfl rfl) rfl <| g_u (zE rfl rfl) <| zF <| zA <| zD <| yw mixed <| g_u (zG rfl rfl fa93_0 rfl) <| g_u (zH rfl rfl rfl tA9 tS9 rfl rfl) <| g_u (yd rfl rfl Tryz.underlying9) <| g_u (s_mul rfl rfl rfl) <| g_u (yB rfl rfl rfl) <| g_u (zG rfl rfl fa93_1 rfl) <| g_u (zH rfl rfl rfl tA91 tS91 rfl rfl) ?_
  refine g_u (zT (text_c a.val ((GA.ok_iff a).1 ho).2 (by omega)) rfl rfl) ?_
  refine g_u (yd rfl rfl Tryz.underlying9) <| g_u (s_mul rfl rfl rfl) <| g_u (yB rfl rfl rfl) <| g_u (zE rfl rfl) ?_
  refine zF ⟨by kernel_rfl, ?_⟩
  refine zA <| zJ ?_
  exact ⟨⟨(rfl : toAV (Al.look _ _) = some _).trans (congrArg some (by (exact congrArg iv (by unfold attrW; ((try simp only [qa, qb, qc, ne_eq, beq_iff_eq, qd, beq_eq_false_iff_ne, Bool.not_eq_true', Bool.not_eq_false', gt_iff_lt, ge_iff_le] at *); (repeat simp (disch := omega) only [zZ, zq] at *)); omega)))), rfl⟩, trivial⟩
theorem wattrs_c (l : List GA) (ho : ∀ a ∈ l, a.ok) (hw : wtAs l ≤ 10000000) : zj Tryz.prog Γ0 86 [.sl 7 (l.map avA)] [iv (wY l : Nat)] := by
  have q1 := attrsW_le l
  have q2 := yr l
  refine zb Tryz.func86 rfl Tryz.ntmps86 (by kernel_rfl) rfl fun w0 I0 G0 => ?_
  refine zD <| zB <| g_u (zE rfl rfl) <| zF <| zA <| zD <| zB <| g_u (zC rfl rfl) ?_
  refine g_u (zT (sumA_c l attrW 133 [] (fun a ha => attrW_c a (ho a ha) (by have := wM ha; omega)) (by omega) (by rw [← attrsW_sum]; omega)) rfl rfl) ?_
  refine g_u (zE rfl rfl) <| zF <| zA <| zJ ?_
  exact ⟨⟨(rfl : toAV (Al.look _ _) = some _).trans (congrArg some (by (rw [attrsW_sum]))), rfl⟩, trivial⟩
end Go.Proofs
namespace Go.Proofs
open Go Go.Al
set_option maxRecDepth 10000
theorem cmp216 : cmpFn Tryz.prog 216 := ⟨_, Tryz.func216, by kernel_rfl, rfl, by kernel_rfl, by kernel_rfl⟩
theorem cmp_197_c (s t : ByteArray) : zj Tryz.prog Γ0 197 [sv s, sv t] [iv (cmpK s t)] := by
  refine zb Tryz.func197 rfl Tryz.ntmps197 (by kernel_rfl) rfl fun w0 I0 G0 => ?_
  refine zD <| zB <| g_u (zE rfl rfl) <| zF <| zA <| zD <| zB <| g_u (zC rfl rfl) <| g_u (zC rfl rfl) <| g_u (s_cmpS cmp216 rfl rfl rfl) <| g_u (zE rfl rfl) <| zF <| zA <| zJ ?_
  exact ⟨⟨(rfl : toAV (Al.look _ _) = some _).trans (congrArg some (by rfl)), rfl⟩, trivial⟩
theorem cmp_149_c (s t : ByteArray) : zj Tryz.prog Γ0 149 [sv s, sv t] [iv (cmpK s t)] := by
  refine zb Tryz.func149 rfl Tryz.ntmps149 (by kernel_rfl) rfl fun w0 I0 G0 => ?_
  refine zD <| zB <| g_u (zE rfl rfl) <| zF <| zA <| zD <| zB <| g_u (zC rfl rfl) <| g_u (zC rfl rfl) <| g_u (zT (cmp_197_c _ _) rfl rfl) <| g_u (zE rfl rfl) <| zF <| zA <| zJ ?_
  exact ⟨⟨(rfl : toAV (Al.look _ _) = some _).trans (congrArg some (by rfl)), rfl⟩, trivial⟩
theorem cmpA_c (a : GA) (k : ByteArray) : zj Tryz.prog Γ0 148 [a.av, sv k] [iv (cmpK a.key k)] := by
  refine zb Tryz.func148 rfl Tryz.ntmps148 (by kernel_rfl) rfl fun w0 I0 G0 => ?_
  refine zD <| zB <| g_uG (zi 1002 rfl rfl rfl rfl) rfl <| g_u (zE rfl rfl) <| zF <| zA <| zD <| zB <| g_u (zG rfl rfl fa93_0 rfl) <| g_u (zH rfl rfl rfl tA9 tS9 rfl rfl) <| g_u (zC rfl rfl) <| g_u (zT (cmp_149_c _ _) rfl rfl) <| g_u (zE rfl rfl) <| zF <| zA <| zJ ?_
  exact ⟨⟨(rfl : toAV (Al.look _ _) = some _).trans (congrArg some (by rfl)), rfl⟩, trivial⟩
theorem bsf_c (l : List GA) (k : ByteArray) (hr : risA none l) (hl : l.length ≤ 1000000000000) : zj Tryz.prog Γ0 147 [.sl 7 (l.map avA), sv k, .fn (.func 148) [] []] [iv (posA l k : Nat), bv (hasA l k)] := by
  refine zb Tryz.func147 rfl Tryz.ntmps147 (by kernel_rfl) rfl fun w0 I0 G0 => ?_
  refine zD <| zB <| g_u (zE rfl rfl) <| g_u (zE rfl rfl) <| zF <| zA <| zD <| zB <| g_u (zC rfl rfl) <| g_u (zx rfl rfl Tryz.underlying46) <| g_u (zE rfl rfl) <| zF <| zA <| zD <| zB <| g_u (zC rfl rfl) <| g_u (zE rfl rfl) <| g_u (zE rfl rfl) <| zF <| zA <| zD <| zQ ?_
  refine zs (fun j : Nat × Nat => [(0, .imm (.sl 7 (l.map avA))), (1, .imm (sv k)), (2, .imm (.fn (.func 148) [] [])), (8, .imm (iv (l.length : Int))), (9, .imm (iv (j.1 : Int))), (10, .imm (iv (j.2 : Int)))]) (fun j => j.1 ≤ j.2 ∧ j.2 ≤ l.length ∧ (∀ i, i < j.1 → ltB (nthA l i).key k = true) ∧ (∀ i, j.2 ≤ i → i < l.length → ltB (nthA l i).key k = false)) (fun j => j.2 - j.1) (⟨0, l.length⟩) ?_ ⟨rfl, rfl, rfl, zV rfl (by rw [List.length_map]), rfl, zV rfl (by rw [List.length_map]), trivial⟩ ?_
  · exact ⟨Nat.zero_le _, Nat.le_refl _, fun i h => absurd h (Nat.not_lt_zero _), fun i h1 h2 => absurd h2 (Nat.not_lt.2 h1)⟩
  · rintro ⟨lo, hi⟩ ⟨h1, h2, h3, h4⟩; dsimp only at h1 h2 h3 h4
    have em : IntKind.i64.wrap ((IntKind.u64.wrap (IntKind.i64.wrap ((lo : Int) + (hi : Int)))).fdiv (2 ^ (min (1 : Int).toNat IntKind.u64.bits))) = (((lo + hi) / 2 : Nat) : Int) := by rw [zZ (n := (lo : Int) + (hi : Int)) (by omega) (by omega), wrapu64 (by omega) (by omega), Int.fdiv_eq_ediv_of_nonneg _ (by decide), show (2 : Int) ^ (min (1 : Int).toNat IntKind.u64.bits) = 2 from by decide, zZ (by omega) (by omega)]; omega
    refine zD <| zD <| zB <| g_u (zC rfl rfl) <| g_u (zC rfl rfl) <| g_u (yU rfl rfl rfl) <| zF <| zA ?_
    refine zN rfl (fun hb1 => ?_) (fun hb1 => ?_)
    · have hmid : (lo + hi) / 2 < l.length := by have := of_decide_eq_true hb1; omega
      refine zO <| zA <| zQ <| zD <| zB <| g_u (zC rfl rfl) <| g_u (zC rfl rfl) <| g_u (yB rfl rfl rfl) <| g_u (s_cvII rfl rfl Tryz.underlying3 Tryz.underlying194) ?_
      refine g_u (s_shr rfl rfl rfl (by first | decide | omega | (((try simp only [qa, qb, qc, ne_eq, beq_iff_eq, qd, beq_eq_false_iff_ne, Bool.not_eq_true', Bool.not_eq_false', gt_iff_lt, ge_iff_le] at *); (repeat simp (disch := omega) only [zZ, zq] at *)); omega))) ?_
      refine g_u (s_cvII rfl rfl Tryz.underlying194 Tryz.underlying3) <| g_u (zE rfl rfl) <| zF <| zA <| zD <| zB <| g_u (zC rfl rfl) <| g_u (zC rfl rfl) <| g_u (zC rfl rfl) ?_
      refine g_u (za rfl rfl rfl Tryz.underlying46 tS93 (by erw [em]; omega) ((congrArg (fun z : Int => (l.map avA)[z.toNat]?) em).trans (ixA hmid))) ?_
      refine g_u (zW rfl rfl tA93 tS93 rfl rfl) <| g_u (zC rfl rfl) <| g_u (xQ (cmpA_c _ _) rfl rfl rfl) <| g_u (yU rfl rfl rfl) <| zF <| zA ?_
      refine zN rfl (fun hb2 => ?_) (fun hb2 => ?_)
      · have hk : ltB (nthA l ((lo + hi) / 2)).key k = true := (cmpK_lt _ _).1 (of_decide_eq_true hb2)
        refine zB <| g_u (zC rfl rfl) <| g_u (yB rfl rfl rfl) <| g_u (zE rfl rfl) <| zF <| zM <| zA ?_
        have hlt : lo < hi := by have := of_decide_eq_true hb1; omega
        first
          | exact ⟨⟨(lo + hi) / 2 + 1, hi⟩, ⟨by dsimp only; omega, h2, fun i hi1 => ris_left hr hmid hk (by dsimp only at hi1; omega), h4⟩, ⟨rfl, rfl, rfl, rfl, zV rfl (by erw [em]; rw [zZ (by omega) (by omega)]; rfl), rfl, trivial⟩, by dsimp only; omega⟩
          | exact ⟨⟨lo, (lo + hi) / 2⟩, ⟨by dsimp only; omega, by dsimp only; omega, h3, fun i hi1 hi2 => ris_right hr hk hi1 hi2⟩, ⟨rfl, rfl, rfl, rfl, rfl, zV rfl em, trivial⟩, by dsimp only; omega⟩
      · have hk : ltB (nthA l ((lo + hi) / 2)).key k = false := by cases hq : ltB (nthA l ((lo + hi) / 2)).key k; rfl; exact absurd ((cmpK_lt _ _).2 hq) (of_decide_eq_false hb2)
        refine zB <| g_u (zC rfl rfl) <| g_u (zE rfl rfl) <| zF <| zM <| zA ?_
        have hlt : lo < hi := by have := of_decide_eq_true hb1; omega
        first
          | exact ⟨⟨(lo + hi) / 2 + 1, hi⟩, ⟨by dsimp only; omega, h2, fun i hi1 => ris_left hr hmid hk (by dsimp only at hi1; omega), h4⟩, ⟨rfl, rfl, rfl, rfl, zV rfl (by erw [em]; rw [zZ (by omega) (by omega)]; rfl), rfl, trivial⟩, by dsimp only; omega⟩
          | exact ⟨⟨lo, (lo + hi) / 2⟩, ⟨by dsimp only; omega, by dsimp only; omega, h3, fun i hi1 hi2 => ris_right hr hk hi1 hi2⟩, ⟨rfl, rfl, rfl, rfl, rfl, zV rfl em, trivial⟩, by dsimp only; omega⟩
    · have hlo : lo = hi := by have := of_decide_eq_false hb1; omega
      have hp : lo = posA l k := posA_spec l k lo (by omega) h3 (fun i hi1 hi2 => h4 i (by omega) hi2)
      refine zv <| zU <| zU <| zp <| zA <| zD <| zB <| g_u (zC rfl rfl) <| g_u (zC rfl rfl) <| g_u (zC rfl rfl) <| g_u (yU rfl rfl rfl) <| g_u (zC rfl rfl) <| zz (t := 39) rfl ?_
      rintro (hb3 | hb3)
      · rw [hb3]
        have hll : lo < l.length := by have := of_decide_eq_true hb3; (try simp only [List.length_map] at this); omega
        refine zP rfl rfl (zC rfl rfl) <| zP rfl rfl (zC rfl rfl) <| zP rfl rfl (zC rfl rfl) ?_
        refine zP rfl rfl (za rfl rfl rfl Tryz.underlying46 tS93 (by omega) (ixA hll)) ?_
        refine zP rfl rfl (zW rfl rfl tA93 tS93 rfl rfl) <| zP rfl rfl (zC rfl rfl) <| zP rfl rfl (xQ (cmpA_c _ _) rfl rfl rfl) <| zP rfl rfl (yn rfl rfl rfl) <| g_u (zX rfl rfl rfl) <| g_u (zE rfl rfl) <| g_u (zE rfl rfl) <| zF <| zA <| zJ ?_
        exact ⟨⟨(rfl : toAV (Al.look _ _) = some _).trans (congrArg (fun n : Nat => some (iv n)) hp), rfl⟩, ⟨(rfl : toAV (Al.look _ _) = some _).trans (congrArg (fun b => some (bv b)) (by rw [hasA, ← hp, decide_eq_true hll, Bool.true_and, ← Bool.coe_iff_coe]; simp only [beq_iff_eq, qa]; exact cmpK_eq _ _)), rfl⟩, trivial⟩
      · rw [hb3]
        have hll : ¬ lo < l.length := by have := of_decide_eq_false hb3; (try simp only [List.length_map] at this); omega
        refine zI rfl rfl rfl <| zI rfl rfl rfl <| zI rfl rfl rfl <| zI rfl rfl rfl <| zI rfl rfl rfl <| zI rfl rfl rfl <| zI rfl rfl rfl <| zI rfl rfl rfl <| g_u (zg rfl rfl rfl) <| g_u (zE rfl rfl) <| g_u (zE rfl rfl) <| zF <| zA <| zJ ?_
        exact ⟨⟨(rfl : toAV (Al.look _ _) = some _).trans (congrArg (fun n : Nat => some (iv n)) hp), rfl⟩, ⟨(rfl : toAV (Al.look _ _) = some _).trans (congrArg (fun b => some (bv b)) (by rw [hasA, ← hp, decide_eq_false hll, Bool.false_and])), rfl⟩, trivial⟩
theorem find_c (l : List GA) (k : ByteArray) (hr : risA none l) (hl : l.length ≤ 1000000000000) : zj Tryz.prog Γ0 97 [.sl 7 (l.map avA), sv k] [iv (posA l k : Nat), bv (hasA l k)] := by
  refine zb Tryz.func97 rfl Tryz.ntmps97 (by kernel_rfl) rfl fun w0 I0 G0 => ?_
  refine zD <| zB <| g_u (zE rfl rfl) <| g_u (zE rfl rfl) <| zF <| zA <| zD <| zB <| g_u (zC rfl rfl) <| g_u (zC rfl rfl) <| g_u (s_call2 (bsf_c l k hr hl) rfl rfl) <| g_u (zh rfl rfl rfl rfl) <| g_u (zh rfl rfl rfl rfl) <| g_u (zE rfl rfl) <| g_u (zE rfl rfl) <| zF <| zA <| zJ ?_
  exact ⟨⟨(rfl : toAV (Al.look _ _) = some _).trans (congrArg some (by rfl)), rfl⟩, ⟨(rfl : toAV (Al.look _ _) = some _).trans (congrArg some (by rfl)), rfl⟩, trivial⟩
theorem get_c (l : List GA) (k : ByteArray) (hr : risA none l) (hl : l.length ≤ 1000000000000) : zj Tryz.prog Γ0 152 [.sl 7 (l.map avA), sv k] [((getA l k).getD zeroV).av, bv (getA l k).isSome] := by
  refine zb Tryz.func152 rfl Tryz.ntmps152 (by kernel_rfl) rfl fun w0 I0 G0 => ?_
  refine zD <| zB <| g_uG (zo 1004 rfl rfl rfl tZ91) rfl <| g_u (zE rfl rfl) <| zF <| zA <| zD <| zD <| zB <| g_u (zC rfl rfl) <| g_u (zC rfl rfl) <| g_u (s_call2 (find_c l k hr hl) rfl rfl) <| g_u (s_mv_tup rfl rfl) <| g_u (zh rfl rfl rfl rfl) <| g_u (zh rfl rfl rfl rfl) <| g_u (zE rfl rfl) <| g_u (zE rfl rfl) <| zF <| zA <| zD <| zB <| g_u (zC rfl rfl) <| zF <| zA ?_
  refine zN rfl (fun hb1 => ?_) (fun hb1 => ?_)
  · have hh : hasA l k = true := hb1
    have hll : posA l k < l.length := by unfold hasA at hh; simp at hh; exact hh.1
    refine zD <| zB <| g_u (zC rfl rfl) <| g_u (zC rfl rfl) ?_
    refine g_u (za rfl rfl rfl Tryz.underlying46 tS93 (by omega) (ixA hll)) ?_
    refine g_u (zY rfl rfl fa93_1 rfl rfl) <| g_u (zW rfl rfl tA91 tS91 rfl rfl) <| g_u (zL rfl rfl rfl tS91 rfl rfl) <| g_u (zE rfl rfl) <| zF <| zA <| zJ <| zK ?_
    exact ⟨⟨_, _, _, _, _, _, _, rfl, rfl, tA91, tS91, rfl, rfl, (rfl : toAV _ = some _).trans (congrArg some (by (rw [getA_pos hr k, if_pos hh]; rfl)))⟩, ⟨(rfl : toAV (Al.look _ _) = some _).trans (congrArg some (by (rw [getA_pos hr k, if_pos hh]; rfl))), rfl⟩, trivial⟩
  · have hh : hasA l k = false := hb1
    refine zO <| zA <| zD <| zB <| g_u (y9 rfl tU91 us91 pl91 rfl rfl rfl rfl) <| g_u (zL rfl rfl rfl tS91 rfl rfl) <| g_u (zE rfl rfl) <| zF <| zA <| zJ ?_
    exact ⟨⟨_, _, _, _, _, _, _, rfl, rfl, tA91, tS91, rfl, rfl, (rfl : toAV _ = some _).trans (congrArg some (by (rw [getA_pos hr k, if_neg (by rw [hh]; decide)]; rfl)))⟩, ⟨(rfl : toAV (Al.look _ _) = some _).trans (congrArg some (by (rw [getA_pos hr k, if_neg (by rw [hh]; decide)]; rfl))), rfl⟩, trivial⟩
theorem getA_ok {l : List GA} (k : ByteArray) (h : ∀ a ∈ l, a.ok) : ((getA l k).getD zeroV).ok ∧ ((getA l k).getD zeroV).wt ≤ 1 + wtAs l := by
  cases hg : getA l k with
  | none => exact ⟨by simp only [Option.getD_none]; rw [GV.ok_iff]; exact ⟨by decide, by decide, by decide, by decide, fun x hx => absurd hx (by simp [zeroV, GV.list]), fun x hx => absurd hx (by simp [zeroV, GV.map])⟩, by simp only [Option.getD_none]; rw [GV.wt_eq]; simp [zeroV, GV.list, GV.map, GV.text, wtVs, wtAs]; exact Nat.zero_le _⟩
  | some v =>
    obtain ⟨a, ha, rfl, _⟩ := getA_mem hg
    have := wM ha
    have := a.wt_eq
    exact ⟨((GA.ok_iff a).1 (h a ha)).2, by simp only [Option.getD_some]; omega⟩
theorem textA_c (l : List GA) (k : ByteArray) (hr : risA none l) (hl : l.length ≤ 1000000000000) (ho : ∀ a ∈ l, a.ok) (hw : wtAs l ≤ 9000000) : zj Tryz.prog Γ0 99 [.sl 7 (l.map avA), sv k] [sv (textA l k)] := by
  refine zb Tryz.func99 rfl Tryz.ntmps99 (by kernel_rfl) rfl fun w0 I0 G0 => ?_
  refine zD <| zB <| g_u (zE rfl rfl) <| zF <| zA <| zD <| zB <| g_u (zC rfl rfl) <| g_u (zC rfl rfl) <| g_u (s_call2 (get_c l k hr hl) rfl rfl) <| g_u (s_mv_tup rfl rfl) <| g_u (zh rfl rfl rfl rfl) <| g_u (zh rfl rfl rfl rfl) <| g_uG (zo 1005 rfl rfl rfl tZ91) rfl <| g_u (zL rfl rfl rfl tS91 rfl rfl) <| g_u (zE rfl rfl) <| zF <| zA <| zD <| zB <| g_u (zl rfl rfl rfl tA91 tS91 rfl rfl) ?_
  refine g_u (zT (text_c _ (getA_ok k ho).1 (by have := (getA_ok k ho).2; omega)) rfl rfl) ?_
  refine g_u (zE rfl rfl) <| zF <| zA <| zJ ?_
  exact ⟨⟨(rfl : toAV (Al.look _ _) = some _).trans (congrArg some (by rfl)), rfl⟩, trivial⟩
theorem service_c (r : GRes) (ho : ∀ a ∈ r.attrs, a.ok) (hw : wtAs r.attrs ≤ 9000000) (hr : risA none r.attrs) : zj Tryz.prog Γ0 68 [r.av] [sv (y8 r)] := by
  have q1 := yr r.attrs
  refine zb Tryz.func68 rfl Tryz.ntmps68 (by kernel_rfl) rfl fun w0 I0 G0 => ?_
  refine zD <| zB <| g_uG (zi 1001 rfl rfl rfl rfl) rfl <| g_u (zE rfl rfl) <| zF <| zA <| zD <| zB <| g_u (zG rfl rfl fa58_0 rfl) <| g_u (zH rfl rfl rfl tA46 tS46 rfl rfl) ?_
  refine g_u (zT (textA_c r.attrs skey hr (by omega) ho hw) rfl rfl) ?_
  refine g_u (zE rfl rfl) <| zF <| zA <| zJ ?_
  exact ⟨⟨(rfl : toAV (Al.look _ _) = some _).trans (congrArg some (by rfl)), rfl⟩, trivial⟩
end Go.Proofs
namespace Go.Proofs
open Go Go.Al
set_option maxRecDepth 10000
theorem evW_c (e : GE) (ho : e.ok) (hw : e.wt ≤ 10000000) : zj Tryz.prog Γ0 188 [e.av] [iv (evW e : Nat)] := by
  have q0 := evW_le e
  have q1 : evW e = 64 + 6 * e.name.size + wY e.attrs := rfl
  have q2 : e.wt = 1 + e.name.size + wtAs e.attrs := rfl
  refine zb Tryz.func188 rfl Tryz.ntmps188 (by kernel_rfl) rfl fun w0 I0 G0 => ?_
  refine zD <| zB <| g_uG (zi 1001 rfl rfl rfl rfl) rfl <| g_u (zE rfl rfl) <| zF <| zA <| zD <| yw mixed <| g_u (zG rfl rfl fa95_1 rfl) <| g_u (zH rfl rfl rfl tA9 tS9 rfl rfl) <| g_u (yd rfl rfl Tryz.underlying9) <| g_u (s_mul rfl rfl rfl) <| g_u (yB rfl rfl rfl) <| g_u (zG rfl rfl fa95_2 rfl) <| g_u (zH rfl rfl rfl tA46 tS46 rfl rfl) ?_
  refine g_u (zT (wattrs_c _ ho.2.2 (by omega)) rfl rfl) ?_
  refine g_u (yB rfl rfl rfl) <| g_u (zE rfl rfl) ?_
  refine zF ⟨by kernel_rfl, ?_⟩
  refine zA <| zJ ?_
  exact ⟨⟨(rfl : toAV (Al.look _ _) = some _).trans (congrArg some (by (exact congrArg iv (by rw [q1]; ((try simp only [qa, qb, qc, ne_eq, beq_iff_eq, qd, beq_eq_false_iff_ne, Bool.not_eq_true', Bool.not_eq_false', gt_iff_lt, ge_iff_le] at *); (repeat simp (disch := omega) only [zZ, zq] at *)); omega)))), rfl⟩, trivial⟩
theorem lkW_c (e : GL) (ho : e.ok) (hw : e.wt ≤ 10000000) : zj Tryz.prog Γ0 190 [e.av] [iv (lkW e : Nat)] := by
  have q0 := lkW_le e
  have q1 : lkW e = 64 + 6 * e.state.size + wY e.attrs := rfl
  have q2 : e.wt = 1 + e.state.size + wtAs e.attrs := rfl
  refine zb Tryz.func190 rfl Tryz.ntmps190 (by kernel_rfl) rfl fun w0 I0 G0 => ?_
  refine zD <| zB <| g_uG (zi 1001 rfl rfl rfl rfl) rfl <| g_u (zE rfl rfl) <| zF <| zA <| zD <| yw mixed <| g_u (zG rfl rfl fa107_2 rfl) <| g_u (zH rfl rfl rfl tA9 tS9 rfl rfl) <| g_u (yd rfl rfl Tryz.underlying9) <| g_u (s_mul rfl rfl rfl) <| g_u (yB rfl rfl rfl) <| g_u (zG rfl rfl fa107_3 rfl) <| g_u (zH rfl rfl rfl tA46 tS46 rfl rfl) ?_
  refine g_u (zT (wattrs_c _ ho.2.2.2 (by omega)) rfl rfl) ?_
  refine g_u (yB rfl rfl rfl) <| g_u (zE rfl rfl) ?_
  refine zF ⟨by kernel_rfl, ?_⟩
  refine zA <| zJ ?_
  exact ⟨⟨(rfl : toAV (Al.look _ _) = some _).trans (congrArg some (by (exact congrArg iv (by rw [q1]; ((try simp only [qa, qb, qc, ne_eq, beq_iff_eq, qd, beq_eq_false_iff_ne, Bool.not_eq_true', Bool.not_eq_false', gt_iff_lt, ge_iff_le] at *); (repeat simp (disch := omega) only [zZ, zq] at *)); omega)))), rfl⟩, trivial⟩
theorem spanW_c (s : GSpan) (t : ByteArray) (ho : s.ok) (hw : s.wt ≤ 1000000) (ht : t.size ≤ 10000000) : zj Tryz.prog Γ0 136 [s.av, sv t] [iv (spanW s t : Nat)] := by
  have q0 := spanW_le s t ht
  have qe := spanW_eq s t
  have qw : s.wt = 1 + s.state.size + s.name.size + s.note.size + wtAs s.attrs + zr GE.wt s.events + zr GL.wt s.links := rfl
  have ql := yJ GE.wt (fun e => by unfold GE.wt; omega) s.events
  have qm := yJ GL.wt (fun e => by unfold GL.wt; omega) s.links
  refine zb Tryz.func136 rfl Tryz.ntmps136 (by kernel_rfl) rfl fun w0 I0 G0 => ?_
  refine zD <| zB <| g_uG (zi 1002 rfl rfl rfl rfl) rfl <| g_u (zE rfl rfl) <| zF <| zA <| zD <| yw mixed <| g_u (zC rfl rfl) <| g_u (yd rfl rfl Tryz.underlying9) <| g_u (zG rfl rfl fa52_3 rfl) <| g_u (zH rfl rfl rfl tA9 tS9 rfl rfl) <| g_u (yd rfl rfl Tryz.underlying9) <| g_u (yB rfl rfl rfl) <| g_u (zG rfl rfl fa52_4 rfl) <| g_u (zH rfl rfl rfl tA9 tS9 rfl rfl) <| g_u (yd rfl rfl Tryz.underlying9) <| g_u (yB rfl rfl rfl) <| g_u (zG rfl rfl fa52_11 rfl) <| g_u (zG rfl rfl fa50_1 rfl) <| g_u (zH rfl rfl rfl tA9 tS9 rfl rfl) <| g_u (yd rfl rfl Tryz.underlying9) <| g_u (yB rfl rfl rfl) <| g_u (s_mul rfl rfl rfl) <| g_u (yB rfl rfl rfl) <| g_u (zG rfl rfl fa52_8 rfl) <| g_u (zH rfl rfl rfl tA46 tS46 rfl rfl) ?_
  refine g_u (zT (wattrs_c _ ho.2.2.2.1 (by omega)) rfl rfl) ?_
  refine g_u (yB rfl rfl rfl) <| g_u (zE rfl rfl) ?_
  refine zF ⟨by kernel_rfl, ?_⟩
  refine zA <| zD <| zB <| g_u (zC rfl rfl) <| g_u (zG rfl rfl fa52_9 rfl) <| g_u (zH rfl rfl rfl tA47 tS47 rfl rfl) ?_
  refine g_u (zT (sumE_c s.events evW 188 [] (fun e he => evW_c e (ho.2.2.2.2.1 e he) (by have := yM GE.wt he; omega)) (by omega) (by omega)) rfl rfl) ?_
  refine g_u (yB rfl rfl rfl) <| g_u (zE rfl rfl) <| zF <| zA <| zD <| zB <| g_u (zC rfl rfl) <| g_u (zG rfl rfl wy rfl) <| g_u (zH rfl rfl rfl tA48 tS48 rfl rfl) ?_
  refine g_u (zT (sumL_c s.links lkW 190 [] (fun e he => lkW_c e (ho.2.2.2.2.2 e he) (by have := yM GL.wt he; omega)) (by omega) (by omega)) rfl rfl) ?_
  refine g_u (yB rfl rfl rfl) <| g_u (zE rfl rfl) <| zF <| zA <| zJ ?_
  exact ⟨⟨(rfl : toAV (Al.look _ _) = some _).trans (congrArg some (by (exact congrArg iv (by rw [qe]; ((try simp only [qa, qb, qc, ne_eq, beq_iff_eq, qd, beq_eq_false_iff_ne, Bool.not_eq_true', Bool.not_eq_false', gt_iff_lt, ge_iff_le] at *); (repeat simp (disch := omega) only [zZ, zq] at *)); omega)))), rfl⟩, trivial⟩
end Go.Proofs
namespace Go.Proofs
open Go Go.Al
set_option maxRecDepth 10000
theorem scope1_c (s : GSpan) (t : ByteArray) (ho : s.ok) (hw : s.wt ≤ 1000000) (ht : t.size ≤ 10000000) : zj Tryz.prog Γ0 135 [s.av, .cp (sv t)] [iv (spanW s t : Nat)] := by
  refine zb Tryz.func135 rfl Tryz.ntmps135 (by kernel_rfl) rfl fun w0 I0 G0 => ?_
  refine zD <| zB <| g_uG (zi 1002 rfl rfl rfl rfl) rfl <| g_u (zE rfl rfl) <| zF <| zA <| zD <| zB ?_
  refine g_u (zH rfl rfl rfl tA52 tS52 rfl (by first | exact xp (GSpan.width _) rfl | rfl)) ?_
  refine g_u (zW rfl rfl tA9 tS9 rfl rfl) <| g_u (zT (spanW_c s t ho hw ht) rfl rfl) <| g_u (zE rfl rfl) <| zF <| zA <| zJ ?_
  exact ⟨⟨(rfl : toAV (Al.look _ _) = some _).trans (congrArg some (by rfl)), rfl⟩, trivial⟩
theorem scopeW_c (s : GScope) (t : ByteArray) (ho : s.ok) (hw : s.wt ≤ 1000000) (ht : t.size ≤ 10000000) : zj Tryz.prog Γ0 89 [s.av, sv t] [iv (scopeW s t : Nat)] := by
  have q0 := scopeW_le s t ht
  have qe : scopeW s t = 64 + 6 * (s.name.size + s.version.size) + zr (fun x => spanW x t) s.spans := rfl
  have qw : s.wt = 1 + s.name.size + s.version.size + zr GSpan.wt s.spans := rfl
  have ql := yJ GSpan.wt (fun e => by unfold GSpan.wt; omega) s.spans
  refine zb Tryz.func89 rfl Tryz.ntmps89 (by kernel_rfl) rfl fun w0 I0 G0 => ?_
  refine zD <| zB <| g_uG (zi 1002 rfl rfl rfl rfl) rfl <| g_uG (zi 1003 rfl rfl rfl rfl) rfl <| g_u (zE rfl rfl) <| zF <| zA <| zD <| aw_share 1003 rfl rfl <| yw mixed <| g_u (zG rfl rfl fa55_0 rfl) <| g_u (zH rfl rfl rfl tA9 tS9 rfl rfl) <| g_u (yd rfl rfl Tryz.underlying9) <| g_u (zG rfl rfl fa55_1 rfl) <| g_u (zH rfl rfl rfl tA9 tS9 rfl rfl) <| g_u (yd rfl rfl Tryz.underlying9) <| g_u (yB rfl rfl rfl) <| g_u (s_mul rfl rfl rfl) <| g_u (yB rfl rfl rfl) <| g_u (zG rfl rfl fa55_2 rfl) <| g_u (zH rfl rfl rfl tA53 tS53 rfl rfl) <| g_u (y_ rfl rfl rfl) ?_
  refine g_u (zT (sumS_c s.spans (fun x => spanW x t) 135 [.cp (sv t)] (fun x hx => scope1_c x t (ho.2.2 x hx) (by have := yM GSpan.wt hx; omega) ht) (by omega) (by omega)) rfl rfl) ?_
  refine g_u (yB rfl rfl rfl) <| g_u (zE rfl rfl) ?_
  refine zF ⟨by kernel_rfl, ?_⟩
  refine zA <| zJ ?_
  exact ⟨⟨(rfl : toAV (Al.look _ _) = some _).trans (congrArg some (by (exact congrArg iv (by rw [qe]; ((try simp only [qa, qb, qc, ne_eq, beq_iff_eq, qd, beq_eq_false_iff_ne, Bool.not_eq_true', Bool.not_eq_false', gt_iff_lt, ge_iff_le] at *); (repeat simp (disch := omega) only [zZ, zq] at *)); omega)))), rfl⟩, trivial⟩
theorem res1_c (s : GScope) (t : ByteArray) (ho : s.ok) (hw : s.wt ≤ 1000000) (ht : t.size ≤ 10000000) : zj Tryz.prog Γ0 88 [s.av, .cp (sv t)] [iv (scopeW s t : Nat)] := by
  refine zb Tryz.func88 rfl Tryz.ntmps88 (by kernel_rfl) rfl fun w0 I0 G0 => ?_
  refine zD <| zB <| g_uG (zi 1002 rfl rfl rfl rfl) rfl <| g_u (zE rfl rfl) <| zF <| zA <| zD <| zB <| g_u (zH rfl rfl rfl tA55 tS55 rfl rfl) <| g_u (zW rfl rfl tA9 tS9 rfl rfl) <| g_u (zT (scopeW_c s t ho hw ht) rfl rfl) <| g_u (zE rfl rfl) <| zF <| zA <| zJ ?_
  exact ⟨⟨(rfl : toAV (Al.look _ _) = some _).trans (congrArg some (by rfl)), rfl⟩, trivial⟩
theorem resW_c (r : GRes) (ho : r.ok) (hw : r.wt ≤ 60000) (hr : risA none r.attrs) : zj Tryz.prog Γ0 53 [r.av] [iv (resW r : Nat)] := by
  have ht : (y8 r).size ≤ 10000000 := by have := serviceM_le r; omega
  have q0 := resW_le r ht
  have qe : resW r = 64 + wY r.attrs + zr (fun s => scopeW s (y8 r)) r.scopes := rfl
  have qw : r.wt = 1 + wtAs r.attrs + zr GScope.wt r.scopes := rfl
  have ql := yJ GScope.wt (fun e => by unfold GScope.wt; omega) r.scopes
  refine zb Tryz.func53 rfl Tryz.ntmps53 (by kernel_rfl) rfl fun w0 I0 G0 => ?_
  refine zD <| zB <| g_uG (zi 1001 rfl rfl rfl rfl) rfl <| g_u (zE rfl rfl) <| zF <| zA <| zD <| zB <| g_u (zH rfl rfl rfl tA58 tS58 rfl rfl) ?_
  refine g_u (zT (service_c r ho.1 (by omega) hr) rfl rfl) ?_
  refine g_uG (zo 1003 rfl rfl rfl tZ9) rfl <| g_u (zL rfl rfl rfl tS9 rfl rfl) <| zF <| zA <| zD <| aw_share 1003 rfl rfl <| yw mixed <| g_u (zG rfl rfl fa58_0 rfl) <| g_u (zH rfl rfl rfl tA46 tS46 rfl rfl) ?_
  refine g_u (zT (wattrs_c _ ho.1 (by omega)) rfl rfl) ?_
  refine g_u (yB rfl rfl rfl) <| g_u (zG rfl rfl wJ rfl) <| g_u (zH rfl rfl rfl tA56 tS56 rfl rfl) <| g_u (y_ rfl rfl rfl) ?_
  refine g_u (zT (sumC_c r.scopes (fun s => scopeW s (y8 r)) 88 [.cp (sv (y8 r))] (fun x hx => res1_c x _ (ho.2 x hx) (by have := yM GScope.wt hx; omega) ht) (by omega) (by omega)) rfl rfl) ?_
  refine g_u (yB rfl rfl rfl) <| g_u (zE rfl rfl) ?_
  refine zF ⟨by kernel_rfl, ?_⟩
  refine zA <| zJ ?_
  exact ⟨⟨(rfl : toAV (Al.look _ _) = some _).trans (congrArg some (by (exact congrArg iv (by rw [qe]; ((try simp only [qa, qb, qc, ne_eq, beq_iff_eq, qd, beq_eq_false_iff_ne, Bool.not_eq_true', Bool.not_eq_false', gt_iff_lt, ge_iff_le] at *); (repeat simp (disch := omega) only [zZ, zq] at *)); omega)))), rfl⟩, trivial⟩
def fitR (r : GRes) : Prop := wtAs r.attrs ≤ 1000000 ∧ r.scopes.length ≤ 1000000 ∧ (y8 r).size ≤ 10000000 ∧ ∀ c ∈ r.scopes, c.wt ≤ 1000000
theorem fit_small {r : GRes} (h : r.wt ≤ 60000) : fitR r := by
  have h1 := serviceM_le r
  have h2 : r.wt = 1 + wtAs r.attrs + zr GScope.wt r.scopes := rfl
  have h3 := yJ GScope.wt (fun e => by unfold GScope.wt; omega) r.scopes
  exact ⟨by omega, by omega, by omega, fun c hc => by have := yM GScope.wt hc; omega⟩
def fitB (b : List GRes) : Prop := wtB b ≤ 3000000 ∧ ∀ r ∈ b, fitR r
theorem fitB_small {b : List GRes} (h : wtB b ≤ 60000) : fitB b := ⟨by omega, fun r hr => fit_small (by have := yM GRes.wt hr; unfold wtB at h; omega)⟩
theorem sumBy_le3 {α : Type} {F G : α → Nat} {k : Nat} : ∀ (l : List α), (∀ x ∈ l, F x ≤ k * G x) → zr F l ≤ k * zr G l
  | [], _ => by simp [zr]
  | x :: xs, h => by simp only [zr, Nat.mul_add]; have := h x List.mem_cons_self; have := sumBy_le3 xs (fun y hy => h y (List.mem_cons_of_mem _ hy)); omega
theorem batchW_c (b : List GRes) (ho : okB b) (hw : wtB b ≤ 60000) (hr : ∀ r ∈ b, risA none r.attrs) : zj Tryz.prog Γ0 30 [yp b] [iv (batchW b : Nat)] := by
  have ql := yJ GRes.wt (fun e => by unfold GRes.wt; omega) b
  have q0 : zr resW b ≤ 100000000 * 60000 := by have h5 := sumBy_le3 (F := resW) (k := 100000000) (G := GRes.wt) b (fun r hr => resW_le r (by have := serviceM_le r; have h6 := yM GRes.wt hr; unfold wtB at hw; omega)); unfold wtB at hw; omega
  have qe : batchW b = 16 + zr resW b := rfl
  have qw : wtB b = zr GRes.wt b := rfl
  refine zb Tryz.func30 rfl Tryz.ntmps30 (by kernel_rfl) rfl fun w0 I0 G0 => ?_
  refine zD <| zB <| g_uG (zi 1001 rfl rfl rfl rfl) rfl <| g_u (zE rfl rfl) <| zF <| zA <| zD <| zB <| g_u (zG rfl rfl fa24_0 rfl) <| g_u (zH rfl rfl rfl tA22 tS22 rfl rfl) ?_
  refine g_u (zT (sumR_c b resW 53 [] (fun r hx => resW_c r (ho r hx) (by have := yM GRes.wt hx; omega) (hr r hx)) (by omega) (by omega)) rfl rfl) ?_
  refine g_u (yB rfl rfl rfl) <| g_u (zE rfl rfl) <| zF <| zA <| zJ ?_
  exact ⟨⟨(rfl : toAV (Al.look _ _) = some _).trans (congrArg some (by (exact congrArg iv (by rw [qe]; ((try simp only [qa, qb, qc, ne_eq, beq_iff_eq, qd, beq_eq_false_iff_ne, Bool.not_eq_true', Bool.not_eq_false', gt_iff_lt, ge_iff_le] at *); (repeat simp (disch := omega) only [zZ, zq] at *)); omega)))), rfl⟩, trivial⟩
end Go.Proofs
namespace Go.Proofs
open Go Go.Al
set_option maxRecDepth 10000
end Go.Proofs
namespace Go.Proofs
open Go Go.Al
set_option maxRecDepth 10000
end Go.Proofs
namespace Go.Proofs
open Go Go.Al
set_option maxRecDepth 10000
end Go.Proofs
namespace Go.Proofs
open Go Go.Al
set_option maxRecDepth 10000
end Go.Proofs
namespace Go.Proofs
open Go Go.Al
set_option maxRecDepth 10000
end Go.Proofs
namespace Go.Proofs
open Go Go.Al
set_option maxRecDepth 10000
set_option maxHeartbeats 4000000 in
theorem leftS_c (s : GSpan) (n : Int) (hn : -1000000000000 ≤ n ∧ n ≤ 1000000000) : zj Tryz.prog Γ0 24 [s.av, iv n] [iv (leftS s n)] := by
  refine zb Tryz.func24 rfl Tryz.ntmps24 (by kernel_rfl) rfl fun w0 I0 G0 => ?_
  refine zD <| zB <| g_uG (zi 1002 rfl rfl rfl rfl) rfl <| g_u (zE rfl rfl) <| zF <| zA <| zD <| zD <| zB <| g_u (zC rfl rfl) <| g_u (yU rfl rfl rfl) <| g_u (zC rfl rfl) <| zz (t := 9) rfl ?_
  rintro (hb1 | hb1)
  · rw [hb1]
    have z1 : n < 0 := of_decide_eq_true hb1
    refine zI rfl rfl rfl <| zI rfl rfl rfl <| zI rfl rfl rfl <| zI rfl rfl rfl <| zI rfl rfl rfl <| g_u (zX rfl rfl rfl) <| g_u (zC rfl rfl) <| zI rfl rfl rfl <| zI rfl rfl rfl <| zI rfl rfl rfl <| zI rfl rfl rfl <| zI rfl rfl rfl <| g_u (zX rfl rfl rfl) <| g_u (zC rfl rfl) <| zI rfl rfl rfl <| zI rfl rfl rfl <| zI rfl rfl rfl <| zI rfl rfl rfl <| zI rfl rfl rfl <| zI rfl rfl rfl <| g_u (zX rfl rfl rfl) <| zF <| zA <| zk rfl <| zD <| zB <| g_u (zE rfl rfl) <| zF <| zA <| zJ <| zK ?_
    exact ⟨⟨(rfl : toAV (Al.look _ _) = some _).trans (congrArg some (by (exact congrArg iv (by unfold leftS; first | (rw [if_pos (by omega)]; done) | (rw [if_neg (by omega), g4, gfin]; done) | (rw [if_neg (by omega), g4, xo hi2 (by omega) hk2]; done) | (rw [if_neg (by omega), h4, xq hi (by omega) hk]; exact (y6 _ (by omega)).symm))))), rfl⟩, trivial⟩
  · rw [hb1]
    have z1 : ¬ n < 0 := of_decide_eq_false hb1
    refine zP rfl rfl (zG rfl rfl fa52_3 rfl) <| zP rfl rfl (zH rfl rfl rfl tA9 tS9 rfl rfl) <| zP rfl rfl (yd rfl rfl Tryz.underlying9) <| zP rfl rfl (zC rfl rfl) <| zP rfl rfl (wl rfl rfl rfl) <| g_u (zg rfl rfl rfl) <| g_u (zC rfl rfl) <| zz (t := 16) rfl ?_
    rintro (hb2 | hb2)
    · rw [hb2]
      have z2 : (s.state.size : Int) > n := of_decide_eq_true hb2
      refine zI rfl rfl rfl <| zI rfl rfl rfl <| zI rfl rfl rfl <| zI rfl rfl rfl <| zI rfl rfl rfl <| g_u (zX rfl rfl rfl) <| g_u (zC rfl rfl) <| zI rfl rfl rfl <| zI rfl rfl rfl <| zI rfl rfl rfl <| zI rfl rfl rfl <| zI rfl rfl rfl <| zI rfl rfl rfl <| g_u (zX rfl rfl rfl) <| zF <| zA <| zk rfl <| zD <| zB <| g_u (zE rfl rfl) <| zF <| zA <| zJ <| zK ?_
      exact ⟨⟨(rfl : toAV (Al.look _ _) = some _).trans (congrArg some (by (exact congrArg iv (by unfold leftS; first | (rw [if_pos (by omega)]; done) | (rw [if_neg (by omega), g4, gfin]; done) | (rw [if_neg (by omega), g4, xo hi2 (by omega) hk2]; done) | (rw [if_neg (by omega), h4, xq hi (by omega) hk]; exact (y6 _ (by omega)).symm))))), rfl⟩, trivial⟩
    · rw [hb2]
      have z2 : ¬ (s.state.size : Int) > n := of_decide_eq_false hb2
      refine zP rfl rfl (zG rfl rfl fa52_4 rfl) <| zP rfl rfl (zH rfl rfl rfl tA9 tS9 rfl rfl) <| zP rfl rfl (yd rfl rfl Tryz.underlying9) <| zP rfl rfl (zC rfl rfl) <| zP rfl rfl (wl rfl rfl rfl) <| g_u (zg rfl rfl rfl) <| g_u (zC rfl rfl) <| zz (t := 23) rfl ?_
      rintro (hb3 | hb3)
      · rw [hb3]
        have z3 : (s.name.size : Int) > n := of_decide_eq_true hb3
        refine zI rfl rfl rfl <| zI rfl rfl rfl <| zI rfl rfl rfl <| zI rfl rfl rfl <| zI rfl rfl rfl <| zI rfl rfl rfl <| g_u (zX rfl rfl rfl) <| zF <| zA <| zk rfl <| zD <| zB <| g_u (zE rfl rfl) <| zF <| zA <| zJ <| zK ?_
        exact ⟨⟨(rfl : toAV (Al.look _ _) = some _).trans (congrArg some (by (exact congrArg iv (by unfold leftS; first | (rw [if_pos (by omega)]; done) | (rw [if_neg (by omega), g4, gfin]; done) | (rw [if_neg (by omega), g4, xo hi2 (by omega) hk2]; done) | (rw [if_neg (by omega), h4, xq hi (by omega) hk]; exact (y6 _ (by omega)).symm))))), rfl⟩, trivial⟩
      · rw [hb3]
        have z3 : ¬ (s.name.size : Int) > n := of_decide_eq_false hb3
        refine zP rfl rfl (zG rfl rfl fa52_11 rfl) <| zP rfl rfl (zG rfl rfl fa50_1 rfl) <| zP rfl rfl (zH rfl rfl rfl tA9 tS9 rfl rfl) <| zP rfl rfl (yd rfl rfl Tryz.underlying9) <| zP rfl rfl (zC rfl rfl) <| zP rfl rfl (wl rfl rfl rfl) <| g_u (zg rfl rfl rfl) <| zF <| zA ?_
        refine zN rfl (fun hb4 => ?_) (fun hb4 => ?_)
        · have z4 : (s.note.size : Int) > n := of_decide_eq_true hb4
          refine zD <| zB <| g_u (zE rfl rfl) <| zF <| zA <| zJ <| zK ?_
          exact ⟨⟨(rfl : toAV (Al.look _ _) = some _).trans (congrArg some (by (exact congrArg iv (by unfold leftS; first | (rw [if_pos (by omega)]; done) | (rw [if_neg (by omega), g4, gfin]; done) | (rw [if_neg (by omega), g4, xo hi2 (by omega) hk2]; done) | (rw [if_neg (by omega), h4, xq hi (by omega) hk]; exact (y6 _ (by omega)).symm))))), rfl⟩, trivial⟩
        · have z4 : ¬ (s.note.size : Int) > n := of_decide_eq_false hb4
          have bm := xz s.attrs (n - 1 - s.state.size - s.name.size - s.note.size)
          have ew : yF s.attrs (IntKind.i64.wrap (IntKind.i64.wrap (IntKind.i64.wrap (IntKind.i64.wrap (n - 1) - s.state.size) - s.name.size) - s.note.size)) = yF s.attrs (n - 1 - s.state.size - s.name.size - s.note.size) := by rw [zZ (n := n - 1) (by omega) (by omega), zZ (n := n - 1 - s.state.size) (by omega) (by omega), zZ (n := n - 1 - s.state.size - s.name.size) (by omega) (by omega), zZ (by omega) (by omega)]
          refine zO <| zA <| zD <| zB <| g_u (zG rfl rfl fa52_8 rfl) <| g_u (zH rfl rfl rfl tA46 tS46 rfl rfl) <| g_u (zC rfl rfl) <| g_u (s_sub rfl rfl rfl) <| g_u (zG rfl rfl fa52_3 rfl) <| g_u (zH rfl rfl rfl tA9 tS9 rfl rfl) <| g_u (yd rfl rfl Tryz.underlying9) <| g_u (s_sub rfl rfl rfl) <| g_u (zG rfl rfl fa52_4 rfl) <| g_u (zH rfl rfl rfl tA9 tS9 rfl rfl) <| g_u (yd rfl rfl Tryz.underlying9) <| g_u (s_sub rfl rfl rfl) <| g_u (zG rfl rfl fa52_11 rfl) <| g_u (zG rfl rfl fa50_1 rfl) <| g_u (zH rfl rfl rfl tA9 tS9 rfl rfl) <| g_u (yd rfl rfl Tryz.underlying9) <| g_u (s_sub rfl rfl rfl) ?_
          refine g_u (zT (leftAs_c _ _ ⟨by ((try simp only [qa, qb, qc, ne_eq, beq_iff_eq, qd, beq_eq_false_iff_ne, Bool.not_eq_true', Bool.not_eq_false', gt_iff_lt, ge_iff_le] at *); (repeat simp (disch := omega) only [zZ, zq] at *)); omega, by ((try simp only [qa, qb, qc, ne_eq, beq_iff_eq, qd, beq_eq_false_iff_ne, Bool.not_eq_true', Bool.not_eq_false', gt_iff_lt, ge_iff_le] at *); (repeat simp (disch := omega) only [zZ, zq] at *)); omega⟩) rfl rfl) ?_
          refine g_u (zE rfl rfl) <| zF <| zA <| zD <| zD <| zB <| g_u (zE rfl rfl) <| zF <| zA <| zQ ?_
          refine zs (fun j : Nat × Int => [(2, .ptr 1002 0), (1002, .box 52 (.imm s.av)), (1, .imm (iv j.2)), (5, .imm (iv (j.1 : Int)))]) (fun j => j.1 ≤ s.events.length ∧ (-1000000000000 ≤ j.2 ∧ j.2 ≤ 1000000000) ∧ ((j.1 : Int) ≤ yF s.attrs (n - 1 - s.state.size - s.name.size - s.note.size) - j.2) ∧ leftE s.events (yF s.attrs (n - 1 - s.state.size - s.name.size - s.note.size)) = leftE (s.events.drop j.1) j.2) (fun j => s.events.length - j.1) (⟨0, yF s.attrs (n - 1 - s.state.size - s.name.size - s.note.size)⟩) ?_ ⟨rfl, rfl, zV rfl (by rw [ew]), rfl, trivial⟩ ?_
          · exact ⟨Nat.zero_le _, ⟨by have := bm.2.1; omega, by omega⟩, by simp, rfl⟩
          · rintro ⟨i, m⟩ ⟨h1, h2, h3, h4⟩; dsimp only at h1 h2 h3 h4
            refine zD <| zD <| zB <| g_u (zC rfl rfl) <| g_u (zG rfl rfl fa52_9 rfl) <| g_u (zH rfl rfl rfl tA47 tS47 rfl rfl) <| g_u (zx rfl rfl Tryz.underlying47) <| g_u (yU rfl rfl rfl) <| g_u (zC rfl rfl) <| zz (t := 54) rfl ?_
            rintro (hb5 | hb5)
            · rw [hb5]
              have hi : i < s.events.length := by have := of_decide_eq_true hb5; (try simp only [List.length_map] at this); omega
              refine zP rfl rfl (zC rfl rfl) <| zP rfl rfl (s_geI rfl rfl rfl) <| g_u (zX rfl rfl rfl) <| zF <| zA ?_
              refine zN rfl (fun hb6 => ?_) (fun hb6 => ?_)
              · have hs : ¬ m < 0 := by have := of_decide_eq_true hb6; omega
                refine zO <| zA <| zD <| zQ <| zD <| zD <| zB <| g_u (zG rfl rfl fa52_9 rfl) <| g_u (zH rfl rfl rfl tA47 tS47 rfl rfl) <| g_u (zC rfl rfl) ?_
                refine g_u (za rfl rfl rfl Tryz.underlying47 tS95 (by omega) (ixE hi)) ?_
                refine g_u (zY rfl rfl fa95_1 rfl rfl) <| g_u (zW rfl rfl tA9 tS9 rfl rfl) <| g_u (yd rfl rfl Tryz.underlying9) <| g_u (zC rfl rfl) <| g_u (wl rfl rfl rfl) <| zF <| zA ?_
                refine zN rfl (fun hb7 => ?_) (fun hb7 => ?_)
                · have hk : ((nthE s.events i).name.size : Int) > m := of_decide_eq_true hb7
                  refine zD <| zB <| g_u (zE rfl rfl) <| zF <| zA <| zJ <| zK <| ze <| zK <| zK <| ze <| zK ?_
                  exact ⟨⟨(rfl : toAV (Al.look _ _) = some _).trans (congrArg some (by (exact congrArg iv (by unfold leftS; first | (rw [if_pos (by omega)]; done) | (rw [if_neg (by omega), g4, gfin]; done) | (rw [if_neg (by omega), g4, xo hi2 (by omega) hk2]; done) | (rw [if_neg (by omega), h4, xq hi (by omega) hk]; exact (y6 _ (by omega)).symm))))), rfl⟩, trivial⟩
                · have hk : ¬ ((nthE s.events i).name.size : Int) > m := of_decide_eq_false hb7
                  refine zO <| zA <| yw mixed <| g_u (zG rfl rfl fa52_9 rfl) <| g_u (zH rfl rfl rfl tA47 tS47 rfl rfl) <| g_u (zC rfl rfl) ?_
                  refine g_u (za rfl rfl rfl Tryz.underlying47 tS95 (by omega) (ixE hi)) ?_
                  refine g_u (zY rfl rfl fa95_2 rfl rfl) <| g_u (zW rfl rfl tA46 tS46 rfl rfl) <| g_u (zC rfl rfl) <| g_u (s_sub rfl rfl rfl) <| g_u (zG rfl rfl fa52_9 rfl) <| g_u (zH rfl rfl rfl tA47 tS47 rfl rfl) <| g_u (zC rfl rfl) ?_
                  refine g_u (za rfl rfl rfl Tryz.underlying47 tS95 (by omega) (ixE hi)) ?_
                  refine g_u (zY rfl rfl fa95_1 rfl rfl) <| g_u (zW rfl rfl tA9 tS9 rfl rfl) <| g_u (yd rfl rfl Tryz.underlying9) <| g_u (s_sub rfl rfl rfl) ?_
                  refine g_u (zT (leftAs_c _ _ ⟨by ((try simp only [qa, qb, qc, ne_eq, beq_iff_eq, qd, beq_eq_false_iff_ne, Bool.not_eq_true', Bool.not_eq_false', gt_iff_lt, ge_iff_le] at *); (repeat simp (disch := omega) only [zZ, zq] at *)); omega, by ((try simp only [qa, qb, qc, ne_eq, beq_iff_eq, qd, beq_eq_false_iff_ne, Bool.not_eq_true', Bool.not_eq_false', gt_iff_lt, ge_iff_le] at *); (repeat simp (disch := omega) only [zZ, zq] at *)); omega⟩) rfl rfl) ?_
                  refine g_u (zE rfl rfl) ?_
                  refine zF ⟨by kernel_rfl, ?_⟩
                  refine zM <| zA <| zB <| g_u (zC rfl rfl) <| g_u (yB rfl rfl rfl) <| g_u (zE rfl rfl) <| zF <| zA ?_
                  have ed := leftE_drop (m := m) hi (by omega) hk
                  have bl := xz (nthE s.events i).attrs (m - 1 - (nthE s.events i).name.size)
                  refine ⟨⟨i + 1, yF (nthE s.events i).attrs (m - 1 - (nthE s.events i).name.size)⟩, ⟨hi, ⟨by dsimp only; omega, by dsimp only; omega⟩, by dsimp only; omega, by dsimp only; rw [h4, ed]⟩, ⟨rfl, rfl, zV rfl (by dsimp only; rw [zZ (n := m - 1) (by omega) (by omega), zZ (by omega) (by omega)]), zV rfl (by rw [zZ (by omega) (by omega)]; rfl), trivial⟩, by dsimp only; omega⟩
              · have hs : m < 0 := by have := of_decide_eq_false hb6; omega
                have hm : leftE s.events (yF s.attrs (n - 1 - s.state.size - s.name.size - s.note.size)) = m := by rw [h4]; exact leftE_neg _ hs
                refine zv <| zU <| zU <| zp <| zA <| zD <| zD <| zB <| g_u (zE rfl rfl) <| zF <| zA <| zQ ?_
                refine zs (fun j : Nat × Int => [(2, .ptr 1002 0), (1002, .box 52 (.imm s.av)), (1, .imm (iv j.2)), (6, .imm (iv (j.1 : Int)))]) (fun j => j.1 ≤ s.links.length ∧ (-1000000000000 ≤ j.2 ∧ j.2 ≤ 1000000000) ∧ ((j.1 : Int) ≤ leftE s.events (yF s.attrs (n - 1 - s.state.size - s.name.size - s.note.size)) - j.2) ∧ leftL s.links (leftE s.events (yF s.attrs (n - 1 - s.state.size - s.name.size - s.note.size))) = leftL (s.links.drop j.1) j.2) (fun j => s.links.length - j.1) (⟨0, m⟩) ?_ ⟨rfl, rfl, rfl, rfl, trivial⟩ ?_
                · exact ⟨Nat.zero_le _, h2, by rw [hm]; simp, by rw [hm]; rfl⟩
                · rintro ⟨i2, m2⟩ ⟨g1, g2, g3, g4⟩; dsimp only at g1 g2 g3 g4
                  refine zD <| zD <| zB <| g_u (zC rfl rfl) <| g_u (zG rfl rfl wy rfl) <| g_u (zH rfl rfl rfl tA48 tS48 rfl rfl) <| g_u (zx rfl rfl Tryz.underlying48) <| g_u (yU rfl rfl rfl) <| g_u (zC rfl rfl) <| zz (t := 91) rfl ?_
                  rintro (hb8 | hb8)
                  · rw [hb8]
                    have hi2 : i2 < s.links.length := by have := of_decide_eq_true hb8; (try simp only [List.length_map] at this); omega
                    refine zP rfl rfl (zC rfl rfl) <| zP rfl rfl (s_geI rfl rfl rfl) <| g_u (zX rfl rfl rfl) <| zF <| zA ?_
                    refine zN rfl (fun hb9 => ?_) (fun hb9 => ?_)
                    · have hs2 : ¬ m2 < 0 := by have := of_decide_eq_true hb9; omega
                      refine zO <| zA <| zD <| zQ <| zD <| zD <| zB <| g_u (zG rfl rfl wy rfl) <| g_u (zH rfl rfl rfl tA48 tS48 rfl rfl) <| g_u (zC rfl rfl) ?_
                      refine g_u (za rfl rfl rfl Tryz.underlying48 tS107 (by omega) (ixL hi2)) ?_
                      refine g_u (zY rfl rfl fa107_2 rfl rfl) <| g_u (zW rfl rfl tA9 tS9 rfl rfl) <| g_u (yd rfl rfl Tryz.underlying9) <| g_u (zC rfl rfl) <| g_u (wl rfl rfl rfl) <| zF <| zA ?_
                      refine zN rfl (fun hb10 => ?_) (fun hb10 => ?_)
                      · have hk2 : ((nthL s.links i2).state.size : Int) > m2 := of_decide_eq_true hb10
                        refine zD <| zB <| g_u (zE rfl rfl) <| zF <| zA <| zJ <| zK <| ze <| zK <| zK <| ze <| zK ?_
                        exact ⟨⟨(rfl : toAV (Al.look _ _) = some _).trans (congrArg some (by (exact congrArg iv (by unfold leftS; first | (rw [if_pos (by omega)]; done) | (rw [if_neg (by omega), g4, gfin]; done) | (rw [if_neg (by omega), g4, xo hi2 (by omega) hk2]; done) | (rw [if_neg (by omega), h4, xq hi (by omega) hk]; exact (y6 _ (by omega)).symm))))), rfl⟩, trivial⟩
                      · have hk2 : ¬ ((nthL s.links i2).state.size : Int) > m2 := of_decide_eq_false hb10
                        refine zO <| zA <| yw mixed <| g_u (zG rfl rfl wy rfl) <| g_u (zH rfl rfl rfl tA48 tS48 rfl rfl) <| g_u (zC rfl rfl) ?_
                        refine g_u (za rfl rfl rfl Tryz.underlying48 tS107 (by omega) (ixL hi2)) ?_
                        refine g_u (zY rfl rfl fa107_3 rfl rfl) <| g_u (zW rfl rfl tA46 tS46 rfl rfl) <| g_u (zC rfl rfl) <| g_u (s_sub rfl rfl rfl) <| g_u (zG rfl rfl wy rfl) <| g_u (zH rfl rfl rfl tA48 tS48 rfl rfl) <| g_u (zC rfl rfl) ?_
                        refine g_u (za rfl rfl rfl Tryz.underlying48 tS107 (by omega) (ixL hi2)) ?_
                        refine g_u (zY rfl rfl fa107_2 rfl rfl) <| g_u (zW rfl rfl tA9 tS9 rfl rfl) <| g_u (yd rfl rfl Tryz.underlying9) <| g_u (s_sub rfl rfl rfl) ?_
                        refine g_u (zT (leftAs_c _ _ ⟨by ((try simp only [qa, qb, qc, ne_eq, beq_iff_eq, qd, beq_eq_false_iff_ne, Bool.not_eq_true', Bool.not_eq_false', gt_iff_lt, ge_iff_le] at *); (repeat simp (disch := omega) only [zZ, zq] at *)); omega, by ((try simp only [qa, qb, qc, ne_eq, beq_iff_eq, qd, beq_eq_false_iff_ne, Bool.not_eq_true', Bool.not_eq_false', gt_iff_lt, ge_iff_le] at *); (repeat simp (disch := omega) only [zZ, zq] at *)); omega⟩) rfl rfl) ?_
                        refine g_u (zE rfl rfl) ?_
                        refine zF ⟨by kernel_rfl, ?_⟩
                        refine zM <| zA <| zB <| g_u (zC rfl rfl) <| g_u (yB rfl rfl rfl) <| g_u (zE rfl rfl) <| zF <| zA ?_
                        have ed := leftL_drop (m := m2) hi2 (by omega) hk2
                        have bl := xz (nthL s.links i2).attrs (m2 - 1 - (nthL s.links i2).state.size)
                        refine ⟨⟨i2 + 1, yF (nthL s.links i2).attrs (m2 - 1 - (nthL s.links i2).state.size)⟩, ⟨hi2, ⟨by dsimp only; omega, by dsimp only; omega⟩, by dsimp only; omega, by dsimp only; rw [g4, ed]⟩, ⟨rfl, rfl, zV rfl (by dsimp only; rw [zZ (n := m2 - 1) (by omega) (by omega), zZ (by omega) (by omega)]), zV rfl (by rw [zZ (by omega) (by omega)]; rfl), trivial⟩, by dsimp only; omega⟩
                    · have hs2 : m2 < 0 := by have := of_decide_eq_false hb9; omega
                      have gfin : leftL (s.links.drop i2) m2 = m2 := y6 _ hs2
                      refine zv <| zU <| zU <| zp <| zA <| zD <| zB <| g_u (zC rfl rfl) <| g_u (zE rfl rfl) <| zF <| zA <| zJ ?_
                      exact ⟨⟨(rfl : toAV (Al.look _ _) = some _).trans (congrArg some (by (exact congrArg iv (by unfold leftS; first | (rw [if_pos (by omega)]; done) | (rw [if_neg (by omega), g4, gfin]; done) | (rw [if_neg (by omega), g4, xo hi2 (by omega) hk2]; done) | (rw [if_neg (by omega), h4, xq hi (by omega) hk]; exact (y6 _ (by omega)).symm))))), rfl⟩, trivial⟩
                  · rw [hb8]
                    have hin2 : i2 = s.links.length := by have := of_decide_eq_false hb8; (try simp only [List.length_map] at this); omega
                    have gfin : leftL (s.links.drop i2) m2 = m2 := by rw [hin2, List.drop_length]; rfl
                    refine zI rfl rfl rfl <| zI rfl rfl rfl <| g_u (zg rfl rfl rfl) <| zF <| zA <| zd rfl <| zv <| zU <| zU <| zp <| zA <| zD <| zB <| g_u (zC rfl rfl) <| g_u (zE rfl rfl) <| zF <| zA <| zJ ?_
                    exact ⟨⟨(rfl : toAV (Al.look _ _) = some _).trans (congrArg some (by (exact congrArg iv (by unfold leftS; first | (rw [if_pos (by omega)]; done) | (rw [if_neg (by omega), g4, gfin]; done) | (rw [if_neg (by omega), g4, xo hi2 (by omega) hk2]; done) | (rw [if_neg (by omega), h4, xq hi (by omega) hk]; exact (y6 _ (by omega)).symm))))), rfl⟩, trivial⟩
            · rw [hb5]
              have hin : i = s.events.length := by have := of_decide_eq_false hb5; (try simp only [List.length_map] at this); omega
              have hm : leftE s.events (yF s.attrs (n - 1 - s.state.size - s.name.size - s.note.size)) = m := by rw [h4, hin, List.drop_length]; rfl
              refine zI rfl rfl rfl <| zI rfl rfl rfl <| g_u (zg rfl rfl rfl) <| zF <| zA <| zd rfl <| zv <| zU <| zU <| zp <| zA <| zD <| zD <| zB <| g_u (zE rfl rfl) <| zF <| zA <| zQ ?_
              refine zs (fun j : Nat × Int => [(2, .ptr 1002 0), (1002, .box 52 (.imm s.av)), (1, .imm (iv j.2)), (6, .imm (iv (j.1 : Int)))]) (fun j => j.1 ≤ s.links.length ∧ (-1000000000000 ≤ j.2 ∧ j.2 ≤ 1000000000) ∧ ((j.1 : Int) ≤ leftE s.events (yF s.attrs (n - 1 - s.state.size - s.name.size - s.note.size)) - j.2) ∧ leftL s.links (leftE s.events (yF s.attrs (n - 1 - s.state.size - s.name.size - s.note.size))) = leftL (s.links.drop j.1) j.2) (fun j => s.links.length - j.1) (⟨0, m⟩) ?_ ⟨rfl, rfl, rfl, rfl, trivial⟩ ?_
              · exact ⟨Nat.zero_le _, h2, by rw [hm]; simp, by rw [hm]; rfl⟩
              · rintro ⟨i2, m2⟩ ⟨g1, g2, g3, g4⟩; dsimp only at g1 g2 g3 g4
                refine zD <| zD <| zB <| g_u (zC rfl rfl) <| g_u (zG rfl rfl wy rfl) <| g_u (zH rfl rfl rfl tA48 tS48 rfl rfl) <| g_u (zx rfl rfl Tryz.underlying48) <| g_u (yU rfl rfl rfl) <| g_u (zC rfl rfl) <| zz (t := 91) rfl ?_
                rintro (hb11 | hb11)
                · rw [hb11]
                  have hi2 : i2 < s.links.length := by have := of_decide_eq_true hb11; (try simp only [List.length_map] at this); omega
                  refine zP rfl rfl (zC rfl rfl) <| zP rfl rfl (s_geI rfl rfl rfl) <| g_u (zX rfl rfl rfl) <| zF <| zA ?_
                  refine zN rfl (fun hb12 => ?_) (fun hb12 => ?_)
                  · have hs2 : ¬ m2 < 0 := by have := of_decide_eq_true hb12; omega
                    refine zO <| zA <| zD <| zQ <| zD <| zD <| zB <| g_u (zG rfl rfl wy rfl) <| g_u (zH rfl rfl rfl tA48 tS48 rfl rfl) <| g_u (zC rfl rfl) ?_
                    refine g_u (za rfl rfl rfl Tryz.underlying48 tS107 (by omega) (ixL hi2)) ?_
                    refine g_u (zY rfl rfl fa107_2 rfl rfl) <| g_u (zW rfl rfl tA9 tS9 rfl rfl) <| g_u (yd rfl rfl Tryz.underlying9) <| g_u (zC rfl rfl) <| g_u (wl rfl rfl rfl) <| zF <| zA ?_
                    refine zN rfl (fun hb13 => ?_) (fun hb13 => ?_)
                    · have hk2 : ((nthL s.links i2).state.size : Int) > m2 := of_decide_eq_true hb13
                      refine zD <| zB <| g_u (zE rfl rfl) <| zF <| zA <| zJ <| zK <| ze <| zK <| zK <| ze <| zK ?_
                      exact ⟨⟨(rfl : toAV (Al.look _ _) = some _).trans (congrArg some (by (exact congrArg iv (by unfold leftS; first | (rw [if_pos (by omega)]; done) | (rw [if_neg (by omega), g4, gfin]; done) | (rw [if_neg (by omega), g4, xo hi2 (by omega) hk2]; done) | (rw [if_neg (by omega), h4, xq hi (by omega) hk]; exact (y6 _ (by omega)).symm))))), rfl⟩, trivial⟩
                    · have hk2 : ¬ ((nthL s.links i2).state.size : Int) > m2 := of_decide_eq_false hb13
                      refine zO <| zA <| yw mixed <| g_u (zG rfl rfl wy rfl) <| g_u (zH rfl rfl rfl tA48 tS48 rfl rfl) <| g_u (zC rfl rfl) ?_
                      refine g_u (za rfl rfl rfl Tryz.underlying48 tS107 (by omega) (ixL hi2)) ?_
                      refine g_u (zY rfl rfl fa107_3 rfl rfl) <| g_u (zW rfl rfl tA46 tS46 rfl rfl) <| g_u (zC rfl rfl) <| g_u (s_sub rfl rfl rfl) <| g_u (zG rfl rfl wy rfl) <| g_u (zH rfl rfl rfl tA48 tS48 rfl rfl) <| g_u (zC rfl rfl) ?_
                      refine g_u (za rfl rfl rfl Tryz.underlying48 tS107 (by omega) (ixL hi2)) ?_
                      refine g_u (zY rfl rfl fa107_2 rfl rfl) <| g_u (zW rfl rfl tA9 tS9 rfl rfl) <| g_u (yd rfl rfl Tryz.underlying9) <| g_u (s_sub rfl rfl rfl) ?_
                      refine g_u (zT (leftAs_c _ _ ⟨by ((try simp only [qa, qb, qc, ne_eq, beq_iff_eq, qd, beq_eq_false_iff_ne, Bool.not_eq_true', Bool.not_eq_false', gt_iff_lt, ge_iff_le] at *); (repeat simp (disch := omega) only [zZ, zq] at *)); omega, by ((try simp only [qa, qb, qc, ne_eq, beq_iff_eq, qd, beq_eq_false_iff_ne, Bool.not_eq_true', Bool.not_eq_false', gt_iff_lt, ge_iff_le] at *); (repeat simp (disch := omega) only [zZ, zq] at *)); omega⟩) rfl rfl) ?_
                      refine g_u (zE rfl rfl) ?_
                      refine zF ⟨by kernel_rfl, ?_⟩
                      refine zM <| zA <| zB <| g_u (zC rfl rfl) <| g_u (yB rfl rfl rfl) <| g_u (zE rfl rfl) <| zF <| zA ?_
                      have ed := leftL_drop (m := m2) hi2 (by omega) hk2
                      have bl := xz (nthL s.links i2).attrs (m2 - 1 - (nthL s.links i2).state.size)
                      refine ⟨⟨i2 + 1, yF (nthL s.links i2).attrs (m2 - 1 - (nthL s.links i2).state.size)⟩, ⟨hi2, ⟨by dsimp only; omega, by dsimp only; omega⟩, by dsimp only; omega, by dsimp only; rw [g4, ed]⟩, ⟨rfl, rfl, zV rfl (by dsimp only; rw [zZ (n := m2 - 1) (by omega) (by omega), zZ (by omega) (by omega)]), zV rfl (by rw [zZ (by omega) (by omega)]; rfl), trivial⟩, by dsimp only; omega⟩
                  · have hs2 : m2 < 0 := by have := of_decide_eq_false hb12; omega
                    have gfin : leftL (s.links.drop i2) m2 = m2 := y6 _ hs2
                    refine zv <| zU <| zU <| zp <| zA <| zD <| zB <| g_u (zC rfl rfl) <| g_u (zE rfl rfl) <| zF <| zA <| zJ ?_
                    exact ⟨⟨(rfl : toAV (Al.look _ _) = some _).trans (congrArg some (by (exact congrArg iv (by unfold leftS; first | (rw [if_pos (by omega)]; done) | (rw [if_neg (by omega), g4, gfin]; done) | (rw [if_neg (by omega), g4, xo hi2 (by omega) hk2]; done) | (rw [if_neg (by omega), h4, xq hi (by omega) hk]; exact (y6 _ (by omega)).symm))))), rfl⟩, trivial⟩
                · rw [hb11]
                  have hin2 : i2 = s.links.length := by have := of_decide_eq_false hb11; (try simp only [List.length_map] at this); omega
                  have gfin : leftL (s.links.drop i2) m2 = m2 := by rw [hin2, List.drop_length]; rfl
                  refine zI rfl rfl rfl <| zI rfl rfl rfl <| g_u (zg rfl rfl rfl) <| zF <| zA <| zd rfl <| zv <| zU <| zU <| zp <| zA <| zD <| zB <| g_u (zC rfl rfl) <| g_u (zE rfl rfl) <| zF <| zA <| zJ ?_
                  exact ⟨⟨(rfl : toAV (Al.look _ _) = some _).trans (congrArg some (by (exact congrArg iv (by unfold leftS; first | (rw [if_pos (by omega)]; done) | (rw [if_neg (by omega), g4, gfin]; done) | (rw [if_neg (by omega), g4, xo hi2 (by omega) hk2]; done) | (rw [if_neg (by omega), h4, xq hi (by omega) hk]; exact (y6 _ (by omega)).symm))))), rfl⟩, trivial⟩
end Go.Proofs
namespace Go.Proofs
open Go Go.Al
theorem leftE_bd : ∀ (es : List GE) (m : Int), leftE es m ≤ m ∧ (0 ≤ m → -1 ≤ leftE es m)
  | [], m => ⟨Int.le_refl _, fun h => by simp only [leftE]; omega⟩
  | e :: es, m => by
    rw [leftE]
    split
    · exact ⟨Int.le_refl _, fun h => by omega⟩
    split
    · exact ⟨by omega, fun h => by omega⟩
    rename_i h1 h2
    have b := xz e.attrs (m - 1 - e.name.size)
    have c := leftE_bd es (yF e.attrs (m - 1 - e.name.size))
    refine ⟨by omega, fun h => ?_⟩
    rcases Int.lt_or_le (yF e.attrs (m - 1 - e.name.size)) 0 with h3 | h3
    · rw [leftE_neg _ h3]; omega
    · exact c.2 h3
theorem leftL_bd : ∀ (es : List GL) (m : Int), leftL es m ≤ m ∧ (0 ≤ m → -1 ≤ leftL es m)
  | [], m => ⟨Int.le_refl _, fun h => by simp only [leftL]; omega⟩
  | e :: es, m => by
    rw [leftL]
    split
    · exact ⟨Int.le_refl _, fun h => by omega⟩
    split
    · exact ⟨by omega, fun h => by omega⟩
    rename_i h1 h2
    have b := xz e.attrs (m - 1 - e.state.size)
    have c := leftL_bd es (yF e.attrs (m - 1 - e.state.size))
    refine ⟨by omega, fun h => ?_⟩
    rcases Int.lt_or_le (yF e.attrs (m - 1 - e.state.size)) 0 with h3 | h3
    · rw [y6 _ h3]; omega
    · exact c.2 h3
theorem leftS_bd (s : GSpan) {n : Int} (h : 0 ≤ n) : leftS s n ≤ n - 1 ∧ -(2 * n) - 1 ≤ leftS s n := by
  unfold leftS
  split
  · omega
  rename_i h1
  have a := xz s.attrs (n - 1 - s.state.size - s.name.size - s.note.size)
  generalize yF s.attrs (n - 1 - s.state.size - s.name.size - s.note.size) = m at a ⊢
  have b := leftE_bd s.events m
  have b2 := fun h => leftE_neg s.events (m := m) h
  generalize leftE s.events m = p at b b2 ⊢
  have c := leftL_bd s.links p
  have c2 := fun h => y6 s.links (m := p) h
  generalize leftL s.links p = q at c c2 ⊢
  omega
theorem leftSp_bd : ∀ (es : List GSpan) (m : Int), wB es m ≤ m ∧ (0 ≤ m → -(2 * m) - 1 ≤ wB es m)
  | [], m => ⟨Int.le_refl _, fun h => by simp only [wB]; omega⟩
  | e :: es, m => by
    rw [wB]
    split
    · exact ⟨Int.le_refl _, fun h => by omega⟩
    rename_i h1
    have b := leftS_bd e (n := m) (by omega)
    have c := leftSp_bd es (leftS e m)
    have d := fun h => leftSp_neg es (m := leftS e m) h
    generalize wB es (leftS e m) = q at *
    omega
theorem leftC_bd : ∀ (es : List GScope) (m : Int), leftC es m ≤ m ∧ (0 ≤ m → -(2 * m) - 1 ≤ leftC es m)
  | [], m => ⟨Int.le_refl _, fun h => by simp only [leftC]; omega⟩
  | e :: es, m => by
    rw [leftC]
    split
    · exact ⟨Int.le_refl _, fun h => by omega⟩
    split
    · exact ⟨by omega, fun h => by omega⟩
    rename_i h1 h2
    have b := leftSp_bd e.spans (m - 1 - e.name.size - e.version.size)
    have b2 := fun h => leftSp_neg e.spans (m := m - 1 - e.name.size - e.version.size) h
    generalize wB e.spans (m - 1 - e.name.size - e.version.size) = p at *
    have c := leftC_bd es p
    have d := fun h => leftC_neg es (m := p) h
    generalize leftC es p = q at *
    omega
theorem leftR_le {b : List GRes} {n : Int} (h : ¬ leftR b n < 0) : (wtB b : Int) ≤ n := by have := leftR_wt b (m := n) (by omega); omega
end Go.Proofs
namespace Go.Proofs
open Go Go.Al
set_option maxRecDepth 10000
set_option maxHeartbeats 4000000 in
theorem leftR_c (b : List GRes) (n : Int) (hn : -1000000000000 ≤ n ∧ n ≤ 1000000000) : zj Tryz.prog Γ0 7 [yp b, iv n] [iv (leftR b n)] := by
  refine zb Tryz.func7 rfl Tryz.ntmps7 (by kernel_rfl) rfl fun w0 I0 G0 => ?_
  refine zD <| zB <| g_uG (zi 1002 rfl rfl rfl rfl) rfl <| g_u (zE rfl rfl) <| zF <| zA <| zD <| zD <| zB <| g_u (zE rfl rfl) <| zF <| zA <| zQ ?_
  refine zs (fun j : Nat × Int => [(2, .ptr 1002 0), (1002, .box 24 (.imm (yp b))), (1, .imm (iv j.2)), (5, .imm (iv (j.1 : Int)))]) (fun j => j.1 ≤ b.length ∧ (-1000000000000 ≤ j.2 ∧ j.2 ≤ 1000000000) ∧ ((j.1 : Int) ≤ n - j.2) ∧ leftR b n = leftR (b.drop j.1) j.2) (fun j => b.length - j.1) (⟨0, n⟩) ?_ ⟨rfl, rfl, rfl, rfl, trivial⟩ ?_
  · exact ⟨Nat.zero_le _, hn, by dsimp only; omega, rfl⟩
  · rintro ⟨i, m⟩ ⟨h1, h2, h3, h4⟩; dsimp only at h1 h2 h3 h4
    refine zD <| zD <| zB <| g_u (zC rfl rfl) <| g_u (zG rfl rfl fa24_0 rfl) <| g_u (zH rfl rfl rfl tA22 tS22 rfl rfl) <| g_u (zx rfl rfl Tryz.underlying22) <| g_u (yU rfl rfl rfl) <| g_u (zC rfl rfl) <| zz (t := 14) rfl ?_
    rintro (hb1 | hb1)
    · rw [hb1]
      have hi : i < b.length := by have := of_decide_eq_true hb1; (try simp only [List.length_map] at this); omega
      refine zP rfl rfl (zC rfl rfl) <| zP rfl rfl (s_geI rfl rfl rfl) <| g_u (zX rfl rfl rfl) <| zF <| zA ?_
      refine zN rfl (fun hb2 => ?_) (fun hb2 => ?_)
      · have hs : m ≥ 0 := of_decide_eq_true hb2
        have b1 := xz (nthR b i).attrs (m - 1)
        refine zO <| zA <| zD <| zQ <| zD <| zB <| g_u (zG rfl rfl fa24_0 rfl) <| g_u (zH rfl rfl rfl tA22 tS22 rfl rfl) <| g_u (zC rfl rfl) ?_
        refine g_u (za rfl rfl rfl Tryz.underlying22 tS58 (by omega) (ixR hi)) ?_
        refine g_u (zW rfl rfl tA58 tS58 rfl rfl) <| g_uG (zo 1006 rfl rfl rfl tZ58) rfl <| g_u (zL rfl rfl rfl tS58 rfl rfl) <| zF <| zA <| zD <| zB <| g_u (zG rfl rfl fa58_0 rfl) <| g_u (zH rfl rfl rfl tA46 tS46 rfl rfl) <| g_u (zC rfl rfl) <| g_u (s_sub rfl rfl rfl) ?_
        refine g_u (zT (leftAs_c _ _ ⟨by ((try simp only [qa, qb, qc, ne_eq, beq_iff_eq, qd, beq_eq_false_iff_ne, Bool.not_eq_true', Bool.not_eq_false', gt_iff_lt, ge_iff_le] at *); (repeat simp (disch := omega) only [zZ, zq] at *)); omega, by ((try simp only [qa, qb, qc, ne_eq, beq_iff_eq, qd, beq_eq_false_iff_ne, Bool.not_eq_true', Bool.not_eq_false', gt_iff_lt, ge_iff_le] at *); (repeat simp (disch := omega) only [zZ, zq] at *)); omega⟩) rfl rfl) ?_
        refine g_u (zE rfl rfl) <| zF <| zA <| zD <| zB <| g_u (zE rfl rfl) <| zF <| zA <| zQ ?_
        refine zs (fun j : Nat × Int => [(2, .ptr 1002 0), (1002, .box 24 (.imm (yp b))), (1, .imm (iv j.2)), (5, .imm (iv (i : Int))), (6, .ptr 1006 0), (1006, .box 58 (.imm (nthR b i).av)), (7, .imm (iv (j.1 : Int)))]) (fun j => j.1 ≤ (nthR b i).scopes.length ∧ (-1000000000000 ≤ j.2 ∧ j.2 ≤ 1000000000) ∧ ((j.1 : Int) ≤ (yF (nthR b i).attrs (m - 1)) - j.2) ∧ leftC (nthR b i).scopes (yF (nthR b i).attrs (m - 1)) = leftC ((nthR b i).scopes.drop j.1) j.2) (fun j => (nthR b i).scopes.length - j.1) (⟨0, (yF (nthR b i).attrs (m - 1))⟩) ?_ ⟨rfl, rfl, zV rfl (by rw [zZ (by omega) (by omega)]), rfl, rfl, rfl, rfl, trivial⟩ ?_
        · exact ⟨Nat.zero_le _, ⟨by dsimp only; omega, by dsimp only; omega⟩, by simp, rfl⟩
        · rintro ⟨k, m1⟩ ⟨g1, g2, g3, g4⟩; dsimp only at g1 g2 g3 g4
          refine zD <| zD <| zB <| g_u (zC rfl rfl) <| g_u (zG rfl rfl wJ rfl) <| g_u (zH rfl rfl rfl tA56 tS56 rfl rfl) <| g_u (zx rfl rfl Tryz.underlying56) <| g_u (yU rfl rfl rfl) <| g_u (zC rfl rfl) <| zz (t := 35) rfl ?_
          rintro (hb3 | hb3)
          · rw [hb3]
            have hk : k < (nthR b i).scopes.length := by have := of_decide_eq_true hb3; (try simp only [List.length_map] at this); omega
            refine zP rfl rfl (zC rfl rfl) <| zP rfl rfl (s_geI rfl rfl rfl) <| g_u (zX rfl rfl rfl) <| zF <| zA ?_
            refine zN rfl (fun hb4 => ?_) (fun hb4 => ?_)
            · have hs1 : m1 ≥ 0 := of_decide_eq_true hb4
              refine zO <| zA <| zD <| zQ <| zD <| zD <| zB <| g_u (zG rfl rfl wJ rfl) <| g_u (zH rfl rfl rfl tA56 tS56 rfl rfl) <| g_u (zC rfl rfl) ?_
              refine g_u (za rfl rfl rfl Tryz.underlying56 tS55 (by omega) (ixC hk)) ?_
              refine g_u (zY rfl rfl fa55_0 rfl rfl) <| g_u (zW rfl rfl tA9 tS9 rfl rfl) <| g_u (yd rfl rfl Tryz.underlying9) <| g_u (zC rfl rfl) <| g_u (wl rfl rfl rfl) <| g_u (zC rfl rfl) <| zz (t := 50) rfl ?_
              rintro (hb5 | hb5)
              · rw [hb5]
                have hA : (((nthC (nthR b i).scopes k).name.size : Int) > m1) := of_decide_eq_true hb5
                refine zI rfl rfl rfl <| zI rfl rfl rfl <| zI rfl rfl rfl <| zI rfl rfl rfl <| zI rfl rfl rfl <| zI rfl rfl rfl <| zI rfl rfl rfl <| zI rfl rfl rfl <| zI rfl rfl rfl <| g_u (zX rfl rfl rfl) <| zF <| zA <| zk rfl <| zD <| zB <| g_u (zE rfl rfl) <| zF <| zA <| zJ <| zK <| ze <| zK <| zK <| ze <| ze <| zK <| zK <| ze <| zK ?_
                exact ⟨⟨(rfl : toAV (Al.look _ _) = some _).trans (congrArg some (by (exact congrArg iv (by first | (rw [h4, hfin]; done) | (rw [h4, xg hi (by omega), g4, leftC_out hk (by omega) (.inl hA), wm _ (by decide)]; done) | (rw [h4, xg hi (by omega), g4, leftC_out hk (by omega) (.inr hB), wm _ (by decide)]; done))))), rfl⟩, trivial⟩
              · rw [hb5]
                have hA : ¬ (((nthC (nthR b i).scopes k).name.size : Int) > m1) := of_decide_eq_false hb5
                refine zP rfl rfl (zG rfl rfl wJ rfl) <| zP rfl rfl (zH rfl rfl rfl tA56 tS56 rfl rfl) <| zP rfl rfl (zC rfl rfl) ?_
                refine zP rfl rfl (za rfl rfl rfl Tryz.underlying56 tS55 (by omega) (ixC hk)) ?_
                refine zP rfl rfl (zY rfl rfl fa55_1 rfl rfl) <| zP rfl rfl (zW rfl rfl tA9 tS9 rfl rfl) <| zP rfl rfl (yd rfl rfl Tryz.underlying9) <| zP rfl rfl (zC rfl rfl) <| zP rfl rfl (wl rfl rfl rfl) <| g_u (zg rfl rfl rfl) <| zF <| zA ?_
                refine zN rfl (fun hb6 => ?_) (fun hb6 => ?_)
                · have hB : (((nthC (nthR b i).scopes k).version.size : Int) > m1) := of_decide_eq_true hb6
                  refine zD <| zB <| g_u (zE rfl rfl) <| zF <| zA <| zJ <| zK <| ze <| zK <| zK <| ze <| ze <| zK <| zK <| ze <| zK ?_
                  exact ⟨⟨(rfl : toAV (Al.look _ _) = some _).trans (congrArg some (by (exact congrArg iv (by first | (rw [h4, hfin]; done) | (rw [h4, xg hi (by omega), g4, leftC_out hk (by omega) (.inl hA), wm _ (by decide)]; done) | (rw [h4, xg hi (by omega), g4, leftC_out hk (by omega) (.inr hB), wm _ (by decide)]; done))))), rfl⟩, trivial⟩
                · have hB : ¬ (((nthC (nthR b i).scopes k).version.size : Int) > m1) := of_decide_eq_false hb6
                  refine zO <| zA <| zD <| yw mixed <| g_u (zC rfl rfl) <| g_u (s_sub rfl rfl rfl) <| g_u (zG rfl rfl wJ rfl) <| g_u (zH rfl rfl rfl tA56 tS56 rfl rfl) <| g_u (zC rfl rfl) ?_
                  refine g_u (za rfl rfl rfl Tryz.underlying56 tS55 (by omega) (ixC hk)) ?_
                  refine g_u (zY rfl rfl fa55_0 rfl rfl) <| g_u (zW rfl rfl tA9 tS9 rfl rfl) <| g_u (yd rfl rfl Tryz.underlying9) <| g_u (s_sub rfl rfl rfl) <| g_u (zG rfl rfl wJ rfl) <| g_u (zH rfl rfl rfl tA56 tS56 rfl rfl) <| g_u (zC rfl rfl) ?_
                  refine g_u (za rfl rfl rfl Tryz.underlying56 tS55 (by omega) (ixC hk)) ?_
                  refine g_u (zY rfl rfl fa55_1 rfl rfl) <| g_u (zW rfl rfl tA9 tS9 rfl rfl) <| g_u (yd rfl rfl Tryz.underlying9) <| g_u (s_sub rfl rfl rfl) <| g_u (zE rfl rfl) ?_
                  refine zF ⟨by kernel_rfl, ?_⟩
                  refine zA <| zD <| zB <| g_u (zE rfl rfl) <| zF <| zA <| zQ ?_
                  refine zs (fun j : Nat × Int => [(2, .ptr 1002 0), (1002, .box 24 (.imm (yp b))), (1, .imm (iv j.2)), (5, .imm (iv (i : Int))), (6, .ptr 1006 0), (1006, .box 58 (.imm (nthR b i).av)), (7, .imm (iv (k : Int))), (8, .imm (iv (j.1 : Int)))]) (fun j => j.1 ≤ (nthC (nthR b i).scopes k).spans.length ∧ (-1000000000000 ≤ j.2 ∧ j.2 ≤ 1000000000) ∧ ((j.1 : Int) ≤ (m1 - 1 - (nthC (nthR b i).scopes k).name.size - (nthC (nthR b i).scopes k).version.size) - j.2) ∧ wB (nthC (nthR b i).scopes k).spans (m1 - 1 - (nthC (nthR b i).scopes k).name.size - (nthC (nthR b i).scopes k).version.size) = wB ((nthC (nthR b i).scopes k).spans.drop j.1) j.2) (fun j => (nthC (nthR b i).scopes k).spans.length - j.1) (⟨0, (m1 - 1 - (nthC (nthR b i).scopes k).name.size - (nthC (nthR b i).scopes k).version.size)⟩) ?_ ⟨rfl, rfl, zV rfl (by (try dsimp only); rw [zZ (n := m1 - 1) (by omega) (by omega), zZ (n := m1 - 1 - (nthC (nthR b i).scopes k).name.size) (by omega) (by omega), zZ (by omega) (by omega)]), rfl, rfl, rfl, rfl, rfl, trivial⟩ ?_
                  · exact ⟨Nat.zero_le _, ⟨by dsimp only; omega, by dsimp only; omega⟩, by simp, rfl⟩
                  · rintro ⟨q, m2⟩ ⟨f1, f2, f3, f4⟩; dsimp only at f1 f2 f3 f4
                    refine zD <| zD <| zB <| g_u (zC rfl rfl) <| g_u (zG rfl rfl wJ rfl) <| g_u (zH rfl rfl rfl tA56 tS56 rfl rfl) <| g_u (zC rfl rfl) ?_
                    refine g_u (za rfl rfl rfl Tryz.underlying56 tS55 (by omega) (ixC hk)) ?_
                    refine g_u (zY rfl rfl fa55_2 rfl rfl) <| g_u (zW rfl rfl tA53 tS53 rfl rfl) <| g_u (zx rfl rfl Tryz.underlying53) <| g_u (yU rfl rfl rfl) <| g_u (zC rfl rfl) <| zz (t := 88) rfl ?_
                    rintro (hb7 | hb7)
                    · rw [hb7]
                      have hq : q < (nthC (nthR b i).scopes k).spans.length := by have := of_decide_eq_true hb7; (try simp only [List.length_map] at this); omega
                      refine zP rfl rfl (zC rfl rfl) <| zP rfl rfl (s_geI rfl rfl rfl) <| g_u (zX rfl rfl rfl) <| zF <| zA ?_
                      refine zN rfl (fun hb8 => ?_) (fun hb8 => ?_)
                      · have hs2 : m2 ≥ 0 := of_decide_eq_true hb8
                        refine zO <| zA <| zD <| zQ <| zB <| g_u (zG rfl rfl wJ rfl) <| g_u (zH rfl rfl rfl tA56 tS56 rfl rfl) <| g_u (zC rfl rfl) ?_
                        refine g_u (za rfl rfl rfl Tryz.underlying56 tS55 (by omega) (ixC hk)) ?_
                        refine g_u (zY rfl rfl fa55_2 rfl rfl) <| g_u (zW rfl rfl tA53 tS53 rfl rfl) <| g_u (zC rfl rfl) ?_
                        refine g_u (za rfl rfl rfl Tryz.underlying53 tS52 (by omega) (ixS hq)) ?_
                        refine g_u (zW rfl rfl tA52 tS52 rfl (by first | exact xp (GSpan.width _) rfl | rfl)) ?_
                        refine g_u (zC rfl rfl) ?_
                        refine g_u (zT (leftS_c _ _ ⟨by omega, by omega⟩) rfl rfl) ?_
                        refine g_u (zE rfl rfl) <| zF <| zM <| zA <| zB <| g_u (zC rfl rfl) <| g_u (yB rfl rfl rfl) <| g_u (zE rfl rfl) <| zF <| zA ?_
                        have bs := leftS_bd (nthS (nthC (nthR b i).scopes k).spans q) (n := m2) (by omega)
                        have ed := leftSp_drop hq (m := m2) (by omega)
                        refine ⟨⟨q + 1, leftS (nthS (nthC (nthR b i).scopes k).spans q) m2⟩, ⟨hq, by dsimp only; omega, by dsimp only; omega, by dsimp only; rw [f4, ed]⟩, ⟨rfl, rfl, rfl, rfl, rfl, rfl, rfl, zV rfl (by rw [zZ (by omega) (by omega)]; rfl), trivial⟩, by dsimp only; omega⟩
                      · have hs2 : ¬ m2 ≥ 0 := of_decide_eq_false hb8
                        have hfin2 : wB (nthC (nthR b i).scopes k).spans (m1 - 1 - (nthC (nthR b i).scopes k).name.size - (nthC (nthR b i).scopes k).version.size) = m2 := by rw [f4]; exact leftSp_neg _ (by omega)
                        refine zv <| zU <| zU <| zp <| zM <| zA <| zB <| g_u (zC rfl rfl) <| g_u (yB rfl rfl rfl) <| g_u (zE rfl rfl) <| zF <| zA ?_
                        have bp := leftSp_bd (nthC (nthR b i).scopes k).spans (m1 - 1 - (nthC (nthR b i).scopes k).name.size - (nthC (nthR b i).scopes k).version.size)
                        have ed := leftC_drop hk (m := m1) (by omega) hA hB
                        refine ⟨⟨k + 1, m2⟩, ⟨hk, by dsimp only; omega, by dsimp only; omega, by dsimp only; rw [g4, ed, hfin2]⟩, ⟨rfl, rfl, rfl, rfl, rfl, rfl, zV rfl (by rw [zZ (by omega) (by omega)]; rfl), trivial⟩, by dsimp only; omega⟩
                    · rw [hb7]
                      have hqn : q = (nthC (nthR b i).scopes k).spans.length := by have := of_decide_eq_false hb7; (try simp only [List.length_map] at this); omega
                      have hfin2 : wB (nthC (nthR b i).scopes k).spans (m1 - 1 - (nthC (nthR b i).scopes k).name.size - (nthC (nthR b i).scopes k).version.size) = m2 := by rw [f4, hqn, List.drop_length]; rfl
                      refine zI rfl rfl rfl <| zI rfl rfl rfl <| g_u (zg rfl rfl rfl) <| zF <| zA <| zd rfl <| zv <| zU <| zU <| zp <| zM <| zA <| zB <| g_u (zC rfl rfl) <| g_u (yB rfl rfl rfl) <| g_u (zE rfl rfl) <| zF <| zA ?_
                      have bp := leftSp_bd (nthC (nthR b i).scopes k).spans (m1 - 1 - (nthC (nthR b i).scopes k).name.size - (nthC (nthR b i).scopes k).version.size)
                      have ed := leftC_drop hk (m := m1) (by omega) hA hB
                      refine ⟨⟨k + 1, m2⟩, ⟨hk, by dsimp only; omega, by dsimp only; omega, by dsimp only; rw [g4, ed, hfin2]⟩, ⟨rfl, rfl, rfl, rfl, rfl, rfl, zV rfl (by rw [zZ (by omega) (by omega)]; rfl), trivial⟩, by dsimp only; omega⟩
            · have hs1 : ¬ m1 ≥ 0 := of_decide_eq_false hb4
              have hfin1 : leftC (nthR b i).scopes (yF (nthR b i).attrs (m - 1)) = m1 := by rw [g4]; exact leftC_neg _ (by omega)
              refine zv <| zU <| zU <| zp <| zM <| zA <| zB <| g_u (zC rfl rfl) <| g_u (yB rfl rfl rfl) <| g_u (zE rfl rfl) <| zF <| zA ?_
              have bc := leftC_bd (nthR b i).scopes (yF (nthR b i).attrs (m - 1))
              have ed := xg hi (m := m) (by omega)
              refine ⟨⟨i + 1, m1⟩, ⟨hi, by dsimp only; omega, by dsimp only; omega, by dsimp only; rw [h4, ed, hfin1]⟩, ⟨rfl, rfl, rfl, zV rfl (by rw [zZ (by omega) (by omega)]; rfl), trivial⟩, by dsimp only; omega⟩
          · rw [hb3]
            have hkn : k = (nthR b i).scopes.length := by have := of_decide_eq_false hb3; (try simp only [List.length_map] at this); omega
            have hfin1 : leftC (nthR b i).scopes (yF (nthR b i).attrs (m - 1)) = m1 := by rw [g4, hkn, List.drop_length]; rfl
            refine zI rfl rfl rfl <| zI rfl rfl rfl <| g_u (zg rfl rfl rfl) <| zF <| zA <| zd rfl <| zv <| zU <| zU <| zp <| zM <| zA <| zB <| g_u (zC rfl rfl) <| g_u (yB rfl rfl rfl) <| g_u (zE rfl rfl) <| zF <| zA ?_
            have bc := leftC_bd (nthR b i).scopes (yF (nthR b i).attrs (m - 1))
            have ed := xg hi (m := m) (by omega)
            refine ⟨⟨i + 1, m1⟩, ⟨hi, by dsimp only; omega, by dsimp only; omega, by dsimp only; rw [h4, ed, hfin1]⟩, ⟨rfl, rfl, rfl, zV rfl (by rw [zZ (by omega) (by omega)]; rfl), trivial⟩, by dsimp only; omega⟩
      · have hs : ¬ m ≥ 0 := of_decide_eq_false hb2
        have hfin : leftR (b.drop i) m = m := wm _ (by omega)
        refine zv <| zU <| zU <| zp <| zA <| zD <| zB <| g_u (zC rfl rfl) <| g_u (zE rfl rfl) <| zF <| zA <| zJ ?_
        exact ⟨⟨(rfl : toAV (Al.look _ _) = some _).trans (congrArg some (by (exact congrArg iv (by first | (rw [h4, hfin]; done) | (rw [h4, xg hi (by omega), g4, leftC_out hk (by omega) (.inl hA), wm _ (by decide)]; done) | (rw [h4, xg hi (by omega), g4, leftC_out hk (by omega) (.inr hB), wm _ (by decide)]; done))))), rfl⟩, trivial⟩
    · rw [hb1]
      have hin : i = b.length := by have := of_decide_eq_false hb1; (try simp only [List.length_map] at this); omega
      have hfin : leftR (b.drop i) m = m := by rw [hin, List.drop_length]; rfl
      refine zI rfl rfl rfl <| zI rfl rfl rfl <| g_u (zg rfl rfl rfl) <| zF <| zA <| zd rfl <| zv <| zU <| zU <| zp <| zA <| zD <| zB <| g_u (zC rfl rfl) <| g_u (zE rfl rfl) <| zF <| zA <| zJ ?_
      exact ⟨⟨(rfl : toAV (Al.look _ _) = some _).trans (congrArg some (by (exact congrArg iv (by first | (rw [h4, hfin]; done) | (rw [h4, xg hi (by omega), g4, leftC_out hk (by omega) (.inl hA), wm _ (by decide)]; done) | (rw [h4, xg hi (by omega), g4, leftC_out hk (by omega) (.inr hB), wm _ (by decide)]; done))))), rfl⟩, trivial⟩
end Go.Proofs
namespace Go.Proofs
open Go Go.Al
set_option maxRecDepth 10000
theorem length_c (c : Int) : zj Tryz.prog Γ0 218 [cv c] [iv (yY c)] := by
  refine zb Tryz.func218 rfl Tryz.ntmps218 (by kernel_rfl) rfl fun w0 I0 G0 => ?_
  refine zD <| zB <| g_u (zE rfl rfl) <| zF <| zA <| zD <| zQ <| zD <| zB <| g_u (zC rfl rfl) <| g_u (yU rfl rfl rfl) <| g_u (zE rfl rfl) <| zF <| zA ?_
  refine zN rfl (fun hb1 => ?_) (fun hb1 => ?_)
  · refine zD ?_
    refine zB <| g_u (zE rfl rfl) <| zF <| zA <| zJ <| ze <| zK ?_
    exact ⟨⟨(rfl : toAV (Al.look _ _) = some _).trans (congrArg some (by (unfold yY; (((try simp only [qa, qb, qc, ne_eq, beq_iff_eq, qd, beq_eq_false_iff_ne, Bool.not_eq_true', Bool.not_eq_false', gt_iff_lt, ge_iff_le] at *); (repeat simp (disch := omega) only [zZ, zq] at *)); (repeat' split); all_goals first | rfl | omega)))), rfl⟩, trivial⟩
  · refine zD ?_
    refine zB <| g_u (zC rfl rfl) <| g_u (yU rfl rfl rfl) <| g_u (zE rfl rfl) <| zF <| zA ?_
    refine zN rfl (fun hb2 => ?_) (fun hb2 => ?_)
    · refine zD ?_
      refine zB <| g_u (zE rfl rfl) <| zF <| zA <| zJ <| ze <| zK ?_
      exact ⟨⟨(rfl : toAV (Al.look _ _) = some _).trans (congrArg some (by (unfold yY; (((try simp only [qa, qb, qc, ne_eq, beq_iff_eq, qd, beq_eq_false_iff_ne, Bool.not_eq_true', Bool.not_eq_false', gt_iff_lt, ge_iff_le] at *); (repeat simp (disch := omega) only [zZ, zq] at *)); (repeat' split); all_goals first | rfl | omega)))), rfl⟩, trivial⟩
    · refine zD ?_
      refine zB <| g_u (zC rfl rfl) <| g_u (yU rfl rfl rfl) <| g_u (zE rfl rfl) <| zF <| zA ?_
      refine zN rfl (fun hb3 => ?_) (fun hb3 => ?_)
      · refine zD ?_
        refine zB <| g_u (zE rfl rfl) <| zF <| zA <| zJ <| ze <| zK ?_
        exact ⟨⟨(rfl : toAV (Al.look _ _) = some _).trans (congrArg some (by (unfold yY; (((try simp only [qa, qb, qc, ne_eq, beq_iff_eq, qd, beq_eq_false_iff_ne, Bool.not_eq_true', Bool.not_eq_false', gt_iff_lt, ge_iff_le] at *); (repeat simp (disch := omega) only [zZ, zq] at *)); (repeat' split); all_goals first | rfl | omega)))), rfl⟩, trivial⟩
      · refine zD ?_
        refine zB <| g_u (zC rfl rfl) <| g_u (yU rfl rfl rfl) <| g_u (zE rfl rfl) <| zF <| zA ?_
        refine zN rfl (fun hb4 => ?_) (fun hb4 => ?_)
        · refine zD ?_
          refine zB <| g_u (zE rfl rfl) <| zF <| zA <| zJ <| ze <| zK ?_
          exact ⟨⟨(rfl : toAV (Al.look _ _) = some _).trans (congrArg some (by (unfold yY; (((try simp only [qa, qb, qc, ne_eq, beq_iff_eq, qd, beq_eq_false_iff_ne, Bool.not_eq_true', Bool.not_eq_false', gt_iff_lt, ge_iff_le] at *); (repeat simp (disch := omega) only [zZ, zq] at *)); (repeat' split); all_goals first | rfl | omega)))), rfl⟩, trivial⟩
        · refine zD ?_
          refine zB <| g_u (zC rfl rfl) <| g_u (yU rfl rfl rfl) <| g_u (zE rfl rfl) <| zF <| zA ?_
          refine zN rfl (fun hb5 => ?_) (fun hb5 => ?_)
          · refine zD ?_
            refine zB <| g_u (zE rfl rfl) <| zF <| zA <| zJ <| ze <| zK ?_
            exact ⟨⟨(rfl : toAV (Al.look _ _) = some _).trans (congrArg some (by (unfold yY; (((try simp only [qa, qb, qc, ne_eq, beq_iff_eq, qd, beq_eq_false_iff_ne, Bool.not_eq_true', Bool.not_eq_false', gt_iff_lt, ge_iff_le] at *); (repeat simp (disch := omega) only [zZ, zq] at *)); (repeat' split); all_goals first | rfl | omega)))), rfl⟩, trivial⟩
          · refine zO ?_
            refine zM <| zA <| zD <| zB <| g_u (zE rfl rfl) <| zF <| zA <| zJ ?_
            exact ⟨⟨(rfl : toAV (Al.look _ _) = some _).trans (congrArg some (by (unfold yY; (((try simp only [qa, qb, qc, ne_eq, beq_iff_eq, qd, beq_eq_false_iff_ne, Bool.not_eq_true', Bool.not_eq_false', gt_iff_lt, ge_iff_le] at *); (repeat simp (disch := omega) only [zZ, zq] at *)); (repeat' split); all_goals first | rfl | omega)))), rfl⟩, trivial⟩
theorem least_c (k : Int) : zj Tryz.prog Γ0 219 [iv k] [rv (leastM k)] := by
  refine zb Tryz.func219 rfl Tryz.ntmps219 (by kernel_rfl) rfl fun w0 I0 G0 => ?_
  refine zD <| zB <| g_u (zE rfl rfl) <| zF <| zA <| zD <| zD <| zB <| g_u (zC rfl rfl) <| zF <| zA <| zQ <| zD <| zB <| g_u (yn rfl rfl rfl) <| g_u (zE rfl rfl) <| zF <| zA ?_
  refine zN rfl (fun hb1 => ?_) (fun hb1 => ?_)
  · refine zD ?_
    refine zB <| g_u (zE rfl rfl) <| zF <| zA <| zJ <| ze <| zK ?_
    exact ⟨⟨(rfl : toAV (Al.look _ _) = some _).trans (congrArg some (by (unfold leastM; (((try simp only [qa, qb, qc, ne_eq, beq_iff_eq, qd, beq_eq_false_iff_ne, Bool.not_eq_true', Bool.not_eq_false', gt_iff_lt, ge_iff_le] at *); (repeat simp (disch := omega) only [zZ, zq] at *)); (repeat' split); all_goals first | rfl | omega)))), rfl⟩, trivial⟩
  · refine zD ?_
    refine zB <| g_u (yn rfl rfl rfl) <| g_u (zE rfl rfl) <| zF <| zA ?_
    refine zN rfl (fun hb2 => ?_) (fun hb2 => ?_)
    · refine zD ?_
      refine zB <| g_u (zE rfl rfl) <| zF <| zA <| zJ <| ze <| zK ?_
      exact ⟨⟨(rfl : toAV (Al.look _ _) = some _).trans (congrArg some (by (unfold leastM; (((try simp only [qa, qb, qc, ne_eq, beq_iff_eq, qd, beq_eq_false_iff_ne, Bool.not_eq_true', Bool.not_eq_false', gt_iff_lt, ge_iff_le] at *); (repeat simp (disch := omega) only [zZ, zq] at *)); (repeat' split); all_goals first | rfl | omega)))), rfl⟩, trivial⟩
    · refine zD ?_
      refine zB <| g_u (yn rfl rfl rfl) <| g_u (zE rfl rfl) <| zF <| zA ?_
      refine zN rfl (fun hb3 => ?_) (fun hb3 => ?_)
      · refine zD ?_
        refine zB <| g_u (zE rfl rfl) <| zF <| zA <| zJ <| ze <| zK ?_
        exact ⟨⟨(rfl : toAV (Al.look _ _) = some _).trans (congrArg some (by (unfold leastM; (((try simp only [qa, qb, qc, ne_eq, beq_iff_eq, qd, beq_eq_false_iff_ne, Bool.not_eq_true', Bool.not_eq_false', gt_iff_lt, ge_iff_le] at *); (repeat simp (disch := omega) only [zZ, zq] at *)); (repeat' split); all_goals first | rfl | omega)))), rfl⟩, trivial⟩
      · refine zO ?_
        refine zM <| zA <| zD <| zB <| g_u (zE rfl rfl) <| zF <| zA <| zJ ?_
        exact ⟨⟨(rfl : toAV (Al.look _ _) = some _).trans (congrArg some (by (unfold leastM; (((try simp only [qa, qb, qc, ne_eq, beq_iff_eq, qd, beq_eq_false_iff_ne, Bool.not_eq_true', Bool.not_eq_false', gt_iff_lt, ge_iff_le] at *); (repeat simp (disch := omega) only [zZ, zq] at *)); (repeat' split); all_goals first | rfl | omega)))), rfl⟩, trivial⟩
theorem is_c (r : Int) : zj Tryz.prog Γ0 220 [rv r] [bv (isM r)] := by
  refine zb Tryz.func220 rfl Tryz.ntmps220 (by kernel_rfl) rfl fun w0 I0 G0 => ?_
  refine zD <| zB <| g_u (zE rfl rfl) <| zF <| zA <| zD <| zB <| g_u (zC rfl rfl) <| g_u (s_geI rfl rfl rfl) <| g_u (zC rfl rfl) <| zz (t := 5) rfl ?_
  rintro (hb1 | hb1)
  · rw [hb1]
    refine zP rfl rfl (zC rfl rfl) <| zP rfl rfl (yU rfl rfl rfl) <| g_u (zX rfl rfl rfl) <| g_u (zC rfl rfl) <| zz (t := 9) rfl ?_
    rintro (hb2 | hb2)
    · rw [hb2]
      refine zI rfl rfl rfl <| zI rfl rfl rfl <| zI rfl rfl rfl <| g_skip' rfl rfl rfl <| g_skip' rfl rfl rfl <| zI rfl rfl rfl <| g_u (zX rfl rfl rfl) <| g_u (zE rfl rfl) <| zF <| zA <| zJ ?_
      exact ⟨⟨(rfl : toAV (Al.look _ _) = some _).trans (congrArg some (by (unfold isM; ((try simp only [qa, qb, qc, ne_eq, beq_iff_eq, qd, beq_eq_false_iff_ne, Bool.not_eq_true', Bool.not_eq_false', gt_iff_lt, ge_iff_le] at *); (repeat simp (disch := omega) only [zZ, zq] at *)); refine congrArg bv ?_; first | exact (decide_eq_true (by omega)).symm | exact (decide_eq_false (by omega)).symm | exact decide_eq_decide.2 (by omega)))), rfl⟩, trivial⟩
    · rw [hb2]
      refine zP rfl rfl (zC rfl rfl) <| zP rfl rfl (s_geI rfl rfl rfl) <| zP rfl rfl (zC rfl rfl) <| zz (t := 12) rfl ?_
      rintro (hb3 | hb3)
      · rw [hb3]
        refine zP rfl rfl (zC rfl rfl) <| zP rfl rfl (yU rfl rfl rfl) <| zP rfl rfl (zX rfl rfl rfl) <| g_u (zg rfl rfl rfl) <| g_u (zE rfl rfl) <| zF <| zA <| zJ ?_
        exact ⟨⟨(rfl : toAV (Al.look _ _) = some _).trans (congrArg some (by (unfold isM; ((try simp only [qa, qb, qc, ne_eq, beq_iff_eq, qd, beq_eq_false_iff_ne, Bool.not_eq_true', Bool.not_eq_false', gt_iff_lt, ge_iff_le] at *); (repeat simp (disch := omega) only [zZ, zq] at *)); refine congrArg bv ?_; first | exact (decide_eq_true (by omega)).symm | exact (decide_eq_false (by omega)).symm | exact decide_eq_decide.2 (by omega)))), rfl⟩, trivial⟩
      · rw [hb3]
        refine zI rfl rfl rfl <| zI rfl rfl rfl <| zP rfl rfl (zg rfl rfl rfl) <| g_u (zg rfl rfl rfl) <| g_u (zE rfl rfl) <| zF <| zA <| zJ ?_
        exact ⟨⟨(rfl : toAV (Al.look _ _) = some _).trans (congrArg some (by (unfold isM; ((try simp only [qa, qb, qc, ne_eq, beq_iff_eq, qd, beq_eq_false_iff_ne, Bool.not_eq_true', Bool.not_eq_false', gt_iff_lt, ge_iff_le] at *); (repeat simp (disch := omega) only [zZ, zq] at *)); refine congrArg bv ?_; first | exact (decide_eq_true (by omega)).symm | exact (decide_eq_false (by omega)).symm | exact decide_eq_decide.2 (by omega)))), rfl⟩, trivial⟩
  · rw [hb1]
    refine zI rfl rfl rfl <| zI rfl rfl rfl <| g_u (zg rfl rfl rfl) <| g_u (zC rfl rfl) <| zP rfl rfl (zC rfl rfl) <| zP rfl rfl (s_geI rfl rfl rfl) <| zP rfl rfl (zC rfl rfl) <| zz (t := 12) rfl ?_
    rintro (hb4 | hb4)
    · rw [hb4]
      refine zP rfl rfl (zC rfl rfl) <| zP rfl rfl (yU rfl rfl rfl) <| zP rfl rfl (zX rfl rfl rfl) <| g_u (zg rfl rfl rfl) <| g_u (zE rfl rfl) <| zF <| zA <| zJ ?_
      exact ⟨⟨(rfl : toAV (Al.look _ _) = some _).trans (congrArg some (by (unfold isM; ((try simp only [qa, qb, qc, ne_eq, beq_iff_eq, qd, beq_eq_false_iff_ne, Bool.not_eq_true', Bool.not_eq_false', gt_iff_lt, ge_iff_le] at *); (repeat simp (disch := omega) only [zZ, zq] at *)); refine congrArg bv ?_; first | exact (decide_eq_true (by omega)).symm | exact (decide_eq_false (by omega)).symm | exact decide_eq_decide.2 (by omega)))), rfl⟩, trivial⟩
    · rw [hb4]
      refine zI rfl rfl rfl <| zI rfl rfl rfl <| zP rfl rfl (zg rfl rfl rfl) <| g_u (zg rfl rfl rfl) <| g_u (zE rfl rfl) <| zF <| zA <| zJ ?_
      exact ⟨⟨(rfl : toAV (Al.look _ _) = some _).trans (congrArg some (by (unfold isM; ((try simp only [qa, qb, qc, ne_eq, beq_iff_eq, qd, beq_eq_false_iff_ne, Bool.not_eq_true', Bool.not_eq_false', gt_iff_lt, ge_iff_le] at *); (repeat simp (disch := omega) only [zZ, zq] at *)); refine congrArg bv ?_; first | exact (decide_eq_true (by omega)).symm | exact (decide_eq_false (by omega)).symm | exact decide_eq_decide.2 (by omega)))), rfl⟩, trivial⟩
theorem rune_c (s : ByteArray) (p : Int) (hs : s.size < 9223372036854775808) : zj Tryz.prog Γ0 210 [sv s, iv p] [rv (vE s p).1, iv (vE s p).2] := by
  have hk := lengthM_range (bAt s p)
  refine zb Tryz.func210 rfl Tryz.ntmps210 (by kernel_rfl) rfl fun w0 I0 G0 => ?_
  refine zD <| zB <| g_u (zE rfl rfl) <| g_u (zE rfl rfl) <| zF <| zA <| zD <| zD <| zB <| g_u (zC rfl rfl) <| g_u (yU rfl rfl rfl) <| g_u (zC rfl rfl) <| zz (t := 11) rfl ?_
  rintro (hb1 | hb1)
  · rw [hb1]
    refine zI rfl rfl rfl <| zI rfl rfl rfl <| zI rfl rfl rfl <| zI rfl rfl rfl <| g_u (zX rfl rfl rfl) <| zF <| zA <| zk rfl <| zD <| zB <| g_u (zE rfl rfl) <| g_u (zE rfl rfl) <| zF <| zA <| zJ <| zK ?_
    exact ⟨⟨(rfl : toAV (Al.look _ _) = some _).trans (congrArg some (by (unfold vE; ((try simp only [qa, qb, qc, ne_eq, beq_iff_eq, qd, beq_eq_false_iff_ne, Bool.not_eq_true', Bool.not_eq_false', gt_iff_lt, ge_iff_le] at *); (repeat simp (disch := omega) only [zZ, zq] at *)); first | (rw [if_pos (by omega)]; first | done | rfl) | (rw [if_neg (by omega), if_pos (by omega)]; first | done | rfl) | (rw [if_neg (by omega), if_neg (by omega), if_pos (by omega)]; first | done | rfl)))), rfl⟩, ⟨(rfl : toAV (Al.look _ _) = some _).trans (congrArg some (by (unfold vE; ((try simp only [qa, qb, qc, ne_eq, beq_iff_eq, qd, beq_eq_false_iff_ne, Bool.not_eq_true', Bool.not_eq_false', gt_iff_lt, ge_iff_le] at *); (repeat simp (disch := omega) only [zZ, zq] at *)); first | (rw [if_pos (by omega)]; first | done | rfl) | (rw [if_neg (by omega), if_pos (by omega)]; first | done | rfl) | (rw [if_neg (by omega), if_neg (by omega), if_pos (by omega)]; first | done | rfl)))), rfl⟩, trivial⟩
  · rw [hb1]
    refine zP rfl rfl (zC rfl rfl) <| zP rfl rfl (zC rfl rfl) <| zP rfl rfl (yd rfl rfl Tryz.underlying9) <| zP rfl rfl (s_geI rfl rfl rfl) <| g_u (zg rfl rfl rfl) <| zF <| zA ?_
    refine zN rfl (fun hb2 => ?_) (fun hb2 => ?_)
    · refine zD ?_
      refine zB <| g_u (zE rfl rfl) <| g_u (zE rfl rfl) <| zF <| zA <| zJ <| zK ?_
      exact ⟨⟨(rfl : toAV (Al.look _ _) = some _).trans (congrArg some (by (unfold vE; ((try simp only [qa, qb, qc, ne_eq, beq_iff_eq, qd, beq_eq_false_iff_ne, Bool.not_eq_true', Bool.not_eq_false', gt_iff_lt, ge_iff_le] at *); (repeat simp (disch := omega) only [zZ, zq] at *)); first | (rw [if_pos (by omega)]; first | done | rfl) | (rw [if_neg (by omega), if_pos (by omega)]; first | done | rfl) | (rw [if_neg (by omega), if_neg (by omega), if_pos (by omega)]; first | done | rfl)))), rfl⟩, ⟨(rfl : toAV (Al.look _ _) = some _).trans (congrArg some (by (unfold vE; ((try simp only [qa, qb, qc, ne_eq, beq_iff_eq, qd, beq_eq_false_iff_ne, Bool.not_eq_true', Bool.not_eq_false', gt_iff_lt, ge_iff_le] at *); (repeat simp (disch := omega) only [zZ, zq] at *)); first | (rw [if_pos (by omega)]; first | done | rfl) | (rw [if_neg (by omega), if_pos (by omega)]; first | done | rfl) | (rw [if_neg (by omega), if_neg (by omega), if_pos (by omega)]; first | done | rfl)))), rfl⟩, trivial⟩
    · refine zO ?_
      refine zA <| zD <| zB <| g_u (zC rfl rfl) <| g_u (zC rfl rfl) ?_
      refine g_u (si_ix rfl rfl rfl Tryz.underlying9 (by ((try simp only [qa, qb, qc, ne_eq, beq_iff_eq, qd, beq_eq_false_iff_ne, Bool.not_eq_true', Bool.not_eq_false', gt_iff_lt, ge_iff_le] at *); (repeat simp (disch := omega) only [zZ, zq] at *)); omega)) ?_
      refine g_u (zT (length_c _) rfl rfl) <| g_u (zE rfl rfl) <| zF <| zA <| zD <| zD <| zB <| g_u (zC rfl rfl) <| g_u (yn rfl rfl rfl) <| g_u (zC rfl rfl) <| zz (t := 23) rfl ?_
      rintro (hb3 | hb3)
      · rw [hb3]
        refine zI rfl rfl rfl <| zI rfl rfl rfl <| zI rfl rfl rfl <| zI rfl rfl rfl <| zI rfl rfl rfl <| zI rfl rfl rfl <| g_u (zX rfl rfl rfl) <| zF <| zA <| zk rfl <| zD <| zB <| g_u (zE rfl rfl) <| g_u (zE rfl rfl) <| zF <| zA <| zJ <| zK ?_
        exact ⟨⟨(rfl : toAV (Al.look _ _) = some _).trans (congrArg some (by (unfold vE; ((try simp only [qa, qb, qc, ne_eq, beq_iff_eq, qd, beq_eq_false_iff_ne, Bool.not_eq_true', Bool.not_eq_false', gt_iff_lt, ge_iff_le] at *); (repeat simp (disch := omega) only [zZ, zq] at *)); first | (rw [if_pos (by omega)]; first | done | rfl) | (rw [if_neg (by omega), if_pos (by omega)]; first | done | rfl) | (rw [if_neg (by omega), if_neg (by omega), if_pos (by omega)]; first | done | rfl)))), rfl⟩, ⟨(rfl : toAV (Al.look _ _) = some _).trans (congrArg some (by (unfold vE; ((try simp only [qa, qb, qc, ne_eq, beq_iff_eq, qd, beq_eq_false_iff_ne, Bool.not_eq_true', Bool.not_eq_false', gt_iff_lt, ge_iff_le] at *); (repeat simp (disch := omega) only [zZ, zq] at *)); first | (rw [if_pos (by omega)]; first | done | rfl) | (rw [if_neg (by omega), if_pos (by omega)]; first | done | rfl) | (rw [if_neg (by omega), if_neg (by omega), if_pos (by omega)]; first | done | rfl)))), rfl⟩, trivial⟩
      · rw [hb3]
        refine zP rfl rfl (zC rfl rfl) <| zP rfl rfl (zC rfl rfl) <| zP rfl rfl (yd rfl rfl Tryz.underlying9) <| zP rfl rfl (zC rfl rfl) <| zP rfl rfl (s_sub rfl rfl rfl) <| zP rfl rfl (wl rfl rfl rfl) <| g_u (zg rfl rfl rfl) <| zF <| zA ?_
        refine zN rfl (fun hb4 => ?_) (fun hb4 => ?_)
        · refine zD ?_
          refine zB <| g_u (zE rfl rfl) <| g_u (zE rfl rfl) <| zF <| zA <| zJ <| zK ?_
          exact ⟨⟨(rfl : toAV (Al.look _ _) = some _).trans (congrArg some (by (unfold vE; ((try simp only [qa, qb, qc, ne_eq, beq_iff_eq, qd, beq_eq_false_iff_ne, Bool.not_eq_true', Bool.not_eq_false', gt_iff_lt, ge_iff_le] at *); (repeat simp (disch := omega) only [zZ, zq] at *)); first | (rw [if_pos (by omega)]; first | done | rfl) | (rw [if_neg (by omega), if_pos (by omega)]; first | done | rfl) | (rw [if_neg (by omega), if_neg (by omega), if_pos (by omega)]; first | done | rfl)))), rfl⟩, ⟨(rfl : toAV (Al.look _ _) = some _).trans (congrArg some (by (unfold vE; ((try simp only [qa, qb, qc, ne_eq, beq_iff_eq, qd, beq_eq_false_iff_ne, Bool.not_eq_true', Bool.not_eq_false', gt_iff_lt, ge_iff_le] at *); (repeat simp (disch := omega) only [zZ, zq] at *)); first | (rw [if_pos (by omega)]; first | done | rfl) | (rw [if_neg (by omega), if_pos (by omega)]; first | done | rfl) | (rw [if_neg (by omega), if_neg (by omega), if_pos (by omega)]; first | done | rfl)))), rfl⟩, trivial⟩
        · refine zO ?_
          refine zA <| zD <| zD <| zB <| g_u (zC rfl rfl) <| g_u (yn rfl rfl rfl) <| zF <| zA ?_
          refine zN rfl (fun hb5 => ?_) (fun hb5 => ?_)
          · refine zD ?_
            refine zB <| g_u (zC rfl rfl) <| g_u (zC rfl rfl) ?_
            refine g_u (si_ix rfl rfl rfl Tryz.underlying9 (by ((try simp only [qa, qb, qc, ne_eq, beq_iff_eq, qd, beq_eq_false_iff_ne, Bool.not_eq_true', Bool.not_eq_false', gt_iff_lt, ge_iff_le] at *); (repeat simp (disch := omega) only [zZ, zq] at *)); omega)) ?_
            refine g_u (s_cvII rfl rfl Tryz.underlying5 Tryz.underlying21) <| g_u (zE rfl rfl) <| g_u (zE rfl rfl) <| zF <| zA <| zJ <| zK ?_
            exact ⟨⟨(rfl : toAV (Al.look _ _) = some _).trans (congrArg some (by (unfold vE; ((try simp only [qa, qb, qc, ne_eq, beq_iff_eq, qd, beq_eq_false_iff_ne, Bool.not_eq_true', Bool.not_eq_false', gt_iff_lt, ge_iff_le] at *); (repeat simp (disch := omega) only [zZ, zq] at *)); first | (rw [if_pos (by omega)]; first | done | rfl) | (rw [if_neg (by omega), if_pos (by omega)]; first | done | rfl) | (rw [if_neg (by omega), if_neg (by omega), if_pos (by omega)]; first | done | rfl)))), rfl⟩, ⟨(rfl : toAV (Al.look _ _) = some _).trans (congrArg some (by (unfold vE; ((try simp only [qa, qb, qc, ne_eq, beq_iff_eq, qd, beq_eq_false_iff_ne, Bool.not_eq_true', Bool.not_eq_false', gt_iff_lt, ge_iff_le] at *); (repeat simp (disch := omega) only [zZ, zq] at *)); first | (rw [if_pos (by omega)]; first | done | rfl) | (rw [if_neg (by omega), if_pos (by omega)]; first | done | rfl) | (rw [if_neg (by omega), if_neg (by omega), if_pos (by omega)]; first | done | rfl)))), rfl⟩, trivial⟩
          · refine zO ?_
            refine zA <| zD <| yw mixed <| g_u (zC rfl rfl) <| g_u (zC rfl rfl) ?_
            refine g_u (si_ix rfl rfl rfl Tryz.underlying9 (by ((try simp only [qa, qb, qc, ne_eq, beq_iff_eq, qd, beq_eq_false_iff_ne, Bool.not_eq_true', Bool.not_eq_false', gt_iff_lt, ge_iff_le] at *); (repeat simp (disch := omega) only [zZ, zq] at *)); omega)) ?_
            refine g_u (s_cvII rfl rfl Tryz.underlying5 Tryz.underlying21) <| g_u (zC rfl rfl) ?_
            refine g_u (s_shr rfl rfl rfl (by first | decide | omega | (((try simp only [qa, qb, qc, ne_eq, beq_iff_eq, qd, beq_eq_false_iff_ne, Bool.not_eq_true', Bool.not_eq_false', gt_iff_lt, ge_iff_le] at *); (repeat simp (disch := omega) only [zZ, zq] at *)); omega))) ?_
            refine g_u (s_and rfl rfl rfl) <| g_u (zE rfl rfl) ?_
            refine zF ⟨by kernel_rfl, ?_⟩
            refine zA <| zD <| zD <| zB <| g_u (zE rfl rfl) <| zF <| zA <| zQ ?_
            refine zs (fun j : Nat × Int × Int => [(0, .imm (sv s)), (1, .imm (iv p)), (4, .imm (rv j.2.2)), (6, .imm (iv (yY (bAt s p)))), (7, .imm (iv j.2.1))]) (fun j => 1 ≤ j.2.1 ∧ j.2.1 + j.1 = yY (bAt s p) ∧ wA s p j.1 j.2.1 j.2.2 = wA s p (yY (bAt s p) - 1).toNat 1 (r0M (bAt s p) (yY (bAt s p)))) (fun j => j.1) (⟨(yY (bAt s p) - 1).toNat, 1, r0M (bAt s p) (yY (bAt s p))⟩) ?_ ⟨rfl, rfl, rfl, rfl, rfl, trivial⟩ ?_
            · exact ⟨Int.le_refl 1, by ((try simp only [qa, qb, qc, ne_eq, beq_iff_eq, qd, beq_eq_false_iff_ne, Bool.not_eq_true', Bool.not_eq_false', gt_iff_lt, ge_iff_le] at *); (repeat simp (disch := omega) only [zZ, zq] at *)); omega, rfl⟩
            · rintro ⟨n, i, r⟩ ⟨h1, h2, h3⟩; dsimp only at h1 h2 h3
              refine zD <| zD <| zB <| g_u (zC rfl rfl) <| g_u (zC rfl rfl) <| g_u (yU rfl rfl rfl) <| zF <| zA ?_
              refine zN rfl (fun hb6 => ?_) (fun hb6 => ?_)
              · refine zO ?_
                refine zA <| zD <| zQ <| zD <| zB <| g_u (zC rfl rfl) <| g_u (zC rfl rfl) <| g_u (zC rfl rfl) <| g_u (yB rfl rfl rfl) ?_
                refine g_u (si_ix rfl rfl rfl Tryz.underlying9 (by ((try simp only [qa, qb, qc, ne_eq, beq_iff_eq, qd, beq_eq_false_iff_ne, Bool.not_eq_true', Bool.not_eq_false', gt_iff_lt, ge_iff_le] at *); (repeat simp (disch := omega) only [zZ, zq] at *)); omega)) ?_
                refine g_u (zE rfl rfl) <| zF <| zA <| zD <| zD <| zB <| g_u (zC rfl rfl) <| g_u (s_and rfl rfl rfl) <| g_u (xG rfl rfl rfl) <| zF <| zA ?_
                refine zN rfl (fun hb7 => ?_) (fun hb7 => ?_)
                · refine zD ?_
                  refine zB <| g_u (zE rfl rfl) <| g_u (zE rfl rfl) <| zF <| zA <| zJ <| zK <| ze <| zK <| zK <| ze <| zK ?_
                  have e1 : IntKind.i64.wrap (p + i) = p + i := by ((try simp only [qa, qb, qc, ne_eq, beq_iff_eq, qd, beq_eq_false_iff_ne, Bool.not_eq_true', Bool.not_eq_false', gt_iff_lt, ge_iff_le] at *); (repeat simp (disch := omega) only [zZ, zq] at *))
                  obtain ⟨m, rfl⟩ : ∃ m, n = m + 1 := ⟨n - 1, by ((try simp only [qa, qb, qc, ne_eq, beq_iff_eq, qd, beq_eq_false_iff_ne, Bool.not_eq_true', Bool.not_eq_false', gt_iff_lt, ge_iff_le] at *); (repeat simp (disch := omega) only [zZ, zq] at *)); omega⟩
                  rw [e1] at hb7
                  change badM (bAt s (p + i)) = true at hb7
                  rw [wA, if_pos hb7] at h3
                  have E : vE s p = (0, 0) := by
                    unfold vE; ((try simp only [qa, qb, qc, ne_eq, beq_iff_eq, qd, beq_eq_false_iff_ne, Bool.not_eq_true', Bool.not_eq_false', gt_iff_lt, ge_iff_le] at *); (repeat simp (disch := omega) only [zZ, zq] at *)); rw [if_neg (by omega), if_neg (by omega), if_neg (by omega), ← h3]
                  exact ⟨⟨(rfl : toAV (Al.look _ _) = some _).trans (congrArg some (by rw [E])), rfl⟩, ⟨(rfl : toAV (Al.look _ _) = some _).trans (congrArg some (by rw [E])), rfl⟩, trivial⟩
                · refine zO ?_
                  refine zA <| zB <| g_u (zC rfl rfl) ?_
                  refine g_u (s_shl rfl rfl rfl (by first | decide | omega | (((try simp only [qa, qb, qc, ne_eq, beq_iff_eq, qd, beq_eq_false_iff_ne, Bool.not_eq_true', Bool.not_eq_false', gt_iff_lt, ge_iff_le] at *); (repeat simp (disch := omega) only [zZ, zq] at *)); omega))) ?_
                  refine g_u (zC rfl rfl) <| g_u (s_and rfl rfl rfl) <| g_u (s_cvII rfl rfl Tryz.underlying5 Tryz.underlying21) <| g_u (s_or rfl rfl rfl) <| g_u (zE rfl rfl) <| zF <| zM <| zA <| zB <| g_u (zC rfl rfl) <| g_u (yB rfl rfl rfl) <| g_u (zE rfl rfl) <| zF <| zA ?_
                  have e1 : IntKind.i64.wrap (p + i) = p + i := by ((try simp only [qa, qb, qc, ne_eq, beq_iff_eq, qd, beq_eq_false_iff_ne, Bool.not_eq_true', Bool.not_eq_false', gt_iff_lt, ge_iff_le] at *); (repeat simp (disch := omega) only [zZ, zq] at *))
                  have e2 : IntKind.i64.wrap (i + 1) = i + 1 := by ((try simp only [qa, qb, qc, ne_eq, beq_iff_eq, qd, beq_eq_false_iff_ne, Bool.not_eq_true', Bool.not_eq_false', gt_iff_lt, ge_iff_le] at *); (repeat simp (disch := omega) only [zZ, zq] at *))
                  obtain ⟨m, rfl⟩ : ∃ m, n = m + 1 := ⟨n - 1, by ((try simp only [qa, qb, qc, ne_eq, beq_iff_eq, qd, beq_eq_false_iff_ne, Bool.not_eq_true', Bool.not_eq_false', gt_iff_lt, ge_iff_le] at *); (repeat simp (disch := omega) only [zZ, zq] at *)); omega⟩
                  rw [e1] at hb7
                  change badM (bAt s (p + i)) = false at hb7
                  rw [wA, if_neg (by rw [hb7]; decide)] at h3
                  refine ⟨⟨m, IntKind.i64.wrap (i + 1), stepM r (bAt s (IntKind.i64.wrap (p + i)))⟩, ⟨?_, ?_, ?_⟩, ⟨rfl, rfl, rfl, rfl, rfl, trivial⟩, Nat.lt_succ_self _⟩
                  · show 1 ≤ IntKind.i64.wrap (i + 1)
                    rw [e2]; omega
                  · show IntKind.i64.wrap (i + 1) + (m : Int) = _
                    rw [e2]; omega
                  · show wA s p m (IntKind.i64.wrap (i + 1)) (stepM r (bAt s (IntKind.i64.wrap (p + i)))) = _
                    rw [e1, e2]; exact h3
              · refine zv ?_
                refine zU <| zU <| zp <| zA <| zD <| zD <| zB <| g_u (zC rfl rfl) <| g_u (zC rfl rfl) <| g_u (zT (least_c _) rfl rfl) <| g_u (yU rfl rfl rfl) <| g_u (zC rfl rfl) <| zz (t := 67) rfl ?_
                rintro (hb8 | hb8)
                · rw [hb8]
                  refine zI rfl rfl rfl <| zI rfl rfl rfl <| zI rfl rfl rfl <| g_u (zX rfl rfl rfl) <| zF <| zA <| zk rfl <| zD <| zB <| g_u (zE rfl rfl) <| g_u (zE rfl rfl) <| zF <| zA <| zJ <| zK ?_
                  obtain rfl : n = 0 := by ((try simp only [qa, qb, qc, ne_eq, beq_iff_eq, qd, beq_eq_false_iff_ne, Bool.not_eq_true', Bool.not_eq_false', gt_iff_lt, ge_iff_le] at *); (repeat simp (disch := omega) only [zZ, zq] at *)); omega
                  change some r = _ at h3
                  have E : vE s p = (0, 0) := by
                    unfold vE; ((try simp only [qa, qb, qc, ne_eq, beq_iff_eq, qd, beq_eq_false_iff_ne, Bool.not_eq_true', Bool.not_eq_false', gt_iff_lt, ge_iff_le] at *); (repeat simp (disch := omega) only [zZ, zq] at *)); rw [if_neg (by omega), if_neg (by omega), if_neg (by omega), ← h3]; dsimp only; rw [if_pos (.inl (by omega))]
                  exact ⟨⟨(rfl : toAV (Al.look _ _) = some _).trans (congrArg some (by rw [E])), rfl⟩, ⟨(rfl : toAV (Al.look _ _) = some _).trans (congrArg some (by rw [E])), rfl⟩, trivial⟩
                · rw [hb8]
                  refine zP rfl rfl (zC rfl rfl) <| zP rfl rfl (zT (is_c _) rfl rfl) <| zP rfl rfl (s_not rfl rfl) <| g_u (zg rfl rfl rfl) <| zF <| zA ?_
                  refine zN rfl (fun hb9 => ?_) (fun hb9 => ?_)
                  · refine zD ?_
                    refine zB <| g_u (zE rfl rfl) <| g_u (zE rfl rfl) <| zF <| zA <| zJ <| zK ?_
                    obtain rfl : n = 0 := by ((try simp only [qa, qb, qc, ne_eq, beq_iff_eq, qd, beq_eq_false_iff_ne, Bool.not_eq_true', Bool.not_eq_false', gt_iff_lt, ge_iff_le] at *); (repeat simp (disch := omega) only [zZ, zq] at *)); omega
                    change some r = _ at h3
                    have E : vE s p = (0, 0) := by
                      unfold vE; ((try simp only [qa, qb, qc, ne_eq, beq_iff_eq, qd, beq_eq_false_iff_ne, Bool.not_eq_true', Bool.not_eq_false', gt_iff_lt, ge_iff_le] at *); (repeat simp (disch := omega) only [zZ, zq] at *)); rw [if_neg (by omega), if_neg (by omega), if_neg (by omega), ← h3]; dsimp only; rw [if_pos (.inr (by first | assumption | simp_all))]
                    exact ⟨⟨(rfl : toAV (Al.look _ _) = some _).trans (congrArg some (by rw [E])), rfl⟩, ⟨(rfl : toAV (Al.look _ _) = some _).trans (congrArg some (by rw [E])), rfl⟩, trivial⟩
                  · refine zO ?_
                    refine zA <| zD <| zB <| g_u (zC rfl rfl) <| g_u (zC rfl rfl) <| g_u (zE rfl rfl) <| g_u (zE rfl rfl) <| zF <| zA <| zJ ?_
                    obtain rfl : n = 0 := by ((try simp only [qa, qb, qc, ne_eq, beq_iff_eq, qd, beq_eq_false_iff_ne, Bool.not_eq_true', Bool.not_eq_false', gt_iff_lt, ge_iff_le] at *); (repeat simp (disch := omega) only [zZ, zq] at *)); omega
                    change some r = _ at h3
                    have E : vE s p = (r, yY (bAt s p)) := by
                      unfold vE; ((try simp only [qa, qb, qc, ne_eq, beq_iff_eq, qd, beq_eq_false_iff_ne, Bool.not_eq_true', Bool.not_eq_false', gt_iff_lt, ge_iff_le] at *); (repeat simp (disch := omega) only [zZ, zq] at *)); rw [if_neg (by omega), if_neg (by omega), if_neg (by omega), ← h3]; dsimp only; rw [if_neg (by simp_all)]
                    exact ⟨⟨(rfl : toAV (Al.look _ _) = some _).trans (congrArg some (by rw [E])), rfl⟩, ⟨(rfl : toAV (Al.look _ _) = some _).trans (congrArg some (by rw [E])), rfl⟩, trivial⟩
attribute [local irreducible] vE rRuneM
theorem check_c (s : ByteArray) (hs : s.size < 9223372036854775808) : zj Tryz.prog Γ0 174 [sv s] [iv (checkM s)] := by
  refine zb Tryz.func174 rfl Tryz.ntmps174 (by kernel_rfl) rfl fun w0 I0 G0 => ?_
  refine zD <| zB <| g_u (zE rfl rfl) <| zF <| zA <| zD <| zD <| zB <| g_u (zE rfl rfl) <| zF <| zA <| zQ ?_
  refine zs (fun j : Nat × Int × Int => [(0, .imm (sv s)), (3, .imm (iv j.2.1))]) (fun j => 0 ≤ j.2.1 ∧ j.2.1 ≤ s.size ∧ 0 ≤ j.2.2 ∧ j.2.2 ≤ j.2.1 ∧ (s.size : Int) < j.2.1 + j.1 ∧ goM (fM s) s.size j.1 j.2.1 j.2.2 = endM s) (fun j => j.1) (⟨s.size + 1, 0, 0⟩) ?_ ⟨rfl, rfl, trivial⟩ ?_
  · refine ⟨Int.le_refl 0, Int.natCast_nonneg _, Int.le_refl 0, Int.le_refl 0, ?_, rfl⟩; dsimp only; omega
  · rintro ⟨m, q, c⟩ ⟨h1, h2, h3, h4, h5, h6⟩; dsimp only at h1 h2 h3 h4 h5 h6; obtain ⟨m, rfl⟩ : ∃ k, m = k + 1 := ⟨m - 1, by omega⟩; have F := dec_fM s q
    refine zD <| zD <| zB <| g_u (zC rfl rfl) <| g_u (zC rfl rfl) <| g_u (yd rfl rfl Tryz.underlying9) <| g_u (yU rfl rfl rfl) <| zF <| zA ?_
    refine zN rfl (fun hb1 => ?_) (fun hb1 => ?_)
    · refine zO ?_
      refine zA <| zQ <| zD <| zB <| g_u (zC rfl rfl) <| g_u (zC rfl rfl) ?_
      refine g_u (s_call2 (rune_c _ _ (by assumption)) rfl rfl) ?_
      refine g_u (s_mv_tup rfl rfl) <| g_u (zh rfl rfl rfl rfl) <| g_u (zh rfl rfl rfl rfl) <| g_u (zE rfl rfl) <| g_u (zE rfl rfl) <| zF <| zA <| zD <| zD <| zB <| g_u (zC rfl rfl) <| g_u (yn rfl rfl rfl) <| zF <| zA ?_
      refine zN rfl (fun hb2 => ?_) (fun hb2 => ?_)
      · refine zD ?_
        refine zB <| g_u (zC rfl rfl) <| g_u (zE rfl rfl) <| zF <| zA <| zJ <| zK <| ze <| zK <| ze <| zK ?_
        change decide (q < (s.size : Int)) = true at hb1
        change (fM s q == 0) = true at hb2
        rw [goM, if_pos (by ((try simp only [qa, qb, qc, ne_eq, beq_iff_eq, qd, beq_eq_false_iff_ne, Bool.not_eq_true', Bool.not_eq_false', gt_iff_lt, ge_iff_le] at *); (repeat simp (disch := omega) only [zZ, zq] at *)); omega), if_pos (by ((try simp only [qa, qb, qc, ne_eq, beq_iff_eq, qd, beq_eq_false_iff_ne, Bool.not_eq_true', Bool.not_eq_false', gt_iff_lt, ge_iff_le] at *); (repeat simp (disch := omega) only [zZ, zq] at *)); exact hb2)] at h6
        exact ⟨⟨(rfl : toAV (Al.look _ _) = some _).trans (congrArg some (by unfold checkM; rw [← h6]; rw [if_pos (by ((try simp only [qa, qb, qc, ne_eq, beq_iff_eq, qd, beq_eq_false_iff_ne, Bool.not_eq_true', Bool.not_eq_false', gt_iff_lt, ge_iff_le] at *); (repeat simp (disch := omega) only [zZ, zq] at *)); omega)])), rfl⟩, trivial⟩
      · refine zO ?_
        refine zA <| zB <| g_u (zC rfl rfl) <| g_u (zC rfl rfl) <| g_u (yB rfl rfl rfl) <| g_u (zE rfl rfl) <| zF <| zM <| zA ?_
        change decide (q < (s.size : Int)) = true at hb1
        have F := F h1 (by ((try simp only [qa, qb, qc, ne_eq, beq_iff_eq, qd, beq_eq_false_iff_ne, Bool.not_eq_true', Bool.not_eq_false', gt_iff_lt, ge_iff_le] at *); (repeat simp (disch := omega) only [zZ, zq] at *)); omega)
        rw [goM, if_pos (by ((try simp only [qa, qb, qc, ne_eq, beq_iff_eq, qd, beq_eq_false_iff_ne, Bool.not_eq_true', Bool.not_eq_false', gt_iff_lt, ge_iff_le] at *); (repeat simp (disch := omega) only [zZ, zq] at *)); omega)] at h6
        change ((fM s q) == 0) = false at hb2
        rw [if_neg (by ((try simp only [qa, qb, qc, ne_eq, beq_iff_eq, qd, beq_eq_false_iff_ne, Bool.not_eq_true', Bool.not_eq_false', gt_iff_lt, ge_iff_le] at *); (repeat simp (disch := omega) only [zZ, zq] at *)); exact hb2)] at h6
        have F : 1 ≤ fM s q ∧ q + fM s q ≤ s.size := by ((try simp only [qa, qb, qc, ne_eq, beq_iff_eq, qd, beq_eq_false_iff_ne, Bool.not_eq_true', Bool.not_eq_false', gt_iff_lt, ge_iff_le] at *); (repeat simp (disch := omega) only [zZ, zq] at *)); omega
        have e1 : IntKind.i64.wrap (q + fM s q) = q + fM s q := by ((try simp only [qa, qb, qc, ne_eq, beq_iff_eq, qd, beq_eq_false_iff_ne, Bool.not_eq_true', Bool.not_eq_false', gt_iff_lt, ge_iff_le] at *); (repeat simp (disch := omega) only [zZ, zq] at *))
        have e2 : IntKind.i64.wrap (c + 1) = c + 1 := by ((try simp only [qa, qb, qc, ne_eq, beq_iff_eq, qd, beq_eq_false_iff_ne, Bool.not_eq_true', Bool.not_eq_false', gt_iff_lt, ge_iff_le] at *); (repeat simp (disch := omega) only [zZ, zq] at *))
        refine ⟨⟨m, IntKind.i64.wrap (q + fM s q), IntKind.i64.wrap (c + 1)⟩, ⟨?_, ?_, ?_, ?_, ?_, ?_⟩, ⟨rfl, rfl, trivial⟩, Nat.lt_succ_self _⟩
        · dsimp only; rw [e1]; omega
        · dsimp only; rw [e1]; omega
        · dsimp only; rw [e2]; omega
        · dsimp only; rw [e1, e2]; omega
        · dsimp only; rw [e1]; omega
        · dsimp only; rw [e1, e2]; exact h6
    · refine zv ?_
      refine zU <| zU <| zp <| zA <| zD <| zB <| g_u (zE rfl rfl) <| zF <| zA <| zJ ?_
      change decide (q < (s.size : Int)) = false at hb1
      rw [goM, if_neg (by ((try simp only [qa, qb, qc, ne_eq, beq_iff_eq, qd, beq_eq_false_iff_ne, Bool.not_eq_true', Bool.not_eq_false', gt_iff_lt, ge_iff_le] at *); (repeat simp (disch := omega) only [zZ, zq] at *)); omega)] at h6
      exact ⟨⟨(rfl : toAV (Al.look _ _) = some _).trans (congrArg some (by unfold checkM; rw [← h6]; rw [if_neg (by ((try simp only [qa, qb, qc, ne_eq, beq_iff_eq, qd, beq_eq_false_iff_ne, Bool.not_eq_true', Bool.not_eq_false', gt_iff_lt, ge_iff_le] at *); (repeat simp (disch := omega) only [zZ, zq] at *)); omega)])), rfl⟩, trivial⟩
attribute [local irreducible] checkM countM cutM rCheckM rCountM rCutM
attribute [local irreducible] bytesM bytesP
end Go.Proofs
namespace Go.Proofs
open Go Go.Al
theorem size0 (k : ByteArray) : k = ⟨#[]⟩ ↔ k.size = 0 := by
  constructor
  · rintro rfl; rfl
  · intro h; refine str_ext ?_; have : k.data.toList.length = 0 := by simpa using h
    rw [List.length_eq_zero_iff.1 this]
theorem check_range (s : ByteArray) : checkM s = -1 ∨ 0 ≤ checkM s := by
  have h := end_spec s
  unfold checkM
  split
  · exact .inr h.2.2.1
  · exact .inl rfl
def prevOf (l : List GA) (i : Nat) : Option ByteArray := if i = 0 then none else some (nthA l (i - 1)).key
theorem entC_drop {l : List GA} {i : Nat} (d : Int) (h : i < l.length) : entC d (prevOf l i) (l.drop i) = orC (keyC (nthA l i).key) (if prevBad (prevOf l i) (nthA l i).key then 12 else orC (xr d (nthA l i).val) (entC d (prevOf l (i + 1)) (l.drop (i + 1)))) := by
  rw [yz (d := a0) h, entC, checkA_eq]; rfl
theorem checkVs_drop {l : List GV} {i : Nat} (d : Int) (h : i < l.length) : xj d (l.drop i) = orC (xr d (nthV l i)) (xj d (l.drop (i + 1))) := by
  rw [yz (d := v0) h, xj]; rfl
theorem prevBad_pos {l : List GA} {i : Nat} (h : i ≠ 0) (k : ByteArray) : prevBad (prevOf l i) k = !(ltB (nthA l (i - 1)).key k) := by unfold prevOf; rw [if_neg h]; rfl
theorem z6 (a b : Int) (h : a = 0) : orC a b = b := by unfold orC; rw [if_neg (by omega)]
theorem yP (a b : Int) (h : a ≠ 0) : orC a b = a := by unfold orC; rw [if_pos h]
theorem xV (a : Int) : orC a 0 = a := by unfold orC; split <;> omega
def z_ (v : GV) : GV := .mk v.kind (if v.kind = 1 ∨ v.kind = 5 then v.text else ⟨#[]⟩) (if v.kind = 2 ∨ v.kind = 3 then v.num else 0) (if v.kind = 4 then v.bits else 0) (if v.kind = 6 then v.list else []) (if v.kind = 7 then v.map else [])
def moreM (v : GV) : Bool := !(v.text.toList == (z_ v).text.toList) || (v.num != (z_ v).num) || (v.bits != (z_ v).bits) || ((v.list.length : Int) != ((z_ v).list.length : Int)) || ((v.map.length : Int) != ((z_ v).map.length : Int))
theorem more_eq (v : GV) : moreM v = !emptyV v := by
  have e1 : (!(v.text.toList == (z_ v).text.toList)) = !(v.kind == 1 || v.kind == 5 || decide (v.text.size = 0)) := by
    congr 1
    rw [xJ]
    by_cases h : v.kind = 1 ∨ v.kind = 5
    · have : (z_ v).text = v.text := by simp [z_, GV.text_mk, h]
      rw [this]
      rcases h with h | h <;> simp [h]
    · have : (z_ v).text = ⟨#[]⟩ := by simp only [z_, GV.text_mk, if_neg h]
      rw [this]
      simp only [not_or] at h
      rw [Bool.eq_iff_iff]; simp [size0, h.1, h.2]
  have e2 : (v.num != (z_ v).num) = !(v.kind == 2 || v.kind == 3 || v.num == 0) := by
    by_cases h : v.kind = 2 ∨ v.kind = 3
    · have : (z_ v).num = v.num := by simp [z_, GV.num_mk, h]
      rw [this]; rcases h with h | h <;> simp [h]
    · have : (z_ v).num = 0 := by simp only [z_, GV.num_mk, if_neg h]
      rw [this]; simp only [not_or] at h
      rw [beq_eq_false_iff_ne.2 h.1, beq_eq_false_iff_ne.2 h.2]; simp [bne]
  have e3 : (v.bits != (z_ v).bits) = !(v.kind == 4 || v.bits == 0) := by
    by_cases h : v.kind = 4
    · have : (z_ v).bits = v.bits := by simp [z_, GV.bits_mk, h]
      rw [this]; simp [h]
    · have : (z_ v).bits = 0 := by simp only [z_, GV.bits_mk, if_neg h]
      rw [this, beq_eq_false_iff_ne.2 h]; simp [bne]
  have e4 : ((v.list.length : Int) != ((z_ v).list.length : Int)) = !(v.kind == 6 || v.list.isEmpty) := by
    by_cases h : v.kind = 6
    · have : (z_ v).list = v.list := by simp [z_, GV.list_mk, h]
      rw [this]; simp [h]
    · have : (z_ v).list = [] := by simp only [z_, GV.list_mk, if_neg h]
      rw [this, Bool.eq_iff_iff]; simp [h]
  have e5 : ((v.map.length : Int) != ((z_ v).map.length : Int)) = !(v.kind == 7 || v.map.isEmpty) := by
    by_cases h : v.kind = 7
    · have : (z_ v).map = v.map := by simp [z_, GV.map_mk, h]
      rw [this]; simp [h]
    · have : (z_ v).map = [] := by simp only [z_, GV.map_mk, if_neg h]
      rw [this, Bool.eq_iff_iff]; simp [h]
  unfold moreM emptyV
  rw [e1, e2, e3, e4, e5]
  simp only [Bool.not_and]
def xx (d : Int) (v : GV) : Int :=
  if v.kind = 1 then (if checkM v.text ≠ -1 then 5 else 0) else if v.kind = 2 then (if v.num ≠ 0 ∧ v.num ≠ 1 then 4 else 0)
  else if v.kind = 6 then xj (d + 1) v.list else if v.kind = 7 then entC (d + 1) none v.map else 0
theorem wF {v : GV} {d : Int} (h7 : ¬ 7 < v.kind) (he : emptyV v = true) (h16 : ¬ (6 ≤ v.kind ∧ 16 ≤ d)) : xr d v = xx d v := by
  rw [yj, if_neg h7, if_neg (by rw [he]; decide), if_neg h16]
  have hl : v.kind ≠ 6 → v.list = [] := fun h => by
    unfold emptyV at he; simp only [Bool.and_eq_true, Bool.or_eq_true, beq_iff_eq, List.isEmpty_iff] at he
    exact he.1.2.resolve_left h
  have hm : v.kind ≠ 7 → v.map = [] := fun h => by
    unfold emptyV at he; simp only [Bool.and_eq_true, Bool.or_eq_true, beq_iff_eq, List.isEmpty_iff] at he
    exact he.2.resolve_left h
  unfold xx
  by_cases h1 : v.kind = 1
  · rw [if_pos h1, hl (by omega), hm (by omega)]
    simp only [h1, true_and, xj, entC, xV]
    split
    · rfl
    · rw [if_neg (by omega)]
  rw [if_neg (fun h => h1 h.1), if_neg h1]
  by_cases h2 : v.kind = 2
  · rw [if_pos h2, hl (by omega), hm (by omega)]
    simp only [h2, true_and, xj, entC, xV]
  rw [if_neg (fun h => h2 h.1), if_neg h2]
  by_cases h6 : v.kind = 6
  · rw [if_pos h6, hm (by omega)]; simp only [entC, xV]
  rw [if_neg h6, hl h6]
  by_cases h8 : v.kind = 7
  · rw [if_pos h8]; simp only [xj]; exact z6 _ _ rfl
  · rw [if_neg h8, hm h8]; rfl
def textsC (l : List GA) : Int := if l.any (fun a => decide (1024 < (textM a.val).size)) then 35 else 0
theorem textsC_drop {l : List GA} {i : Nat} (h : i < l.length) : textsC (l.drop i) = if 1024 < (textM (nthA l i).val).size then 35 else textsC (l.drop (i + 1)) := by
  rw [yz (d := a0) h]
  unfold textsC nthA
  by_cases hc : 1024 < (textM (nth l i a0).val).size
  · simp [hc]
  · simp [hc]
end Go.Proofs
namespace Go.Al
open Go.RowKit
theorem aw_pack {C : Cx} {c : Code} {st : St} {Q : Exit → St → Prop} (g : Nat) {T : TypeId} {X : SV} {y : AV} (hg : look st g = .box T X) (hy : toAV X = some y) (h : AW C c ((g, .box T (.imm y)) :: st) Q) : AW C c st Q := by
  intro a w ⟨G, S⟩
  refine h a w ⟨G, S.os, S.tape, S.output, S.size, S.block, S.sub, S.rel, S.glob, S.new, S.val, S.nts, S.dfs, fun j => ?_, fun j j' b hj h1 h2 => ?_⟩
  · have e := yo (look st) g (.box T (.imm y)) j
    rw [xP] at e
    rw [show ((g, SV.box T (.imm y)) :: st) = [(g, SV.box T (.imm y))] ++ st from rfl, e]
    split
    · rename_i hjk; subst hjk
      have := S.holds j
      rw [hg] at this
      simp only [Holds, BoxS] at this ⊢
      obtain ⟨h1, ⟨cs, fr, hb, hr, hu⟩, h2⟩ := this
      exact ⟨h1, ⟨cs, fr, hb, by simp only [RepS]; exact xe X y _ hy hr, hu⟩, h2⟩
    · exact S.holds j
  · have conv : ∀ j b, zm G j b (look ((g, SV.box T (.imm y)) :: st) j) → zm G j b (look st j) := by
      intro j b hb
      have e := yo (look st) g (.box T (.imm y)) j
      rw [xP] at e
      rw [show ((g, SV.box T (.imm y)) :: st) = [(g, SV.box T (.imm y))] ++ st from rfl, e] at hb
      split at hb
      · rename_i hjk; subst hjk; rw [hg]; simp only [zm] at hb ⊢; exact hb
      · exact hb
    exact S.apart j j' b hj (conv j b h1) (conv j' b h2)
end Go.Al
