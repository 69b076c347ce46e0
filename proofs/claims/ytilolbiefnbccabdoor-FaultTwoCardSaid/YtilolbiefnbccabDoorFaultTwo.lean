/- PROVED HERE: 'truchmanlaw09.FaultTwo' returns true for every input, and its arguments read behind the call as they read before. No condition. -/
import Derived.Test.YtilolbiefnbccabDoorTie
import Derived.Test.YtilolbiefnbccabDoorCards
import Derived.Test.YtilolbiefnbccabDoorP4
import Derived.WalkKit
import Derived.ProofKit
import Derived.OpenShut
import Derived.ShutString
import Derived.Lay
import Derived.SevenTiedAt
import Derived.Handy
import Derived.Lib.LaidTab
import Derived.LaidHandle
set_option linter.unusedVariables false
set_option linter.unusedSimpArgs false
namespace Go.Proofs.YtilolbiefnbccabDoor.FaultTwo
open Go.ChangeShapes Go.WideShapes Go.ChangeAt Go.RowKit Go.Al
theorem own : ownKnob Tryd.prog.godebug = none := by kernel_rfl
theorem et : Tryd.prog.globalNamed "errors.errorType" = some 0 := by kernel_rfl
theorem rt : (Tryd.prog.cutTypes.find? (·.1 == "internal/reflectlite.rtype")).map (·.2) = some 110 := by kernel_rfl
theorem psize : Tryd.prog.types.size = 228 := by kernel_rfl
theorem oneRow : ((List.range 228).filter fun t => Tryd.prog.rowNamed t [101, 114, 114, 111, 114]) = [31] := by kernel_rfl
theorem globH {W : World} (h : handlesMet Tryd.prog [("errors.errorType", Rows.laid_errors_errorType)] W) : Glob [(0, .v (.iface 110 (.agg #[.pointer (some ⟨3, 31, none⟩)])))] W (fun b _ => b < W.heap.size) := by
  obtain ⟨name, u, ty, e1, e2, e3, e4, e5⟩ := h _ (List.mem_singleton.2 rfl)
  have en : name = [101, 114, 114, 111, 114] := (Option.some.inj e1).symm
  subst en
  obtain rfl := Option.some.inj (rt.symm.trans e2)
  have hm : ty ∈ (List.range 228).filter fun t => Tryd.prog.rowNamed t [101, 114, 114, 111, 114] := List.mem_filter.2 ⟨List.mem_range.2 (by rw [← psize]; exact e3), e4⟩
  rw [oneRow] at hm
  obtain rfl := List.mem_singleton.1 hm
  have hh : typeHandle Tryd.prog 31 = .pointer (some ⟨3, 31, none⟩) := by kernel_rfl
  rw [hh] at e5
  exact glob_cell rfl rfl (by simpa using World.var?_cell et e5 0)
noncomputable def laidWorld (os : Os) : World :=
  { World.holding Tryd.prog os ⟨#[], #[], []⟩ with heap := (World.holding Tryd.prog os ⟨#[], #[], []⟩).heap.modify 0 fun
      | .cells _ t frozen => .cells #[(.iface 110 (.agg #[.pointer (some ⟨3, 31, none⟩)]))] t frozen
      | o => o }
theorem glob {W : World} (hL : laidMetH Tryd.prog Rows.faultTwoRow.laid W) : Glob Γ0 W (fun b _ => b < W.heap.size) := globH (show laidMet Tryd.prog [] W ∧ handlesMet Tryd.prog Rows.faultTwoRow.laid W from hL).2
set_option maxRecDepth 100000 in
theorem lifted (os : Os) (started : os.Started) (H : Type) (enc : TypeId × Value → H) :
    ReturnsInHanded {} Tryd.checked os 6 .any (fun w args => (Rows.faultTwoSpec.pre enc Tryd.prog Tryd.f6 [] false w args ∧ laidMetH Tryd.prog Rows.faultTwoRow.laid w) ∧ sizedMet enc Tryd.prog Tryd.f6 (OpenSpec.ofChange Rows.faultTwoSpec) false w args)
      (Rows.faultTwoSpec.post enc Tryd.prog Tryd.f6 false true false false) := by
  refine returnsInHanded_of_change_and (C := Tryd.checked) (X := fun w _ => laidMetH Tryd.prog Rows.faultTwoRow.laid w) (fun _ _ _ hh h => h.of_heap hh) own started (by kernel_rfl) Tryd.func6
    (ChangeSpec.witness_shaped (enc := enc) (C := Tryd.checked) (os := os) (X := fun w _ => laidMetH Tryd.prog Rows.faultTwoRow.laid w) false (laidWorld os) #[.agg #[.int .i64 0, .int .i64 0], .slice none 0 0, .slice none 0 0] 12 rfl
      (World.shaped_of_ZipB (by kernel_rfl) (by kernel_rfl)) (by kernel_rfl) (by kernel_rfl) (by kernel_rfl)
      (laidMetH_of_parts (laidMet_nil _ _) (by kernel_rfl))) ?_
  intro W base args ds gs before hval0 hW _ hsz hL _
  have hval : ∀ (j : Nat) t v, Tryd.f6.params[j]? = some t → args[j]? = some v → Value.okWide Tryd.prog W .any base t v := hval0
  have hW' := hW
  obtain ⟨p, q, hA0, hV, rfl, hfz, hnd⟩ := hW
  have hA : DataW.TrodAll enc Tryd.prog W 0 (fun _ => true) true Tryd.f6.params.toList args.toList ds p := hA0
  rw [Tryd.params6] at hA hval
  have hsz : (DataW.weightsEach Tryd.prog (Tryd.f6.params.toList ++ _) (ds ++ gs)).all (· ≤ reachBytes) = true := hsz
  rw [Tryd.params6] at hsz
  have hA' := hA
  obtain ⟨v0, vs0, d0, ds0, p0, q0, hargs, rfl, rfl, h0, r0⟩ := trodAll_cons hA
  obtain ⟨v1, vs1, d1, ds1, p1, q1, rfl, rfl, rfl, h1, r1⟩ := trodAll_cons r0
  obtain ⟨v2, vs2, d2, ds2, p2, q2, rfl, rfl, rfl, h2, r2⟩ := trodAll_cons r1
  obtain ⟨rfl, rfl, rfl⟩ := trodAll_nil r2
  obtain rfl : args = #[v0, v1, v2] := by cases args; simp_all
  obtain ⟨rfl, rfl⟩ := trodVars_none hV
  obtain ⟨n0, X0, r0, t0⟩ := open_arg kids dtys_ok (T := 42) (by decide) (hval 0 42 v0 rfl rfl) h0
  obtain ⟨a0, rfl, w0⟩ := in_codes t0
  obtain ⟨n1, X1, r1, t1⟩ := open_arg kids dtys_ok (T := 29) (by decide) (hval 1 29 v1 rfl rfl) h1
  obtain ⟨a1, rfl, w1⟩ := in_strs t1
  have z1 := strs_sized Tryd.underlying29 Tryd.underlying9 (by kernel_rfl) r1 h1 (fun n hn => by simpa using List.all_eq_true.1 hsz n (DataW.weights_mem_each (j := 1) rfl rfl n hn))
  obtain ⟨n2, X2, r2, t2⟩ := open_arg kids dtys_ok (T := 29) (by decide) (hval 2 29 v2 rfl rfl) h2
  obtain ⟨a2, rfl, w2⟩ := in_strs t2
  have z2 := strs_sized Tryd.underlying29 Tryd.underlying9 (by kernel_rfl) r2 h2 (fun n hn => by simpa using List.all_eq_true.1 hsz n (DataW.weights_mem_each (j := 2) rfl rfl n hn))
  clear hA0 hval0
  simp only [List.append_nil] at hW'
  have hc := faultTwo_c a0.1 a0.2 a1 a2 w0.1 w0.2 z1 z2
  refine (hc.2 W (fun b _ => b < W.heap.size) _ (fun _ _ h => h) (glob hL) (repVs_cons r0 (repVs_cons r1 (repVs_cons r2 repVs_nil)))).mono ?_
  rintro e W' ⟨v, I', rfl, hb, _, _, _, hres⟩
  have hg := again kids full hb (by intro t ht; revert t; decide +kernel) hA'
  obtain rfl := rep_bool hres
  exact ⟨_, rfl, _, _, _, [], _, [], hW', (trodAll_cons_mk (shut_bool Tryd.underlying4 _) trodAll_mk0), hg, rfl, hb.frame _, fun h => by cases h⟩
theorem band {a b : Bool} (h : a = true) (k : b = true) : (a && b) = true := by rw [h, k]; rfl
set_option maxHeartbeats 8000000 in
theorem facts : joinedFacts Tryd.checked.prog 6 Tryd.f6 Rows.faultTwoSpec Rows.faultTwoRow = true := by
  unfold joinedFacts
  with_reducible repeat' (refine band ?_ ?_)
  all_goals (as_aux_lemma => kernel_rfl)
theorem a1 : Rows.faultTwoRow.wfByText (OpenSpec.ofChange Rows.faultTwoSpec) = true := by kernel_rfl
theorem a2 : Tryd.pinned.checked.prog.mainIs = some (true, "1d42a1380b09607b64c2fc3364a71a9cbc62c6b23eb5b374855caae8cf32a77a".toList) := by kernel_rfl
theorem a3 : true = Tryd.pinned.checked.prog.looks [] := by kernel_rfl
theorem a4 : ([42, 29, 29].all fun u => !Tryd.prog.wantsStandIn u) = true := by kernel_rfl
theorem a5 : Tryd.prog.funcNamed "truchman/truchmanlaw09.FaultTwo" = some 6 := by kernel_rfl
theorem a6 : false = Rows.faultTwoRow.goesBy Tryd.pinned.checked.prog := by kernel_rfl
/-- The row. -/
theorem holds : Rows.FaultTwoSaid :=
  OpenClaim.holds_of_wide 6 Tryd.f6 rfl rfl rfl rfl rfl rfl rfl ⟨rfl, rfl, rfl, rfl, rfl⟩ rfl rfl rfl rfl rfl a5 Tryd.func6 facts
    (of_decide_eq_true (by kernel_rfl)) (by unfold Func.isWrapper; first | (rw [if_pos (by decide +kernel)]; kernel_rfl) | (rw [if_neg (by decide +kernel)]; exact ⟨rfl, rfl⟩))
    (fun os started H enc _ => lifted os started H enc)
/-- The given statement: the tied card. -/
theorem proved : Rows.FaultTwoCardSaid :=
  Claim7.holds_tied_plain_at .later [] [.handle] true (true, "1d42a1380b09607b64c2fc3364a71a9cbc62c6b23eb5b374855caae8cf32a77a") true holds (fun _ h => by cases h) a1 (fun _ h => by cases h) faultTwo_row_tie rfl ⟨rfl, rfl⟩ a2 rfl
    (fun f fn hf hfn => by
      obtain rfl : f = 6 := Option.some.inj (a5.symm.trans hf) |>.symm
      obtain rfl : fn = Tryd.f6 := (Option.some.inj (Tryd.func6.symm.trans hfn)).symm
      exact ⟨a3, fun j t ht => by
        rw [Tryd.params6] at ht
        have hm : t ∈ [42, 29, 29] := by have := Array.mem_of_getElem? ht; simpa using this
        exact (show Tryd.prog.wantsStandIn t = false by simpa using List.all_eq_true.1 a4 t hm)⟩)
    a6
#print axioms proved
end Go.Proofs.YtilolbiefnbccabDoor.FaultTwo
