/- PROVED HERE: 'truchmanlaw30.ValidParts' returns true for every input, and its arguments read behind the call as they read before. No condition. -/
import Derived.Test.YtilolbiefnbccaaGreatDoorTie
import Derived.Test.YtilolbiefnbccaaGreatDoorCards
import Derived.Test.YtilolbiefnbccaaGreatDoorR8
import Derived.WalkKit
import Derived.ProofKit
import Derived.OpenShut
import Derived.ShutString
import Derived.Lay
import Derived.SevenTiedAt
import Derived.Handy
import Derived.Lib.LaidTab
import Derived.LaidHandle
set_option linter.unusedVariables false
set_option linter.unusedSimpArgs false
namespace Go.Proofs.YtilolbiefnbccaaGreatDoor.ValidParts
open Go.ChangeShapes Go.WideShapes Go.ChangeAt Go.RowKit Go.Al
theorem own : ownKnob Tryz.prog.godebug = none := by kernel_rfl
theorem gT : Tryz.prog.globalNamed "truchman/word.highs" = some 2 := by kernel_rfl
theorem gTType : (Tryz.prog.globals[2]?).map (·.type) = some 43 := by kernel_rfl
theorem cellsE : Tryz.prog.cellsOf 5 = 1 := by kernel_rfl
theorem cellsT : Tryz.prog.cellsOf 43 = 8 := by kernel_rfl
theorem globD {W : World} (hL2 : laidMet Tryz.prog [("truchman/word.highs", Rows.laid_truchman_word_highs)] W) : Glob [(2, .arr 8 [56, 48, 40, 32, 24, 16, 8, 0])] W (fun b _ => b < W.heap.size) := by
  have hT : Lib.TabIs Tryz.prog W "truchman/word.highs" .u8 [56, 48, 40, 32, 24, 16, 8, 0] := Lib.tabIs_of_head (rest := []) gT gTType Tryz.underlying43 Tryz.underlying5 cellsE cellsT hL2
  have h := glob_bytes (w := W) (g := 2) (l := [56, 48, 40, 32, 24, 16, 8, 0]) (fun i hi => by
    have := hT.cell gT i hi
    rw [this]
    have key : ∀ j : Fin 8, ([56, 48, 40, 32, 24, 16, 8, 0] : List Int).getD j.val 0 = ((([56, 48, 40, 32, 24, 16, 8, 0] : List UInt8).getD j.val 0).toNat : Int) := by decide
    exact congrArg (fun z => some (Value.int .u8 z)) (key ⟨i, hi⟩)) (by decide)
  exact h
theorem et : Tryz.prog.globalNamed "errors.errorType" = some 0 := by kernel_rfl
theorem rt : (Tryz.prog.cutTypes.find? (·.1 == "internal/reflectlite.rtype")).map (·.2) = some 159 := by kernel_rfl
theorem psize : Tryz.prog.types.size = 302 := by kernel_rfl
theorem oneRow : ((List.range 302).filter fun t => Tryz.prog.rowNamed t [101, 114, 114, 111, 114]) = [28] := by kernel_rfl
theorem globH {W : World} (h : handlesMet Tryz.prog [("errors.errorType", Rows.laid_errors_errorType)] W) : Glob [(0, .v (.iface 159 (.agg #[.pointer (some ⟨3, 28, none⟩)])))] W (fun b _ => b < W.heap.size) := by
  obtain ⟨name, u, ty, e1, e2, e3, e4, e5⟩ := h _ (List.mem_singleton.2 rfl)
  have en : name = [101, 114, 114, 111, 114] := (Option.some.inj e1).symm
  subst en
  obtain rfl := Option.some.inj (rt.symm.trans e2)
  have hm : ty ∈ (List.range 302).filter fun t => Tryz.prog.rowNamed t [101, 114, 114, 111, 114] := List.mem_filter.2 ⟨List.mem_range.2 (by rw [← psize]; exact e3), e4⟩
  rw [oneRow] at hm
  obtain rfl := List.mem_singleton.1 hm
  have hh : typeHandle Tryz.prog 28 = .pointer (some ⟨3, 28, none⟩) := by kernel_rfl
  rw [hh] at e5
  exact glob_cell rfl rfl (by simpa using World.var?_cell et e5 0)
noncomputable def laidWorld (os : Os) : World :=
  { World.laidAll Tryz.prog os [("truchman/word.highs", Rows.laid_truchman_word_highs)] with heap := (World.laidAll Tryz.prog os [("truchman/word.highs", Rows.laid_truchman_word_highs)]).heap.modify 0 fun
      | .cells _ t frozen => .cells #[(.iface 159 (.agg #[.pointer (some ⟨3, 28, none⟩)]))] t frozen
      | o => o }
theorem glob {W : World} (hL : laidMetH Tryz.prog Rows.validPartsRow.laid W) : Glob Γ0 W (fun b _ => b < W.heap.size) := by
  have h' : laidMet Tryz.prog [("truchman/word.highs", Rows.laid_truchman_word_highs)] W ∧ handlesMet Tryz.prog [("errors.errorType", Rows.laid_errors_errorType)] W := hL
  intro p hp
  rcases List.mem_cons.1 hp with rfl | hp
  · exact globD h'.1 _ List.mem_cons_self
  · exact globH h'.2 p hp
set_option maxRecDepth 100000 in
theorem lifted (os : Os) (started : os.Started) (H : Type) (enc : TypeId × Value → H) :
    ReturnsInHanded {} Tryz.checked os 6 .any (fun w args => (Rows.validPartsSpec.pre enc Tryz.prog Tryz.f6 [] false w args ∧ laidMetH Tryz.prog Rows.validPartsRow.laid w) ∧ sizedMet enc Tryz.prog Tryz.f6 (OpenSpec.ofChange Rows.validPartsSpec) false w args)
      (Rows.validPartsSpec.post enc Tryz.prog Tryz.f6 false true false false) := by
  refine returnsInHanded_of_change_and (C := Tryz.checked) (X := fun w _ => laidMetH Tryz.prog Rows.validPartsRow.laid w) (fun _ _ _ hh h => h.of_heap hh) own started (by kernel_rfl) Tryz.func6
    (ChangeSpec.witness_shaped (enc := enc) (C := Tryz.checked) (os := os) (X := fun w _ => laidMetH Tryz.prog Rows.validPartsRow.laid w) false (laidWorld os) #[.agg #[.slice none 0 0], .agg #[.int .i64 0, .int .i64 0, .int .i64 0]] 12 rfl
      (World.shaped_of_ZipB (by kernel_rfl) (by kernel_rfl)) (by kernel_rfl) (by kernel_rfl) (by kernel_rfl)
      (laidMetH_of_parts (laidMet_of_run' 12 (by kernel_rfl) (by kernel_rfl)) (by kernel_rfl))) ?_
  intro W base args ds gs before hval0 hW _ hsz hL _
  have hval : ∀ (j : Nat) t v, Tryz.f6.params[j]? = some t → args[j]? = some v → Value.okWide Tryz.prog W .any base t v := hval0
  have hW' := hW
  obtain ⟨p, q, hA0, hV, rfl, hfz, hnd⟩ := hW
  have hA : DataW.TrodAll enc Tryz.prog W 0 (fun _ => true) true Tryz.f6.params.toList args.toList ds p := hA0
  rw [Tryz.params6] at hA hval
  have hA' := hA
  obtain ⟨v0, vs0, d0, ds0, p0, q0, hargs, rfl, rfl, h0, r0⟩ := trodAll_cons hA
  obtain ⟨v1, vs1, d1, ds1, p1, q1, rfl, rfl, rfl, h1, r1⟩ := trodAll_cons r0
  obtain ⟨rfl, rfl, rfl⟩ := trodAll_nil r1
  obtain rfl : args = #[v0, v1] := by cases args; simp_all
  obtain ⟨rfl, rfl⟩ := trodVars_none hV
  obtain ⟨n0, X0, r0, t0⟩ := open_arg kids dtys_ok (T := 24) (by decide) (hval 0 24 v0 rfl rfl) h0
  obtain ⟨a0, rfl, w0⟩ := in_B t0
  obtain ⟨n1, X1, r1, t1⟩ := open_arg kids dtys_ok (T := 67) (by decide) (hval 1 67 v1 rfl rfl) h1
  obtain ⟨a1, rfl, w1⟩ := in_P t1
  clear hA0 hval0
  simp only [List.append_nil] at hW'
  have hc := validParts_c a0 a1 w0
  refine (hc.2 W (fun b _ => b < W.heap.size) _ (fun _ _ h => h) (glob hL) (repVs_cons r0 (repVs_cons r1 repVs_nil))).mono ?_
  rintro e W' ⟨v, I', rfl, hb, _, _, _, hres⟩
  have hg := again kids full hb (by intro t ht; revert t; decide +kernel) hA'
  obtain rfl := rep_bool hres
  exact ⟨_, rfl, _, _, _, [], _, [], hW', (trodAll_cons_mk (shut_bool Tryz.underlying4 _) trodAll_mk0), hg, rfl, hb.frame _, fun h => by cases h⟩
theorem band {a b : Bool} (h : a = true) (k : b = true) : (a && b) = true := by rw [h, k]; rfl
set_option maxHeartbeats 8000000 in
theorem facts : joinedFacts Tryz.checked.prog 6 Tryz.f6 Rows.validPartsSpec Rows.validPartsRow = true := by
  unfold joinedFacts
  with_reducible repeat' (refine band ?_ ?_)
  all_goals (as_aux_lemma => kernel_rfl)
theorem a1 : Rows.validPartsRow.wfByText (OpenSpec.ofChange Rows.validPartsSpec) = true := by kernel_rfl
theorem a2 : Tryz.pinned.checked.prog.mainIs = some (true, "92fb6087ec2265813916b2d865b9610395688e3c5f64a7b6853e6fd9e659f27c".toList) := by kernel_rfl
theorem a3 : true = Tryz.pinned.checked.prog.looks [] := by kernel_rfl
theorem a4 : ([24, 67].all fun u => !Tryz.prog.wantsStandIn u) = true := by kernel_rfl
theorem a5 : Tryz.prog.funcNamed "truchman/truchmanlaw30.ValidParts" = some 6 := by kernel_rfl
theorem a6 : false = Rows.validPartsRow.goesBy Tryz.pinned.checked.prog := by kernel_rfl
theorem holds : Rows.ValidPartsSaid :=
  OpenClaim.holds_of_wide 6 Tryz.f6 rfl rfl rfl rfl rfl rfl rfl ⟨rfl, rfl, rfl, rfl, rfl⟩ rfl rfl rfl rfl rfl a5 Tryz.func6 facts
    (of_decide_eq_true (by kernel_rfl)) (by unfold Func.isWrapper; first | (rw [if_pos (by decide +kernel)]; kernel_rfl) | (rw [if_neg (by decide +kernel)]; exact ⟨rfl, rfl⟩))
    (fun os started H enc _ => lifted os started H enc)
theorem proved : Rows.ValidPartsCardSaid :=
  Claim7.holds_tied_plain_at .later [] [.data, .handle] true (true, "92fb6087ec2265813916b2d865b9610395688e3c5f64a7b6853e6fd9e659f27c") true holds (fun _ h => by cases h) a1 (fun _ h => by cases h) validParts_row_tie rfl ⟨rfl, rfl⟩ a2 rfl
    (fun f fn hf hfn => by
      obtain rfl : f = 6 := Option.some.inj (a5.symm.trans hf) |>.symm
      obtain rfl : fn = Tryz.f6 := (Option.some.inj (Tryz.func6.symm.trans hfn)).symm
      exact ⟨a3, fun j t ht => by
        rw [Tryz.params6] at ht
        have hm : t ∈ [24, 67] := by have := Array.mem_of_getElem? ht; simpa using this
        exact (show Tryz.prog.wantsStandIn t = false by simpa using List.all_eq_true.1 a4 t hm)⟩)
    a6
#print axioms proved
end Go.Proofs.YtilolbiefnbccaaGreatDoor.ValidParts
