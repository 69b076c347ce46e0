/- PROVED HERE: 'truchmanlaw34.NormalFinds' returns true for every input, and its arguments read behind the call as they read before. No condition. -/
import Derived.Test.YtiolofgnkkhjoaaDoorTie
import Derived.Test.YtiolofgnkkhjoaaDoorCards
import Derived.Test.YtiolofgnkkhjoaaDoorQ5
import Derived.WalkKit
import Derived.ProofKit
import Derived.OpenShut
import Derived.ShutString
import Derived.Lay
import Derived.SevenTiedAt
import Derived.Handy
import Derived.Lib.LaidTab
set_option linter.unusedVariables false
set_option linter.unusedSimpArgs false
namespace Go.Proofs.YtiolofgnkkhjoaaDoor.NormalFinds
open Go.ChangeShapes Go.WideShapes Go.ChangeAt Go.RowKit Go.Al
theorem own : ownKnob Tryd.prog.godebug = none := by kernel_rfl
theorem gT : Tryd.prog.globalNamed "truchman/word.highs" = some 1 := by kernel_rfl
theorem gTType : (Tryd.prog.globals[1]?).map (·.type) = some 27 := by kernel_rfl
theorem cellsE : Tryd.prog.cellsOf 5 = 1 := by kernel_rfl
theorem cellsT : Tryd.prog.cellsOf 27 = 8 := by kernel_rfl
theorem glob {W : World} (hL : laidMetH Tryd.prog Rows.normalFindsRow.laid W) : Glob Γ0 W (fun b _ => b < W.heap.size) := by
  have hL2 : laidMet Tryd.prog Rows.normalFindsRow.laid W := by rw [MakeChecks.laidMetH_plain _ _ _ (by kernel_rfl)] at hL; exact hL
  have hT : Lib.TabIs Tryd.prog W "truchman/word.highs" .u8 [56, 48, 40, 32, 24, 16, 8, 0] := Lib.tabIs_of_head (rest := []) gT gTType Tryd.underlying27 Tryd.underlying5 cellsE cellsT hL2
  have h := glob_bytes (w := W) (g := 1) (l := [56, 48, 40, 32, 24, 16, 8, 0]) (fun i hi => by
    have := hT.cell gT i hi
    rw [this]
    have key : ∀ j : Fin 8, ([56, 48, 40, 32, 24, 16, 8, 0] : List Int).getD j.val 0 = ((([56, 48, 40, 32, 24, 16, 8, 0] : List UInt8).getD j.val 0).toNat : Int) := by decide
    exact congrArg (fun z => some (Value.int .u8 z)) (key ⟨i, hi⟩)) (by decide)
  exact h
set_option maxRecDepth 100000 in
theorem lifted (os : Os) (started : os.Started) (H : Type) (enc : TypeId × Value → H) :
    ReturnsInHanded {} Tryd.checked os 5 .any (fun w args => (Rows.normalFindsSpec.pre enc Tryd.prog Tryd.f5 [] false w args ∧ laidMetH Tryd.prog Rows.normalFindsRow.laid w) ∧ sizedMet enc Tryd.prog Tryd.f5 (OpenSpec.ofChange Rows.normalFindsSpec) false w args)
      (Rows.normalFindsSpec.post enc Tryd.prog Tryd.f5 false true false false) := by
  refine returnsInHanded_of_change_and (C := Tryd.checked) (X := fun w _ => laidMetH Tryd.prog Rows.normalFindsRow.laid w) (fun _ _ _ hh h => h.of_heap hh) own started (by kernel_rfl) Tryd.func5
    (ChangeSpec.witness_shaped (enc := enc) (C := Tryd.checked) (os := os) (X := fun w _ => laidMetH Tryd.prog Rows.normalFindsRow.laid w) false (World.laidAll Tryd.prog os Rows.normalFindsRow.laid) #[.string .empty] 12 (World.laidAll_os _ _ _)
      (World.shaped_of_ZipB (by kernel_rfl) (by kernel_rfl)) (by kernel_rfl) (by kernel_rfl) (by kernel_rfl)
      (by rw [MakeChecks.laidMetH_plain _ _ _ (by kernel_rfl)]; exact laidMet_laidAll _ (by kernel_rfl) (by kernel_rfl))) ?_
  intro W base args ds gs before hval0 hW _ hsz hL _
  have hval : ∀ (j : Nat) t v, Tryd.f5.params[j]? = some t → args[j]? = some v → Value.okWide Tryd.prog W .any base t v := hval0
  have hW' := hW
  obtain ⟨p, q, hA0, hV, rfl, hfz, hnd⟩ := hW
  have hA : DataW.TrodAll enc Tryd.prog W 0 (fun _ => true) true Tryd.f5.params.toList args.toList ds p := hA0
  rw [Tryd.params5] at hA hval
  have hA' := hA
  obtain ⟨v0, vs0, d0, ds0, p0, q0, hargs, rfl, rfl, h0, r0⟩ := trodAll_cons hA
  obtain ⟨rfl, rfl, rfl⟩ := trodAll_nil r0
  obtain rfl : args = #[v0] := by cases args; simp_all
  obtain ⟨rfl, rfl⟩ := trodVars_none hV
  obtain ⟨n0, X0, r0, t0⟩ := open_arg kids dtys_ok (T := 9) (by decide) (hval 0 9 v0 rfl rfl) h0
  obtain ⟨a0, rfl, w0⟩ := AVT.str t0 Tryd.underlying9
  clear hA0 hval0
  simp only [List.append_nil] at hW'
  have hc := normalFinds_c a0
  refine (hc.2 W (fun b _ => b < W.heap.size) _ (fun _ _ h => h) (glob hL) (repVs_cons r0 repVs_nil)).mono ?_
  rintro e W' ⟨v, I', rfl, hb, _, _, _, hres⟩
  have hg := again kids full hb (by intro t ht; revert t; decide +kernel) hA'
  obtain rfl := xL hres
  exact ⟨_, rfl, _, _, _, [], _, [], hW', (trodAll_cons_mk (shut_bool Tryd.underlying4 _) trodAll_mk0), hg, rfl, hb.frame _, fun h => by cases h⟩
theorem band {a b : Bool} (h : a = true) (k : b = true) : (a && b) = true := by rw [h, k]; rfl
set_option maxHeartbeats 8000000 in
theorem facts : joinedFacts Tryd.checked.prog 5 Tryd.f5 Rows.normalFindsSpec Rows.normalFindsRow = true := by
  unfold joinedFacts
  with_reducible repeat' (refine band ?_ ?_)
  all_goals (as_aux_lemma => kernel_rfl)
theorem a1 : Rows.normalFindsRow.wfByText (OpenSpec.ofChange Rows.normalFindsSpec) = true := by kernel_rfl
theorem a2 : Tryd.pinned.checked.prog.mainIs = some (true, "45a304759e2d0aa5288a722728064e4cccb4a262119e6387dde6de775760af29".toList) := by kernel_rfl
theorem a3 : true = Tryd.pinned.checked.prog.looks [] := by kernel_rfl
theorem a4 : ([9].all fun u => !Tryd.prog.wantsStandIn u) = true := by kernel_rfl
theorem a5 : Tryd.prog.funcNamed "truchman/truchmanlaw34.NormalFinds" = some 5 := by kernel_rfl
theorem a6 : false = Rows.normalFindsRow.goesBy Tryd.pinned.checked.prog := by kernel_rfl
theorem holds : Rows.NormalFindsSaid :=
  OpenClaim.holds_of_wide 5 Tryd.f5 rfl rfl rfl rfl rfl rfl rfl ⟨rfl, rfl, rfl, rfl, rfl⟩ rfl rfl rfl rfl rfl a5 Tryd.func5 facts
    (of_decide_eq_true (by kernel_rfl)) (by unfold Func.isWrapper; first | (rw [if_pos (by decide +kernel)]; kernel_rfl) | (rw [if_neg (by decide +kernel)]; exact ⟨rfl, rfl⟩))
    (fun os started H enc _ => lifted os started H enc)
theorem proved : Rows.NormalFindsCardSaid :=
  Claim7.holds_tied_plain_at .later [] [.data] true (true, "45a304759e2d0aa5288a722728064e4cccb4a262119e6387dde6de775760af29") true holds (fun _ h => by cases h) a1 (fun _ h => by cases h) normalFinds_row_tie rfl ⟨rfl, rfl⟩ a2 rfl
    (fun f fn hf hfn => by
      obtain rfl : f = 5 := Option.some.inj (a5.symm.trans hf) |>.symm
      obtain rfl : fn = Tryd.f5 := (Option.some.inj (Tryd.func5.symm.trans hfn)).symm
      exact ⟨a3, fun j t ht => by
        rw [Tryd.params5] at ht
        have hm : t ∈ [9] := by have := Array.mem_of_getElem? ht; simpa using this
        exact (show Tryd.prog.wantsStandIn t = false by simpa using List.all_eq_true.1 a4 t hm)⟩)
    a6
#print axioms proved
end Go.Proofs.YtiolofgnkkhjoaaDoor.NormalFinds
