/- PROVED HERE: 'truchmanlaw34.NormalTwice' returns true for every input, and its arguments read behind the call as they read before. No condition. -/
import Derived.Test.YtiolofgnkkhjoaaGreatDoorTie
import Derived.Test.YtiolofgnkkhjoaaGreatDoorCards
import Derived.Test.YtiolofgnkkhjoaaGreatDoorR8
import Derived.WalkKit
import Derived.ProofKit
import Derived.OpenShut
import Derived.ShutString
import Derived.Lay
import Derived.SevenTiedAt
import Derived.Handy
import Derived.Lib.LaidTab
set_option linter.unusedVariables false
set_option linter.unusedSimpArgs false
namespace Go.Proofs.YtiolofgnkkhjoaaGreatDoor.NormalTwice
open Go.ChangeShapes Go.WideShapes Go.ChangeAt Go.RowKit Go.Al
theorem own : ownKnob Tryz.prog.godebug = none := by kernel_rfl
theorem gT : Tryz.prog.globalNamed "truchman/word.highs" = some 1 := by kernel_rfl
theorem gTType : (Tryz.prog.globals[1]?).map (·.type) = some 55 := by kernel_rfl
theorem cellsE : Tryz.prog.cellsOf 5 = 1 := by kernel_rfl
theorem cellsT : Tryz.prog.cellsOf 55 = 8 := by kernel_rfl
theorem glob {W : World} (hL : laidMetH Tryz.prog Rows.normalTwiceRow.laid W) : Glob Γ0 W (fun b _ => b < W.heap.size) := by
  have hL2 : laidMet Tryz.prog Rows.normalTwiceRow.laid W := by rw [MakeChecks.laidMetH_plain _ _ _ (by kernel_rfl)] at hL; exact hL
  have hT : Lib.TabIs Tryz.prog W "truchman/word.highs" .u8 [56, 48, 40, 32, 24, 16, 8, 0] := Lib.tabIs_of_head (rest := []) gT gTType Tryz.underlying55 Tryz.underlying5 cellsE cellsT hL2
  have h := glob_bytes (w := W) (g := 1) (l := [56, 48, 40, 32, 24, 16, 8, 0]) (fun i hi => by
    have := hT.cell gT i hi
    rw [this]
    have key : ∀ j : Fin 8, ([56, 48, 40, 32, 24, 16, 8, 0] : List Int).getD j.val 0 = ((([56, 48, 40, 32, 24, 16, 8, 0] : List UInt8).getD j.val 0).toNat : Int) := by decide
    exact congrArg (fun z => some (Value.int .u8 z)) (key ⟨i, hi⟩)) (by decide)
  exact h
set_option maxRecDepth 100000 in
theorem lifted (os : Os) (started : os.Started) (H : Type) (enc : TypeId × Value → H) :
    ReturnsInHanded {} Tryz.checked os 5 .any (fun w args => (Rows.normalTwiceSpec.pre enc Tryz.prog Tryz.f5 [] false w args ∧ laidMetH Tryz.prog Rows.normalTwiceRow.laid w) ∧ sizedMet enc Tryz.prog Tryz.f5 (OpenSpec.ofChange Rows.normalTwiceSpec) false w args)
      (Rows.normalTwiceSpec.post enc Tryz.prog Tryz.f5 false true false false) := by
  refine returnsInHanded_of_change_and (C := Tryz.checked) (X := fun w _ => laidMetH Tryz.prog Rows.normalTwiceRow.laid w) (fun _ _ _ hh h => h.of_heap hh) own started (by kernel_rfl) Tryz.func5
    (ChangeSpec.witness_shaped (enc := enc) (C := Tryz.checked) (os := os) (X := fun w _ => laidMetH Tryz.prog Rows.normalTwiceRow.laid w) false (World.laidAll Tryz.prog os Rows.normalTwiceRow.laid) #[.agg #[.slice none 0 0], .slice none 0 0] 12 (World.laidAll_os _ _ _)
      (World.shaped_of_ZipB (by kernel_rfl) (by kernel_rfl)) (by kernel_rfl) (by kernel_rfl) (by kernel_rfl)
      (by rw [MakeChecks.laidMetH_plain _ _ _ (by kernel_rfl)]; exact laidMet_laidAll _ (by kernel_rfl) (by kernel_rfl))) ?_
  intro W base args ds gs before hval0 hW _ hsz hL _
  have hval : ∀ (j : Nat) t v, Tryz.f5.params[j]? = some t → args[j]? = some v → Value.okWide Tryz.prog W .any base t v := hval0
  have hW' := hW
  obtain ⟨p, q, hA0, hV, rfl, hfz, hnd⟩ := hW
  have hA : DataW.TrodAll enc Tryz.prog W 0 (fun _ => true) true Tryz.f5.params.toList args.toList ds p := hA0
  rw [Tryz.params5] at hA hval
  have hA' := hA
  obtain ⟨v0, vs0, d0, ds0, p0, q0, hargs, rfl, rfl, h0, r0⟩ := trodAll_cons hA
  obtain ⟨v1, vs1, d1, ds1, p1, q1, rfl, rfl, rfl, h1, r1⟩ := trodAll_cons r0
  obtain ⟨rfl, rfl, rfl⟩ := trodAll_nil r1
  obtain rfl : args = #[v0, v1] := by cases args; simp_all
  obtain ⟨rfl, rfl⟩ := trodVars_none hV
  obtain ⟨n0, X0, r0, t0⟩ := open_arg kids dtys_ok (T := 24) (by decide) (hval 0 24 v0 rfl rfl) h0
  obtain ⟨a0, rfl, w0⟩ := in_B t0
  obtain ⟨n1, X1, r1, t1⟩ := open_arg kids dtys_ok (T := 42) (by decide) (hval 1 42 v1 rfl rfl) h1
  obtain ⟨a1, rfl, w1⟩ := in_u8s t1
  clear hA0 hval0
  simp only [List.append_nil] at hW'
  have hc := normalTwice_c a0 a1 w0
  refine (hc.2 W (fun b _ => b < W.heap.size) _ (fun _ _ h => h) (glob hL) (repVs_cons r0 (repVs_cons r1 repVs_nil))).mono ?_
  rintro e W' ⟨v, I', rfl, hb, _, _, _, hres⟩
  have hg := again kids full hb (by intro t ht; revert t; decide +kernel) hA'
  obtain rfl := sF hres
  exact ⟨_, rfl, _, _, _, [], _, [], hW', (trodAll_cons_mk (shut_bool Tryz.underlying4 _) trodAll_mk0), hg, rfl, hb.frame _, fun h => by cases h⟩
theorem band {a b : Bool} (h : a = true) (k : b = true) : (a && b) = true := by rw [h, k]; rfl
set_option maxHeartbeats 8000000 in
theorem facts : joinedFacts Tryz.checked.prog 5 Tryz.f5 Rows.normalTwiceSpec Rows.normalTwiceRow = true := by
  unfold joinedFacts
  with_reducible repeat' (refine band ?_ ?_)
  all_goals (as_aux_lemma => kernel_rfl)
theorem a1 : Rows.normalTwiceRow.wfByText (OpenSpec.ofChange Rows.normalTwiceSpec) = true := by kernel_rfl
theorem a2 : Tryz.pinned.checked.prog.mainIs = some (true, "9eb2ee243f17799170190e3b310a46dbf1bca42081ed75b007bcf3d1d5f20503".toList) := by kernel_rfl
theorem a3 : true = Tryz.pinned.checked.prog.looks [] := by kernel_rfl
theorem a4 : ([24, 42].all fun u => !Tryz.prog.wantsStandIn u) = true := by kernel_rfl
theorem a5 : Tryz.prog.funcNamed "truchman/truchmanlaw34.NormalTwice" = some 5 := by kernel_rfl
theorem a6 : false = Rows.normalTwiceRow.goesBy Tryz.pinned.checked.prog := by kernel_rfl
theorem holds : Rows.NormalTwiceSaid :=
  OpenClaim.holds_of_wide 5 Tryz.f5 rfl rfl rfl rfl rfl rfl rfl ⟨rfl, rfl, rfl, rfl, rfl⟩ rfl rfl rfl rfl rfl a5 Tryz.func5 facts
    (of_decide_eq_true (by kernel_rfl)) (by unfold Func.isWrapper; first | (rw [if_pos (by decide +kernel)]; kernel_rfl) | (rw [if_neg (by decide +kernel)]; exact ⟨rfl, rfl⟩))
    (fun os started H enc _ => lifted os started H enc)
theorem proved : Rows.NormalTwiceCardSaid :=
  Claim7.holds_tied_plain_at .later [] [.data] true (true, "9eb2ee243f17799170190e3b310a46dbf1bca42081ed75b007bcf3d1d5f20503") true holds (fun _ h => by cases h) a1 (fun _ h => by cases h) normalTwice_row_tie rfl ⟨rfl, rfl⟩ a2 rfl
    (fun f fn hf hfn => by
      obtain rfl : f = 5 := Option.some.inj (a5.symm.trans hf) |>.symm
      obtain rfl : fn = Tryz.f5 := (Option.some.inj (Tryz.func5.symm.trans hfn)).symm
      exact ⟨a3, fun j t ht => by
        rw [Tryz.params5] at ht
        have hm : t ∈ [24, 42] := by have := Array.mem_of_getElem? ht; simpa using this
        exact (show Tryz.prog.wantsStandIn t = false by simpa using List.all_eq_true.1 a4 t hm)⟩)
    a6
#print axioms proved
end Go.Proofs.YtiolofgnkkhjoaaGreatDoor.NormalTwice
