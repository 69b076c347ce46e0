/- PROVED HERE: 'truchmanlaw33.NzipkinKeeps' returns true for every input, and its arguments read behind the call as they read before. No condition. -/
import Derived.Test.YtiolofgnkkhjoaaGreatDoorTie
import Derived.Test.YtiolofgnkkhjoaaGreatDoorCards
import Derived.Test.YtiolofgnkkhjoaaGreatDoorP7
import Derived.WalkKit
import Derived.ProofKit
import Derived.OpenShut
import Derived.ShutString
import Derived.Lay
import Derived.SevenTiedAt
import Derived.Handy
import Derived.Lib.LaidTab
set_option linter.unusedVariables false
set_option linter.unusedSimpArgs false
namespace Go.Proofs.YtiolofgnkkhjoaaGreatDoor.NzipkinKeeps
open Go.ChangeShapes Go.WideShapes Go.ChangeAt Go.RowKit Go.Al
theorem own : ownKnob Tryz.prog.godebug = none := by kernel_rfl
theorem gT : Tryz.prog.globalNamed "truchman/word.highs" = some 1 := by kernel_rfl
theorem gTType : (Tryz.prog.globals[1]?).map (·.type) = some 55 := by kernel_rfl
theorem cellsE : Tryz.prog.cellsOf 5 = 1 := by kernel_rfl
theorem cellsT : Tryz.prog.cellsOf 55 = 8 := by kernel_rfl
theorem glob {W : World} (hL : laidMetH Tryz.prog Rows.nzipkinKeepsRow.laid W) : Glob Γ0 W (fun b _ => b < W.heap.size) := by
  have hL2 : laidMet Tryz.prog Rows.nzipkinKeepsRow.laid W := by rw [MakeChecks.laidMetH_plain _ _ _ (by kernel_rfl)] at hL; exact hL
  have hT : Lib.TabIs Tryz.prog W "truchman/word.highs" .u8 [56, 48, 40, 32, 24, 16, 8, 0] := Lib.tabIs_of_head (rest := []) gT gTType Tryz.underlying55 Tryz.underlying5 cellsE cellsT hL2
  have h := glob_bytes (w := W) (g := 1) (l := [56, 48, 40, 32, 24, 16, 8, 0]) (fun i hi => by
    have := hT.cell gT i hi
    rw [this]
    have key : ∀ j : Fin 8, ([56, 48, 40, 32, 24, 16, 8, 0] : List Int).getD j.val 0 = ((([56, 48, 40, 32, 24, 16, 8, 0] : List UInt8).getD j.val 0).toNat : Int) := by decide
    exact congrArg (fun z => some (Value.int .u8 z)) (key ⟨i, hi⟩)) (by decide)
  exact h
set_option maxRecDepth 100000 in
theorem lifted (os : Os) (started : os.Started) (H : Type) (enc : TypeId × Value → H) :
    ReturnsInHanded {} Tryz.checked os 3 .any (fun w args => (Rows.nzipkinKeepsSpec.pre enc Tryz.prog Tryz.f3 [] false w args ∧ laidMetH Tryz.prog Rows.nzipkinKeepsRow.laid w) ∧ sizedMet enc Tryz.prog Tryz.f3 (OpenSpec.ofChange Rows.nzipkinKeepsSpec) false w args)
      (Rows.nzipkinKeepsSpec.post enc Tryz.prog Tryz.f3 false true false false) := by
  refine returnsInHanded_of_change_and (C := Tryz.checked) (X := fun w _ => laidMetH Tryz.prog Rows.nzipkinKeepsRow.laid w) (fun _ _ _ hh h => h.of_heap hh) own started (by kernel_rfl) Tryz.func3
    (ChangeSpec.witness_shaped (enc := enc) (C := Tryz.checked) (os := os) (X := fun w _ => laidMetH Tryz.prog Rows.nzipkinKeepsRow.laid w) false (World.laidAll Tryz.prog os Rows.nzipkinKeepsRow.laid) #[.agg #[.slice none 0 0]] 12 (World.laidAll_os _ _ _)
      (World.shaped_of_ZipB (by kernel_rfl) (by kernel_rfl)) (by kernel_rfl) (by kernel_rfl) (by kernel_rfl)
      (by rw [MakeChecks.laidMetH_plain _ _ _ (by kernel_rfl)]; exact laidMet_laidAll _ (by kernel_rfl) (by kernel_rfl))) ?_
  intro W base args ds gs before hval0 hW _ hsz hL _
  have hval : ∀ (j : Nat) t v, Tryz.f3.params[j]? = some t → args[j]? = some v → Value.okWide Tryz.prog W .any base t v := hval0
  have hW' := hW
  obtain ⟨p, q, hA0, hV, rfl, hfz, hnd⟩ := hW
  have hA : DataW.TrodAll enc Tryz.prog W 0 (fun _ => true) true Tryz.f3.params.toList args.toList ds p := hA0
  rw [Tryz.params3] at hA hval
  have hA' := hA
  obtain ⟨v0, vs0, d0, ds0, p0, q0, hargs, rfl, rfl, h0, r0⟩ := trodAll_cons hA
  obtain ⟨rfl, rfl, rfl⟩ := trodAll_nil r0
  obtain rfl : args = #[v0] := by cases args; simp_all
  obtain ⟨rfl, rfl⟩ := trodVars_none hV
  obtain ⟨n0, X0, r0, t0⟩ := open_arg kids dtys_ok (T := 24) (by decide) (hval 0 24 v0 rfl rfl) h0
  obtain ⟨a0, rfl, w0⟩ := in_B t0
  clear hA0 hval0
  simp only [List.append_nil] at hW'
  have hc := nzipkinKeeps_c a0 w0
  refine (hc.2 W (fun b _ => b < W.heap.size) _ (fun _ _ h => h) (glob hL) (repVs_cons r0 repVs_nil)).mono ?_
  rintro e W' ⟨v, I', rfl, hb, _, _, _, hres⟩
  have hg := again kids full hb (by intro t ht; revert t; decide +kernel) hA'
  obtain rfl := rep_bool hres
  exact ⟨_, rfl, _, _, _, [], _, [], hW', (trodAll_cons_mk (shut_bool Tryz.underlying4 _) trodAll_mk0), hg, rfl, hb.frame _, fun h => by cases h⟩
theorem band {a b : Bool} (h : a = true) (k : b = true) : (a && b) = true := by rw [h, k]; rfl
set_option maxHeartbeats 8000000 in
theorem facts : joinedFacts Tryz.checked.prog 3 Tryz.f3 Rows.nzipkinKeepsSpec Rows.nzipkinKeepsRow = true := by
  unfold joinedFacts
  with_reducible repeat' (refine band ?_ ?_)
  all_goals (as_aux_lemma => kernel_rfl)
theorem a1 : Rows.nzipkinKeepsRow.wfByText (OpenSpec.ofChange Rows.nzipkinKeepsSpec) = true := by kernel_rfl
theorem a2 : Tryz.pinned.checked.prog.mainIs = some (true, "9eb2ee243f17799170190e3b310a46dbf1bca42081ed75b007bcf3d1d5f20503".toList) := by kernel_rfl
theorem a3 : true = Tryz.pinned.checked.prog.looks [] := by kernel_rfl
theorem a4 : ([24].all fun u => !Tryz.prog.wantsStandIn u) = true := by kernel_rfl
theorem a5 : Tryz.prog.funcNamed "truchman/truchmanlaw33.NzipkinKeeps" = some 3 := by kernel_rfl
theorem a6 : false = Rows.nzipkinKeepsRow.goesBy Tryz.pinned.checked.prog := by kernel_rfl
theorem holds : Rows.NzipkinKeepsSaid :=
  OpenClaim.holds_of_wide 3 Tryz.f3 rfl rfl rfl rfl rfl rfl rfl ⟨rfl, rfl, rfl, rfl, rfl⟩ rfl rfl rfl rfl rfl a5 Tryz.func3 facts
    (of_decide_eq_true (by kernel_rfl)) (by unfold Func.isWrapper; first | (rw [if_pos (by decide +kernel)]; kernel_rfl) | (rw [if_neg (by decide +kernel)]; exact ⟨rfl, rfl⟩))
    (fun os started H enc _ => lifted os started H enc)
theorem proved : Rows.NzipkinKeepsCardSaid :=
  Claim7.holds_tied_plain_at .later [] [.data] true (true, "9eb2ee243f17799170190e3b310a46dbf1bca42081ed75b007bcf3d1d5f20503") true holds (fun _ h => by cases h) a1 (fun _ h => by cases h) nzipkinKeeps_row_tie rfl ⟨rfl, rfl⟩ a2 rfl
    (fun f fn hf hfn => by
      obtain rfl : f = 3 := Option.some.inj (a5.symm.trans hf) |>.symm
      obtain rfl : fn = Tryz.f3 := (Option.some.inj (Tryz.func3.symm.trans hfn)).symm
      exact ⟨a3, fun j t ht => by
        rw [Tryz.params3] at ht
        have hm : t ∈ [24] := by have := Array.mem_of_getElem? ht; simpa using this
        exact (show Tryz.prog.wantsStandIn t = false by simpa using List.all_eq_true.1 a4 t hm)⟩)
    a6
#print axioms proved
end Go.Proofs.YtiolofgnkkhjoaaGreatDoor.NzipkinKeeps
