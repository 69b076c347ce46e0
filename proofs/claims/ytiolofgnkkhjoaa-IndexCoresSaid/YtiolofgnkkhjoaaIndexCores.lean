/- PROVED HERE: 'truchmanlaw31.IndexCores' returns true for every input, and its arguments read behind the call as they read before. No condition. -/
import Derived.Test.YtiolofgnkkhjoaaRows
import Derived.Test.YtiolofgnkkhjoaaP5
import Derived.WalkKit
import Derived.ProofKit
import Derived.OpenShut
import Derived.ShutString
import Derived.Handy
set_option linter.unusedVariables false
set_option linter.unusedSimpArgs false
namespace Go.Proofs.Ytiolofgnkkhjoaa.IndexCores
open Go.ChangeShapes Go.WideShapes Go.ChangeAt Go.RowKit Go.Al
theorem own : ownKnob Try.prog.godebug = none := by kernel_rfl
set_option maxRecDepth 100000 in
theorem lifted (os : Os) (started : os.Started) (H : Type) (enc : TypeId × Value → H) :
    ReturnsInHanded {} Try.checked os 4 .any (Rows.indexCoresSpec.pre6 enc Try.prog Try.f4 Rows.indexCoresRow.domain false) (Rows.indexCoresSpec.post enc Try.prog Try.f4 false true false false) := by
  refine returnsInHanded_of_change (C := Try.checked) own started (by kernel_rfl) Try.func4
    (ChangeSpec.witness6 (enc := enc) (C := Try.checked) false ⟨#[], #[.agg #[.slice none 0 0], .agg #[.slice none 0 0]], []⟩ 12 (by kernel_rfl) (by kernel_rfl) (by kernel_rfl) (by kernel_rfl)) ?_
  intro W base args ds gs before hval0 hW hcnd _
  have hval : ∀ (j : Nat) t v, Try.f4.params[j]? = some t → args[j]? = some v → Value.okWide Try.prog W .any base t v := hval0
  have hW' := hW
  obtain ⟨p, q, hA0, hV, rfl, hfz, hnd⟩ := hW
  have hA : DataW.TrodAll enc Try.prog W 0 (fun _ => true) true Try.f4.params.toList args.toList ds p := hA0
  rw [Try.params4] at hA hval
  have hA' := hA
  obtain ⟨v0, vs0, d0, ds0, p0, q0, hargs, rfl, rfl, h0, r0⟩ := trodAll_cons hA
  obtain ⟨v1, vs1, d1, ds1, p1, q1, rfl, rfl, rfl, h1, r1⟩ := trodAll_cons r0
  obtain ⟨rfl, rfl, rfl⟩ := trodAll_nil r1
  obtain rfl : args = #[v0, v1] := by cases args; simp_all
  obtain ⟨rfl, rfl⟩ := trodVars_none hV
  obtain ⟨n0, X0, r0, t0⟩ := open_arg kids dtys_ok (T := 24) (by decide) (hval 0 24 v0 rfl rfl) h0
  obtain ⟨a0, rfl, w0⟩ := in_B t0
  obtain ⟨n1, X1, r1, t1⟩ := open_arg kids dtys_ok (T := 24) (by decide) (hval 1 24 v1 rfl rfl) h1
  obtain ⟨a1, rfl, w1⟩ := in_B t1
  clear hA0 hval0
  simp only [List.append_nil] at hW'
  have hc := indexCores_c a0 a1
  refine (hc.2 W (fun b _ => b < W.heap.size) _ (fun _ _ h => h) (fun p hp => by cases hp) (xQ r0 (xQ r1 repVs_nil))).mono ?_
  rintro e W' ⟨v, I', rfl, hb, _, _, _, hres⟩
  have hg := again kids full hb (by intro t ht; revert t; decide +kernel) hA'
  obtain rfl := yG hres
  exact ⟨_, rfl, _, _, _, [], _, [], hW', (trodAll_cons_mk (shut_bool Try.underlying4 _) trodAll_mk0), hg, rfl, hb.frame _, fun h => by cases h⟩
theorem band {a b : Bool} (h : a = true) (k : b = true) : (a && b) = true := by rw [h, k]; rfl
set_option maxHeartbeats 8000000 in
theorem facts : joinedFacts Try.checked.prog 4 Try.f4 Rows.indexCoresSpec Rows.indexCoresRow = true := by
  unfold joinedFacts
  with_reducible repeat' (refine band ?_ ?_)
  all_goals (as_aux_lemma => kernel_rfl)
theorem a5 : Try.prog.funcNamed "truchman/truchmanlaw31.IndexCores" = some 4 := by kernel_rfl
theorem proved : Rows.IndexCoresSaid :=
  OpenClaim.holds_of_wide 4 Try.f4 rfl rfl rfl rfl rfl rfl rfl ⟨rfl, rfl, rfl, rfl, rfl⟩ rfl rfl rfl rfl rfl a5 Try.func4 facts
    (of_decide_eq_true (by kernel_rfl)) (by unfold Func.isWrapper; first | (rw [if_pos (by decide +kernel)]; kernel_rfl) | (rw [if_neg (by decide +kernel)]; exact ⟨rfl, rfl⟩))
    (fun os started H enc _ => lifted os started H enc)
#print axioms proved
end Go.Proofs.Ytiolofgnkkhjoaa.IndexCores
