/- Texts that the proofs of this claim share, part 6: the abstract logic, plain Lean on values and batches, and walks. No condition but those typed in each lemma. -/
import Derived.Maps.RangeRun
import Derived.Sort.OwnSorted
import Derived.RangeFuncLeaves
import Derived.RangeFuncRecord
import Derived.RangeFuncSeq
import Derived.Stop.Asserts
import Derived.Laws.Externs
import Derived.Test.YtiolofgnkkhjoaaDoorP5
set_option linter.unusedSimpArgs false
set_option linter.unusedVariables false
set_option maxHeartbeats 400000
namespace Go.Proofs
open Go Go.Al
set_option maxRecDepth 10000
theorem eq26 (a b : List UInt8) : eqV Tryd.prog 100 26 (.arr 16 a) (.arr 16 b) = some (a == b) := by kernel_rfl
theorem eq28 (a b : List UInt8) : eqV Tryd.prog 100 28 (.arr 8 a) (.arr 8 b) = some (a == b) := by kernel_rfl
theorem eq34 (c d : Int) (m n : ByteArray) : eqV Tryd.prog 100 34 (.agg [iv c, sv m]) (.agg [iv d, sv n]) = some ((c == d) && ((m.toList == n.toList) && true)) := by kernel_rfl
set_option maxHeartbeats 4000000 in
theorem rsameS_c (a b : GSpan) (hw : a.wt ≤ 1000000000) : zo Tryd.prog Γ0 15 [a.av, b.av] [bv (decide (a = b))] := by
  have qw : a.wt = 1 + a.state.size + a.name.size + a.note.size + wtAs a.attrs + zw GE.wt a.events + zw GL.wt a.links := rfl
  have ql := yn GE.wt (fun e => by unfold GE.wt; omega) a.events
  have qm := yn GL.wt (fun e => by unfold GL.wt; omega) a.links
  refine zf Tryd.func15 rfl Tryd.ntmps15 (by kernel_rfl) rfl fun w0 I0 G0 => ?_
  refine zD <| zB <| g_uG (zn 1002 rfl rfl rfl rfl) rfl <| g_uG (zn 1003 rfl rfl rfl rfl) rfl <| g_u (zE rfl rfl) <| zH <| zA <| zD <| zD <| zB <| g_u (zF rfl rfl fa36_0 rfl) <| g_u (zG rfl rfl rfl tA26 tS26 rfl rfl) <| g_u (zF rfl rfl fa36_0 rfl) <| g_u (zG rfl rfl rfl tA26 tS26 rfl rfl) <| g_u (s_neA rfl rfl rfl eg26 rfl rfl (eq26 _ _)) <| g_u (zC rfl rfl) <| yL (t := 16) rfl ?_
  rintro (hb1 | hb1)
  · rw [hb1]
    have q : ¬ a.trace = b.trace := by have e := hb1; simpa using e
    refine zI rfl rfl rfl <| zI rfl rfl rfl <| zI rfl rfl rfl <| zI rfl rfl rfl <| zI rfl rfl rfl <| g_u (zZ rfl rfl rfl) <| g_u (zC rfl rfl) <| zI rfl rfl rfl <| zI rfl rfl rfl <| zI rfl rfl rfl <| zI rfl rfl rfl <| zI rfl rfl rfl <| g_u (zZ rfl rfl rfl) <| g_u (zC rfl rfl) <| zI rfl rfl rfl <| zI rfl rfl rfl <| zI rfl rfl rfl <| zI rfl rfl rfl <| zI rfl rfl rfl <| g_u (zZ rfl rfl rfl) <| g_u (zC rfl rfl) <| zI rfl rfl rfl <| zI rfl rfl rfl <| zI rfl rfl rfl <| zI rfl rfl rfl <| zI rfl rfl rfl <| g_u (zZ rfl rfl rfl) <| g_u (zC rfl rfl) <| zI rfl rfl rfl <| zI rfl rfl rfl <| zI rfl rfl rfl <| zI rfl rfl rfl <| zI rfl rfl rfl <| g_u (zZ rfl rfl rfl) <| g_u (zC rfl rfl) <| zI rfl rfl rfl <| zI rfl rfl rfl <| zI rfl rfl rfl <| zI rfl rfl rfl <| zI rfl rfl rfl <| g_u (zZ rfl rfl rfl) <| g_u (zC rfl rfl) <| zI rfl rfl rfl <| zI rfl rfl rfl <| zI rfl rfl rfl <| zI rfl rfl rfl <| zI rfl rfl rfl <| g_u (zZ rfl rfl rfl) <| g_u (zC rfl rfl) <| zI rfl rfl rfl <| zI rfl rfl rfl <| zI rfl rfl rfl <| zI rfl rfl rfl <| zI rfl rfl rfl <| g_u (zZ rfl rfl rfl) <| zH <| zA <| zg rfl <| zD <| zB <| g_u (zE rfl rfl) <| zH <| zA <| zQ <| zM ?_
    exact ⟨⟨(rfl : toAV (Al.look _ _) = some _).trans (congrArg some (by (exact congrArg bv (by first | exact (decide_eq_false (fun e => q ⟨congrArg GSpan.code e, congrArg GSpan.note e⟩)).symm | exact (decide_eq_false (fun e => q (by rw [e]))).symm | exact (decide_eq_true (GSpan.ext' e0 e1 e2 e3 e4 e5 e6 e7 e9 (zy ge0 e10 (fun j hj => hev j (by omega))) (zy gl0 e11 (fun j hj => h4 j (by omega))) e8.1 e8.2)).symm)))), rfl⟩, trivial⟩
  · rw [hb1]
    have e0 : a.trace = b.trace := by have e := hb1; simpa using e
    refine zO rfl rfl (zF rfl rfl fa36_1 rfl) <| zO rfl rfl (zG rfl rfl rfl tA28 tS28 rfl rfl) <| zO rfl rfl (zF rfl rfl fa36_1 rfl) <| zO rfl rfl (zG rfl rfl rfl tA28 tS28 rfl rfl) <| zO rfl rfl (s_neA rfl rfl rfl eg28 rfl rfl (eq28 _ _)) <| g_u (zr rfl rfl rfl) <| g_u (zC rfl rfl) <| yL (t := 23) rfl ?_
    rintro (hb2 | hb2)
    · rw [hb2]
      have q : ¬ a.id = b.id := by have e := hb2; simpa using e
      refine zI rfl rfl rfl <| zI rfl rfl rfl <| zI rfl rfl rfl <| zI rfl rfl rfl <| zI rfl rfl rfl <| g_u (zZ rfl rfl rfl) <| g_u (zC rfl rfl) <| zI rfl rfl rfl <| zI rfl rfl rfl <| zI rfl rfl rfl <| zI rfl rfl rfl <| zI rfl rfl rfl <| g_u (zZ rfl rfl rfl) <| g_u (zC rfl rfl) <| zI rfl rfl rfl <| zI rfl rfl rfl <| zI rfl rfl rfl <| zI rfl rfl rfl <| zI rfl rfl rfl <| g_u (zZ rfl rfl rfl) <| g_u (zC rfl rfl) <| zI rfl rfl rfl <| zI rfl rfl rfl <| zI rfl rfl rfl <| zI rfl rfl rfl <| zI rfl rfl rfl <| g_u (zZ rfl rfl rfl) <| g_u (zC rfl rfl) <| zI rfl rfl rfl <| zI rfl rfl rfl <| zI rfl rfl rfl <| zI rfl rfl rfl <| zI rfl rfl rfl <| g_u (zZ rfl rfl rfl) <| g_u (zC rfl rfl) <| zI rfl rfl rfl <| zI rfl rfl rfl <| zI rfl rfl rfl <| zI rfl rfl rfl <| zI rfl rfl rfl <| g_u (zZ rfl rfl rfl) <| g_u (zC rfl rfl) <| zI rfl rfl rfl <| zI rfl rfl rfl <| zI rfl rfl rfl <| zI rfl rfl rfl <| zI rfl rfl rfl <| g_u (zZ rfl rfl rfl) <| zH <| zA <| zg rfl <| zD <| zB <| g_u (zE rfl rfl) <| zH <| zA <| zQ <| zM ?_
      exact ⟨⟨(rfl : toAV (Al.look _ _) = some _).trans (congrArg some (by (exact congrArg bv (by first | exact (decide_eq_false (fun e => q ⟨congrArg GSpan.code e, congrArg GSpan.note e⟩)).symm | exact (decide_eq_false (fun e => q (by rw [e]))).symm | exact (decide_eq_true (GSpan.ext' e0 e1 e2 e3 e4 e5 e6 e7 e9 (zy ge0 e10 (fun j hj => hev j (by omega))) (zy gl0 e11 (fun j hj => h4 j (by omega))) e8.1 e8.2)).symm)))), rfl⟩, trivial⟩
    · rw [hb2]
      have e1 : a.id = b.id := by have e := hb2; simpa using e
      refine zO rfl rfl (zF rfl rfl fa36_2 rfl) <| zO rfl rfl (zG rfl rfl rfl tA28 tS28 rfl rfl) <| zO rfl rfl (zF rfl rfl fa36_2 rfl) <| zO rfl rfl (zG rfl rfl rfl tA28 tS28 rfl rfl) <| zO rfl rfl (s_neA rfl rfl rfl eg28 rfl rfl (eq28 _ _)) <| g_u (zr rfl rfl rfl) <| g_u (zC rfl rfl) <| yL (t := 30) rfl ?_
      rintro (hb3 | hb3)
      · rw [hb3]
        have q : ¬ a.parent = b.parent := by have e := hb3; simpa using e
        refine zI rfl rfl rfl <| zI rfl rfl rfl <| zI rfl rfl rfl <| zI rfl rfl rfl <| zI rfl rfl rfl <| g_u (zZ rfl rfl rfl) <| g_u (zC rfl rfl) <| zI rfl rfl rfl <| zI rfl rfl rfl <| zI rfl rfl rfl <| zI rfl rfl rfl <| zI rfl rfl rfl <| g_u (zZ rfl rfl rfl) <| g_u (zC rfl rfl) <| zI rfl rfl rfl <| zI rfl rfl rfl <| zI rfl rfl rfl <| zI rfl rfl rfl <| zI rfl rfl rfl <| g_u (zZ rfl rfl rfl) <| g_u (zC rfl rfl) <| zI rfl rfl rfl <| zI rfl rfl rfl <| zI rfl rfl rfl <| zI rfl rfl rfl <| zI rfl rfl rfl <| g_u (zZ rfl rfl rfl) <| g_u (zC rfl rfl) <| zI rfl rfl rfl <| zI rfl rfl rfl <| zI rfl rfl rfl <| zI rfl rfl rfl <| zI rfl rfl rfl <| g_u (zZ rfl rfl rfl) <| g_u (zC rfl rfl) <| zI rfl rfl rfl <| zI rfl rfl rfl <| zI rfl rfl rfl <| zI rfl rfl rfl <| zI rfl rfl rfl <| g_u (zZ rfl rfl rfl) <| zH <| zA <| zg rfl <| zD <| zB <| g_u (zE rfl rfl) <| zH <| zA <| zQ <| zM ?_
        exact ⟨⟨(rfl : toAV (Al.look _ _) = some _).trans (congrArg some (by (exact congrArg bv (by first | exact (decide_eq_false (fun e => q ⟨congrArg GSpan.code e, congrArg GSpan.note e⟩)).symm | exact (decide_eq_false (fun e => q (by rw [e]))).symm | exact (decide_eq_true (GSpan.ext' e0 e1 e2 e3 e4 e5 e6 e7 e9 (zy ge0 e10 (fun j hj => hev j (by omega))) (zy gl0 e11 (fun j hj => h4 j (by omega))) e8.1 e8.2)).symm)))), rfl⟩, trivial⟩
      · rw [hb3]
        have e2 : a.parent = b.parent := by have e := hb3; simpa using e
        refine zO rfl rfl (zF rfl rfl fa36_3 rfl) <| zO rfl rfl (zG rfl rfl rfl tA9 tS9 rfl rfl) <| zO rfl rfl (zF rfl rfl fa36_3 rfl) <| zO rfl rfl (zG rfl rfl rfl tA9 tS9 rfl rfl) <| zO rfl rfl (s_neS rfl rfl rfl) <| g_u (zr rfl rfl rfl) <| g_u (zC rfl rfl) <| yL (t := 37) rfl ?_
        rintro (hb4 | hb4)
        · rw [hb4]
          have q : ¬ a.state = b.state := by have e := hb4; rw [yg] at e; simpa using e
          refine zI rfl rfl rfl <| zI rfl rfl rfl <| zI rfl rfl rfl <| zI rfl rfl rfl <| zI rfl rfl rfl <| g_u (zZ rfl rfl rfl) <| g_u (zC rfl rfl) <| zI rfl rfl rfl <| zI rfl rfl rfl <| zI rfl rfl rfl <| zI rfl rfl rfl <| zI rfl rfl rfl <| g_u (zZ rfl rfl rfl) <| g_u (zC rfl rfl) <| zI rfl rfl rfl <| zI rfl rfl rfl <| zI rfl rfl rfl <| zI rfl rfl rfl <| zI rfl rfl rfl <| g_u (zZ rfl rfl rfl) <| g_u (zC rfl rfl) <| zI rfl rfl rfl <| zI rfl rfl rfl <| zI rfl rfl rfl <| zI rfl rfl rfl <| zI rfl rfl rfl <| g_u (zZ rfl rfl rfl) <| g_u (zC rfl rfl) <| zI rfl rfl rfl <| zI rfl rfl rfl <| zI rfl rfl rfl <| zI rfl rfl rfl <| zI rfl rfl rfl <| g_u (zZ rfl rfl rfl) <| zH <| zA <| zg rfl <| zD <| zB <| g_u (zE rfl rfl) <| zH <| zA <| zQ <| zM ?_
          exact ⟨⟨(rfl : toAV (Al.look _ _) = some _).trans (congrArg some (by (exact congrArg bv (by first | exact (decide_eq_false (fun e => q ⟨congrArg GSpan.code e, congrArg GSpan.note e⟩)).symm | exact (decide_eq_false (fun e => q (by rw [e]))).symm | exact (decide_eq_true (GSpan.ext' e0 e1 e2 e3 e4 e5 e6 e7 e9 (zy ge0 e10 (fun j hj => hev j (by omega))) (zy gl0 e11 (fun j hj => h4 j (by omega))) e8.1 e8.2)).symm)))), rfl⟩, trivial⟩
        · rw [hb4]
          have e3 : a.state = b.state := by have e := hb4; rw [yg] at e; simpa using e
          refine zO rfl rfl (zF rfl rfl fa36_4 rfl) <| zO rfl rfl (zG rfl rfl rfl tA9 tS9 rfl rfl) <| zO rfl rfl (zF rfl rfl fa36_4 rfl) <| zO rfl rfl (zG rfl rfl rfl tA9 tS9 rfl rfl) <| zO rfl rfl (s_neS rfl rfl rfl) <| g_u (zr rfl rfl rfl) <| g_u (zC rfl rfl) <| yL (t := 44) rfl ?_
          rintro (hb5 | hb5)
          · rw [hb5]
            have q : ¬ a.name = b.name := by have e := hb5; rw [yg] at e; simpa using e
            refine zI rfl rfl rfl <| zI rfl rfl rfl <| zI rfl rfl rfl <| zI rfl rfl rfl <| zI rfl rfl rfl <| g_u (zZ rfl rfl rfl) <| g_u (zC rfl rfl) <| zI rfl rfl rfl <| zI rfl rfl rfl <| zI rfl rfl rfl <| zI rfl rfl rfl <| zI rfl rfl rfl <| g_u (zZ rfl rfl rfl) <| g_u (zC rfl rfl) <| zI rfl rfl rfl <| zI rfl rfl rfl <| zI rfl rfl rfl <| zI rfl rfl rfl <| zI rfl rfl rfl <| g_u (zZ rfl rfl rfl) <| g_u (zC rfl rfl) <| zI rfl rfl rfl <| zI rfl rfl rfl <| zI rfl rfl rfl <| zI rfl rfl rfl <| zI rfl rfl rfl <| g_u (zZ rfl rfl rfl) <| zH <| zA <| zg rfl <| zD <| zB <| g_u (zE rfl rfl) <| zH <| zA <| zQ <| zM ?_
            exact ⟨⟨(rfl : toAV (Al.look _ _) = some _).trans (congrArg some (by (exact congrArg bv (by first | exact (decide_eq_false (fun e => q ⟨congrArg GSpan.code e, congrArg GSpan.note e⟩)).symm | exact (decide_eq_false (fun e => q (by rw [e]))).symm | exact (decide_eq_true (GSpan.ext' e0 e1 e2 e3 e4 e5 e6 e7 e9 (zy ge0 e10 (fun j hj => hev j (by omega))) (zy gl0 e11 (fun j hj => h4 j (by omega))) e8.1 e8.2)).symm)))), rfl⟩, trivial⟩
          · rw [hb5]
            have e4 : a.name = b.name := by have e := hb5; rw [yg] at e; simpa using e
            refine zO rfl rfl (zF rfl rfl fa36_5 rfl) <| zO rfl rfl (zG rfl rfl rfl tA3 tS3 rfl rfl) <| zO rfl rfl (zF rfl rfl fa36_5 rfl) <| zO rfl rfl (zG rfl rfl rfl tA3 tS3 rfl rfl) <| zO rfl rfl (s_neI rfl rfl rfl) <| g_u (zr rfl rfl rfl) <| g_u (zC rfl rfl) <| yL (t := 51) rfl ?_
            rintro (hb6 | hb6)
            · rw [hb6]
              have q : ¬ a.kind = b.kind := qc.1 hb6
              refine zI rfl rfl rfl <| zI rfl rfl rfl <| zI rfl rfl rfl <| zI rfl rfl rfl <| zI rfl rfl rfl <| g_u (zZ rfl rfl rfl) <| g_u (zC rfl rfl) <| zI rfl rfl rfl <| zI rfl rfl rfl <| zI rfl rfl rfl <| zI rfl rfl rfl <| zI rfl rfl rfl <| g_u (zZ rfl rfl rfl) <| g_u (zC rfl rfl) <| zI rfl rfl rfl <| zI rfl rfl rfl <| zI rfl rfl rfl <| zI rfl rfl rfl <| zI rfl rfl rfl <| g_u (zZ rfl rfl rfl) <| zH <| zA <| zg rfl <| zD <| zB <| g_u (zE rfl rfl) <| zH <| zA <| zQ <| zM ?_
              exact ⟨⟨(rfl : toAV (Al.look _ _) = some _).trans (congrArg some (by (exact congrArg bv (by first | exact (decide_eq_false (fun e => q ⟨congrArg GSpan.code e, congrArg GSpan.note e⟩)).symm | exact (decide_eq_false (fun e => q (by rw [e]))).symm | exact (decide_eq_true (GSpan.ext' e0 e1 e2 e3 e4 e5 e6 e7 e9 (zy ge0 e10 (fun j hj => hev j (by omega))) (zy gl0 e11 (fun j hj => h4 j (by omega))) e8.1 e8.2)).symm)))), rfl⟩, trivial⟩
            · rw [hb6]
              have e5 : a.kind = b.kind := qd.1 hb6
              refine zO rfl rfl (zF rfl rfl fa36_6 rfl) <| zO rfl rfl (zG rfl rfl rfl tA29 tS29 rfl rfl) <| zO rfl rfl (zF rfl rfl fa36_6 rfl) <| zO rfl rfl (zG rfl rfl rfl tA29 tS29 rfl rfl) <| zO rfl rfl (s_neI rfl rfl rfl) <| g_u (zr rfl rfl rfl) <| g_u (zC rfl rfl) <| yL (t := 58) rfl ?_
              rintro (hb7 | hb7)
              · rw [hb7]
                have q : ¬ a.start = b.start := qc.1 hb7
                refine zI rfl rfl rfl <| zI rfl rfl rfl <| zI rfl rfl rfl <| zI rfl rfl rfl <| zI rfl rfl rfl <| g_u (zZ rfl rfl rfl) <| g_u (zC rfl rfl) <| zI rfl rfl rfl <| zI rfl rfl rfl <| zI rfl rfl rfl <| zI rfl rfl rfl <| zI rfl rfl rfl <| g_u (zZ rfl rfl rfl) <| zH <| zA <| zg rfl <| zD <| zB <| g_u (zE rfl rfl) <| zH <| zA <| zQ <| zM ?_
                exact ⟨⟨(rfl : toAV (Al.look _ _) = some _).trans (congrArg some (by (exact congrArg bv (by first | exact (decide_eq_false (fun e => q ⟨congrArg GSpan.code e, congrArg GSpan.note e⟩)).symm | exact (decide_eq_false (fun e => q (by rw [e]))).symm | exact (decide_eq_true (GSpan.ext' e0 e1 e2 e3 e4 e5 e6 e7 e9 (zy ge0 e10 (fun j hj => hev j (by omega))) (zy gl0 e11 (fun j hj => h4 j (by omega))) e8.1 e8.2)).symm)))), rfl⟩, trivial⟩
              · rw [hb7]
                have e6 : a.start = b.start := qd.1 hb7
                refine zO rfl rfl (zF rfl rfl fa36_7 rfl) <| zO rfl rfl (zG rfl rfl rfl tA29 tS29 rfl rfl) <| zO rfl rfl (zF rfl rfl fa36_7 rfl) <| zO rfl rfl (zG rfl rfl rfl tA29 tS29 rfl rfl) <| zO rfl rfl (s_neI rfl rfl rfl) <| g_u (zr rfl rfl rfl) <| g_u (zC rfl rfl) <| yL (t := 65) rfl ?_
                rintro (hb8 | hb8)
                · rw [hb8]
                  have q : ¬ a.fin = b.fin := qc.1 hb8
                  refine zI rfl rfl rfl <| zI rfl rfl rfl <| zI rfl rfl rfl <| zI rfl rfl rfl <| zI rfl rfl rfl <| g_u (zZ rfl rfl rfl) <| zH <| zA <| zg rfl <| zD <| zB <| g_u (zE rfl rfl) <| zH <| zA <| zQ <| zM ?_
                  exact ⟨⟨(rfl : toAV (Al.look _ _) = some _).trans (congrArg some (by (exact congrArg bv (by first | exact (decide_eq_false (fun e => q ⟨congrArg GSpan.code e, congrArg GSpan.note e⟩)).symm | exact (decide_eq_false (fun e => q (by rw [e]))).symm | exact (decide_eq_true (GSpan.ext' e0 e1 e2 e3 e4 e5 e6 e7 e9 (zy ge0 e10 (fun j hj => hev j (by omega))) (zy gl0 e11 (fun j hj => h4 j (by omega))) e8.1 e8.2)).symm)))), rfl⟩, trivial⟩
                · rw [hb8]
                  have e7 : a.fin = b.fin := qd.1 hb8
                  refine zO rfl rfl (zF rfl rfl fa36_11 rfl) <| zO rfl rfl (zG rfl rfl rfl tA34 tS34 rfl rfl) <| zO rfl rfl (zF rfl rfl fa36_11 rfl) <| zO rfl rfl (zG rfl rfl rfl tA34 tS34 rfl rfl) <| zO rfl rfl (s_neA rfl rfl rfl eg34 rfl rfl (eq34 _ _ _ _)) <| g_u (zr rfl rfl rfl) <| zH <| zA ?_
                  refine zV rfl (fun hb9 => ?_) (fun hb9 => ?_)
                  · have q : ¬ (a.code = b.code ∧ a.note = b.note) := fun h => by have e := hb9; rw [yg, h.1, h.2] at e; simp at e
                    refine zD <| zB <| g_u (zE rfl rfl) <| zH <| zA <| zQ <| zM ?_
                    exact ⟨⟨(rfl : toAV (Al.look _ _) = some _).trans (congrArg some (by (exact congrArg bv (by first | exact (decide_eq_false (fun e => q ⟨congrArg GSpan.code e, congrArg GSpan.note e⟩)).symm | exact (decide_eq_false (fun e => q (by rw [e]))).symm | exact (decide_eq_true (GSpan.ext' e0 e1 e2 e3 e4 e5 e6 e7 e9 (zy ge0 e10 (fun j hj => hev j (by omega))) (zy gl0 e11 (fun j hj => h4 j (by omega))) e8.1 e8.2)).symm)))), rfl⟩, trivial⟩
                  · have e8 : a.code = b.code ∧ a.note = b.note := by have e := hb9; rw [yg] at e; simpa using e
                    refine zY <| zA <| zD <| zD <| zB <| g_u (zF rfl rfl fa36_8 rfl) <| g_u (zG rfl rfl rfl tA30 tS30 rfl rfl) <| g_u (zF rfl rfl fa36_8 rfl) <| g_u (zG rfl rfl rfl tA30 tS30 rfl rfl) ?_
                    refine g_u (zR (rsameAs_c _ _ (by omega)) rfl rfl) ?_
                    refine g_u (s_not rfl rfl) <| g_u (zC rfl rfl) <| yL (t := 78) rfl ?_
                    rintro (hb10 | hb10)
                    · rw [hb10]
                      have q : ¬ a.attrs = b.attrs := fun h => by have e := hb10; rw [h, sameAs_refl] at e; cases e
                      refine zI rfl rfl rfl <| zI rfl rfl rfl <| zI rfl rfl rfl <| zI rfl rfl rfl <| zI rfl rfl rfl <| zI rfl rfl rfl <| zI rfl rfl rfl <| g_u (zZ rfl rfl rfl) <| g_u (zC rfl rfl) <| zI rfl rfl rfl <| zI rfl rfl rfl <| zI rfl rfl rfl <| zI rfl rfl rfl <| zI rfl rfl rfl <| zI rfl rfl rfl <| zI rfl rfl rfl <| g_u (zZ rfl rfl rfl) <| zH <| zA <| zg rfl <| zD <| zB <| g_u (zE rfl rfl) <| zH <| zA <| zQ <| zM ?_
                      exact ⟨⟨(rfl : toAV (Al.look _ _) = some _).trans (congrArg some (by (exact congrArg bv (by first | exact (decide_eq_false (fun e => q ⟨congrArg GSpan.code e, congrArg GSpan.note e⟩)).symm | exact (decide_eq_false (fun e => q (by rw [e]))).symm | exact (decide_eq_true (GSpan.ext' e0 e1 e2 e3 e4 e5 e6 e7 e9 (zy ge0 e10 (fun j hj => hev j (by omega))) (zy gl0 e11 (fun j hj => h4 j (by omega))) e8.1 e8.2)).symm)))), rfl⟩, trivial⟩
                    · rw [hb10]
                      have e9 : a.attrs = b.attrs := (y3 _ _).1 (by have e := hb10; simpa using e)
                      refine zO rfl rfl (zF rfl rfl xI rfl) <| zO rfl rfl (zG rfl rfl rfl tA31 tS31 rfl rfl) <| zO rfl rfl (zz rfl rfl Tryd.underlying31) <| zO rfl rfl (zF rfl rfl xI rfl) <| zO rfl rfl (zG rfl rfl rfl tA31 tS31 rfl rfl) <| zO rfl rfl (zz rfl rfl Tryd.underlying31) <| zO rfl rfl (s_neI rfl rfl rfl) <| g_u (zr rfl rfl rfl) <| g_u (zC rfl rfl) <| yL (t := 87) rfl ?_
                      rintro (hb11 | hb11)
                      · rw [hb11]
                        have q : ¬ a.events.length = b.events.length := by have e := qc.1 hb11; simp only [List.length_map] at e; omega
                        refine zI rfl rfl rfl <| zI rfl rfl rfl <| zI rfl rfl rfl <| zI rfl rfl rfl <| zI rfl rfl rfl <| zI rfl rfl rfl <| zI rfl rfl rfl <| g_u (zZ rfl rfl rfl) <| zH <| zA <| zg rfl <| zD <| zB <| g_u (zE rfl rfl) <| zH <| zA <| zQ <| zM ?_
                        exact ⟨⟨(rfl : toAV (Al.look _ _) = some _).trans (congrArg some (by (exact congrArg bv (by first | exact (decide_eq_false (fun e => q ⟨congrArg GSpan.code e, congrArg GSpan.note e⟩)).symm | exact (decide_eq_false (fun e => q (by rw [e]))).symm | exact (decide_eq_true (GSpan.ext' e0 e1 e2 e3 e4 e5 e6 e7 e9 (zy ge0 e10 (fun j hj => hev j (by omega))) (zy gl0 e11 (fun j hj => h4 j (by omega))) e8.1 e8.2)).symm)))), rfl⟩, trivial⟩
                      · rw [hb11]
                        have e10 : a.events.length = b.events.length := by have e := qd.1 hb11; simp only [List.length_map] at e; omega
                        refine zO rfl rfl (zF rfl rfl xk rfl) <| zO rfl rfl (zG rfl rfl rfl tA32 tS32 rfl rfl) <| zO rfl rfl (zz rfl rfl Tryd.underlying32) <| zO rfl rfl (zF rfl rfl xk rfl) <| zO rfl rfl (zG rfl rfl rfl tA32 tS32 rfl rfl) <| zO rfl rfl (zz rfl rfl Tryd.underlying32) <| zO rfl rfl (s_neI rfl rfl rfl) <| g_u (zr rfl rfl rfl) <| zH <| zA ?_
                        refine zV rfl (fun hb12 => ?_) (fun hb12 => ?_)
                        · have q : ¬ a.links.length = b.links.length := by have e := qc.1 hb12; simp only [List.length_map] at e; omega
                          refine zD <| zB <| g_u (zE rfl rfl) <| zH <| zA <| zQ <| zM ?_
                          exact ⟨⟨(rfl : toAV (Al.look _ _) = some _).trans (congrArg some (by (exact congrArg bv (by first | exact (decide_eq_false (fun e => q ⟨congrArg GSpan.code e, congrArg GSpan.note e⟩)).symm | exact (decide_eq_false (fun e => q (by rw [e]))).symm | exact (decide_eq_true (GSpan.ext' e0 e1 e2 e3 e4 e5 e6 e7 e9 (zy ge0 e10 (fun j hj => hev j (by omega))) (zy gl0 e11 (fun j hj => h4 j (by omega))) e8.1 e8.2)).symm)))), rfl⟩, trivial⟩
                        · have e11 : a.links.length = b.links.length := by have e := qd.1 hb12; simp only [List.length_map] at e; omega
                          refine zY <| zA <| zD <| zD <| zB <| g_u (zE rfl rfl) <| zH <| zA <| zT ?_
                          refine zq (fun i : Nat => [(2, .ptr 1002 0), (1002, .box 36 (.imm a.av)), (3, .ptr 1003 0), (1003, .box 36 (.imm b.av)), (5, .imm (iv (i : Int)))]) (fun i => (i ≤ a.events.length ∧ ∀ p, p < i → nth a.events p ge0 = nth b.events p ge0)) (fun i => a.events.length - i) (0) ?_ ⟨rfl, rfl, rfl, rfl, rfl, trivial⟩ ?_
                          · exact ⟨Nat.zero_le _, fun j h => absurd h (Nat.not_lt_zero _)⟩
                          · rintro i ⟨h1, h2⟩; (try dsimp only at h1 h2)
                            refine zD <| zD <| zB <| g_u (zC rfl rfl) <| g_u (zF rfl rfl xI rfl) <| g_u (zG rfl rfl rfl tA31 tS31 rfl rfl) <| g_u (zz rfl rfl Tryd.underlying31) <| g_u (yd rfl rfl rfl) <| zH <| zA ?_
                            refine zV rfl (fun hb13 => ?_) (fun hb13 => ?_)
                            · have hi : i < a.events.length := by have := of_decide_eq_true hb13; (try simp only [List.length_map] at this); omega
                              have hib : i < b.events.length := by omega
                              have hex := y_ GE.wt (vI hi)
                              have heq : (nthE a.events i).wt = 1 + (nthE a.events i).name.size + wtAs (nthE a.events i).attrs := rfl
                              refine zY <| zA <| zD <| zT <| zD <| yM y6 <| g_u (zF rfl rfl xI rfl) <| g_u (zG rfl rfl rfl tA31 tS31 rfl rfl) <| g_u (zC rfl rfl) ?_
                              refine g_u (zJ rfl rfl rfl Tryd.underlying31 tS66 (by omega) (ixE hi)) ?_
                              refine g_u (zN rfl rfl tA66 tS66 rfl rfl) <| g_u (zF rfl rfl xI rfl) <| g_u (zG rfl rfl rfl tA31 tS31 rfl rfl) <| g_u (zC rfl rfl) ?_
                              refine g_u (zJ rfl rfl rfl Tryd.underlying31 tS66 (by omega) (ixE hib)) ?_
                              refine g_u (zN rfl rfl tA66 tS66 rfl rfl) <| g_uG (z0 1006 rfl rfl rfl tZ66) rfl <| g_uG (z0 1007 rfl rfl rfl tZ66) rfl <| g_u (zX rfl rfl rfl tS66 rfl rfl) <| g_u (zX rfl rfl rfl tS66 rfl rfl) ?_
                              refine zH ⟨by kernel_rfl, ?_⟩
                              refine zA <| zD <| zB <| g_u (zF rfl rfl fa66_0 rfl) <| g_u (zG rfl rfl rfl tA29 tS29 rfl rfl) <| g_u (zF rfl rfl fa66_0 rfl) <| g_u (zG rfl rfl rfl tA29 tS29 rfl rfl) <| g_u (s_neI rfl rfl rfl) <| g_u (zC rfl rfl) <| yL (t := 118) rfl ?_
                              rintro (hb14 | hb14)
                              · rw [hb14]
                                have q : ¬ (nthE a.events i).time = (nthE b.events i).time := qc.1 hb14
                                refine zI rfl rfl rfl <| zI rfl rfl rfl <| zI rfl rfl rfl <| zI rfl rfl rfl <| zI rfl rfl rfl <| g_u (zZ rfl rfl rfl) <| g_u (zC rfl rfl) <| zI rfl rfl rfl <| zI rfl rfl rfl <| zI rfl rfl rfl <| zI rfl rfl rfl <| zI rfl rfl rfl <| zI rfl rfl rfl <| g_u (zZ rfl rfl rfl) <| zH <| zA <| zg rfl <| zD <| zB <| g_u (zE rfl rfl) <| zH <| zA <| zQ <| zp <| zM <| zM <| zp <| zM ?_
                                exact ⟨⟨(rfl : toAV (Al.look _ _) = some _).trans (congrArg some (by (exact congrArg bv (by first | exact (decide_eq_false (fun e => q ⟨congrArg GSpan.code e, congrArg GSpan.note e⟩)).symm | exact (decide_eq_false (fun e => q (by rw [e]))).symm | exact (decide_eq_true (GSpan.ext' e0 e1 e2 e3 e4 e5 e6 e7 e9 (zy ge0 e10 (fun j hj => hev j (by omega))) (zy gl0 e11 (fun j hj => h4 j (by omega))) e8.1 e8.2)).symm)))), rfl⟩, trivial⟩
                              · rw [hb14]
                                have f1 : (nthE a.events i).time = (nthE b.events i).time := qd.1 hb14
                                refine zO rfl rfl (zF rfl rfl fa66_1 rfl) <| zO rfl rfl (zG rfl rfl rfl tA9 tS9 rfl rfl) <| zO rfl rfl (zF rfl rfl fa66_1 rfl) <| zO rfl rfl (zG rfl rfl rfl tA9 tS9 rfl rfl) <| zO rfl rfl (s_neS rfl rfl rfl) <| g_u (zr rfl rfl rfl) <| g_u (zC rfl rfl) <| yL (t := 125) rfl ?_
                                rintro (hb15 | hb15)
                                · rw [hb15]
                                  have q : ¬ (nthE a.events i).name = (nthE b.events i).name := by have e := hb15; rw [yg] at e; simpa using e
                                  refine zI rfl rfl rfl <| zI rfl rfl rfl <| zI rfl rfl rfl <| zI rfl rfl rfl <| zI rfl rfl rfl <| zI rfl rfl rfl <| g_u (zZ rfl rfl rfl) <| zH <| zA <| zg rfl <| zD <| zB <| g_u (zE rfl rfl) <| zH <| zA <| zQ <| zp <| zM <| zM <| zp <| zM ?_
                                  exact ⟨⟨(rfl : toAV (Al.look _ _) = some _).trans (congrArg some (by (exact congrArg bv (by first | exact (decide_eq_false (fun e => q ⟨congrArg GSpan.code e, congrArg GSpan.note e⟩)).symm | exact (decide_eq_false (fun e => q (by rw [e]))).symm | exact (decide_eq_true (GSpan.ext' e0 e1 e2 e3 e4 e5 e6 e7 e9 (zy ge0 e10 (fun j hj => hev j (by omega))) (zy gl0 e11 (fun j hj => h4 j (by omega))) e8.1 e8.2)).symm)))), rfl⟩, trivial⟩
                                · rw [hb15]
                                  have f2 : (nthE a.events i).name = (nthE b.events i).name := by have e := hb15; rw [yg] at e; simpa using e
                                  refine zO rfl rfl (zF rfl rfl fa66_2 rfl) <| zO rfl rfl (zG rfl rfl rfl tA30 tS30 rfl rfl) <| zO rfl rfl (zF rfl rfl fa66_2 rfl) <| zO rfl rfl (zG rfl rfl rfl tA30 tS30 rfl rfl) ?_
                                  refine zO rfl rfl (zR (rsameAs_c _ _ (by omega)) rfl rfl) ?_
                                  refine zO rfl rfl (s_not rfl rfl) <| g_u (zr rfl rfl rfl) <| zH <| zA ?_
                                  refine zV rfl (fun hb16 => ?_) (fun hb16 => ?_)
                                  · have q : ¬ (nthE a.events i).attrs = (nthE b.events i).attrs := fun h => by have e := hb16; rw [h, sameAs_refl] at e; cases e
                                    refine zD <| zB <| g_u (zE rfl rfl) <| zH <| zA <| zQ <| zp <| zM <| zM <| zp <| zM ?_
                                    exact ⟨⟨(rfl : toAV (Al.look _ _) = some _).trans (congrArg some (by (exact congrArg bv (by first | exact (decide_eq_false (fun e => q ⟨congrArg GSpan.code e, congrArg GSpan.note e⟩)).symm | exact (decide_eq_false (fun e => q (by rw [e]))).symm | exact (decide_eq_true (GSpan.ext' e0 e1 e2 e3 e4 e5 e6 e7 e9 (zy ge0 e10 (fun j hj => hev j (by omega))) (zy gl0 e11 (fun j hj => h4 j (by omega))) e8.1 e8.2)).symm)))), rfl⟩, trivial⟩
                                  · have f3 : (nthE a.events i).attrs = (nthE b.events i).attrs := (y3 _ _).1 (by have e := hb16; simpa using e)
                                    refine zY <| zW <| zA <| zB <| g_u (zC rfl rfl) <| g_u (yK rfl rfl rfl) <| g_u (zE rfl rfl) <| zH <| zA ?_
                                    refine ⟨i + 1, ⟨hi, fun j hj => by rcases Nat.lt_or_ge j i with h | h; exact h2 j h; rw [show j = i by omega]; exact GE.ext' f1 f2 f3⟩, ⟨rfl, rfl, rfl, rfl, zd rfl (by rw [z_ (by omega) (by omega)]; rfl), trivial⟩, by (try dsimp only); omega⟩
                            · have hin : i = a.events.length := by have := of_decide_eq_false hb13; (try simp only [List.length_map] at this); omega
                              have hev : ∀ j, j < a.events.length → nth a.events j ge0 = nth b.events j ge0 := fun j hj => h2 j (by omega)
                              refine zt <| zP <| zP <| zj <| zA <| zD <| zD <| zB <| g_u (zE rfl rfl) <| zH <| zA <| zT ?_
                              refine zq (fun j : Nat => [(2, .ptr 1002 0), (1002, .box 36 (.imm a.av)), (3, .ptr 1003 0), (1003, .box 36 (.imm b.av)), (8, .imm (iv (j : Int)))]) (fun j => (j ≤ a.links.length ∧ ∀ p, p < j → nth a.links p gl0 = nth b.links p gl0)) (fun j => a.links.length - j) (0) ?_ ⟨rfl, rfl, rfl, rfl, rfl, trivial⟩ ?_
                              · exact ⟨Nat.zero_le _, fun j h => absurd h (Nat.not_lt_zero _)⟩
                              · rintro j ⟨h3, h4⟩; (try dsimp only at h3 h4)
                                refine zD <| zD <| zB <| g_u (zC rfl rfl) <| g_u (zF rfl rfl xk rfl) <| g_u (zG rfl rfl rfl tA32 tS32 rfl rfl) <| g_u (zz rfl rfl Tryd.underlying32) <| g_u (yd rfl rfl rfl) <| zH <| zA ?_
                                refine zV rfl (fun hb17 => ?_) (fun hb17 => ?_)
                                · have hj : j < a.links.length := by have := of_decide_eq_true hb17; (try simp only [List.length_map] at this); omega
                                  have hjb : j < b.links.length := by omega
                                  have hlx := y_ GL.wt (nthL_mem hj)
                                  have hlq : (nthL a.links j).wt = 1 + (nthL a.links j).state.size + wtAs (nthL a.links j).attrs := rfl
                                  refine zY <| zA <| zD <| zT <| zD <| yM y6 <| g_u (zF rfl rfl xk rfl) <| g_u (zG rfl rfl rfl tA32 tS32 rfl rfl) <| g_u (zC rfl rfl) ?_
                                  refine g_u (zJ rfl rfl rfl Tryd.underlying32 tS68 (by omega) (ixL hj)) ?_
                                  refine g_u (zN rfl rfl tA68 tS68 rfl (by first | exact wG (GL.width _) rfl | rfl)) ?_
                                  refine g_u (zF rfl rfl xk rfl) <| g_u (zG rfl rfl rfl tA32 tS32 rfl rfl) <| g_u (zC rfl rfl) ?_
                                  refine g_u (zJ rfl rfl rfl Tryd.underlying32 tS68 (by omega) (ixL hjb)) ?_
                                  refine g_u (zN rfl rfl tA68 tS68 rfl (by first | exact wG (GL.width _) rfl | rfl)) ?_
                                  refine g_uG (z0 1009 rfl rfl rfl tZ68) rfl <| g_uG (z0 1010 rfl rfl rfl tZ68) rfl ?_
                                  refine g_u (zX rfl rfl rfl tS68 (by first | exact beqW (GL.width _) | rfl) (by first | exact setS_w (z68_w.trans (GL.width _).symm) rfl | rfl)) ?_
                                  refine g_u (zX rfl rfl rfl tS68 (by first | exact beqW (GL.width _) | rfl) (by first | exact setS_w (z68_w.trans (GL.width _).symm) rfl | rfl)) ?_
                                  refine zH ⟨by kernel_rfl, ?_⟩
                                  refine zA <| zD <| zB <| g_u (zF rfl rfl fa68_0 rfl) <| g_u (yW rfl rfl rfl tA26 tS26 rfl rfl) <| g_u (zF rfl rfl fa68_0 rfl) <| g_u (yW rfl rfl rfl tA26 tS26 rfl rfl) <| g_u (s_neA rfl rfl rfl eg26 rfl rfl (eq26 _ _)) <| g_u (zC rfl rfl) <| yL (t := 155) rfl ?_
                                  rintro (hb18 | hb18)
                                  · rw [hb18]
                                    have q : ¬ (nthL a.links j).trace = (nthL b.links j).trace := by have e := hb18; simpa using e
                                    refine zI rfl rfl rfl <| zI rfl rfl rfl <| zI rfl rfl rfl <| zI rfl rfl rfl <| zI rfl rfl rfl <| g_u (zZ rfl rfl rfl) <| g_u (zC rfl rfl) <| zI rfl rfl rfl <| zI rfl rfl rfl <| zI rfl rfl rfl <| zI rfl rfl rfl <| zI rfl rfl rfl <| g_u (zZ rfl rfl rfl) <| g_u (zC rfl rfl) <| zI rfl rfl rfl <| zI rfl rfl rfl <| zI rfl rfl rfl <| zI rfl rfl rfl <| zI rfl rfl rfl <| zI rfl rfl rfl <| g_u (zZ rfl rfl rfl) <| zH <| zA <| zg rfl <| zD <| zB <| g_u (zE rfl rfl) <| zH <| zA <| zQ <| zp <| zM <| zM <| zp <| zM ?_
                                    exact ⟨⟨(rfl : toAV (Al.look _ _) = some _).trans (congrArg some (by (exact congrArg bv (by first | exact (decide_eq_false (fun e => q ⟨congrArg GSpan.code e, congrArg GSpan.note e⟩)).symm | exact (decide_eq_false (fun e => q (by rw [e]))).symm | exact (decide_eq_true (GSpan.ext' e0 e1 e2 e3 e4 e5 e6 e7 e9 (zy ge0 e10 (fun j hj => hev j (by omega))) (zy gl0 e11 (fun j hj => h4 j (by omega))) e8.1 e8.2)).symm)))), rfl⟩, trivial⟩
                                  · rw [hb18]
                                    have g1 : (nthL a.links j).trace = (nthL b.links j).trace := by have e := hb18; simpa using e
                                    refine zO rfl rfl (zF rfl rfl fa68_1 rfl) <| zO rfl rfl (zG rfl rfl rfl tA28 tS28 rfl rfl) <| zO rfl rfl (zF rfl rfl fa68_1 rfl) <| zO rfl rfl (zG rfl rfl rfl tA28 tS28 rfl rfl) <| zO rfl rfl (s_neA rfl rfl rfl eg28 rfl rfl (eq28 _ _)) <| g_u (zr rfl rfl rfl) <| g_u (zC rfl rfl) <| yL (t := 162) rfl ?_
                                    rintro (hb19 | hb19)
                                    · rw [hb19]
                                      have q : ¬ (nthL a.links j).span = (nthL b.links j).span := by have e := hb19; simpa using e
                                      refine zI rfl rfl rfl <| zI rfl rfl rfl <| zI rfl rfl rfl <| zI rfl rfl rfl <| zI rfl rfl rfl <| g_u (zZ rfl rfl rfl) <| g_u (zC rfl rfl) <| zI rfl rfl rfl <| zI rfl rfl rfl <| zI rfl rfl rfl <| zI rfl rfl rfl <| zI rfl rfl rfl <| zI rfl rfl rfl <| g_u (zZ rfl rfl rfl) <| zH <| zA <| zg rfl <| zD <| zB <| g_u (zE rfl rfl) <| zH <| zA <| zQ <| zp <| zM <| zM <| zp <| zM ?_
                                      exact ⟨⟨(rfl : toAV (Al.look _ _) = some _).trans (congrArg some (by (exact congrArg bv (by first | exact (decide_eq_false (fun e => q ⟨congrArg GSpan.code e, congrArg GSpan.note e⟩)).symm | exact (decide_eq_false (fun e => q (by rw [e]))).symm | exact (decide_eq_true (GSpan.ext' e0 e1 e2 e3 e4 e5 e6 e7 e9 (zy ge0 e10 (fun j hj => hev j (by omega))) (zy gl0 e11 (fun j hj => h4 j (by omega))) e8.1 e8.2)).symm)))), rfl⟩, trivial⟩
                                    · rw [hb19]
                                      have g2 : (nthL a.links j).span = (nthL b.links j).span := by have e := hb19; simpa using e
                                      refine zO rfl rfl (zF rfl rfl fa68_2 rfl) <| zO rfl rfl (zG rfl rfl rfl tA9 tS9 rfl rfl) <| zO rfl rfl (zF rfl rfl fa68_2 rfl) <| zO rfl rfl (zG rfl rfl rfl tA9 tS9 rfl rfl) <| zO rfl rfl (s_neS rfl rfl rfl) <| g_u (zr rfl rfl rfl) <| g_u (zC rfl rfl) <| yL (t := 169) rfl ?_
                                      rintro (hb20 | hb20)
                                      · rw [hb20]
                                        have q : ¬ (nthL a.links j).state = (nthL b.links j).state := by have e := hb20; rw [yg] at e; simpa using e
                                        refine zI rfl rfl rfl <| zI rfl rfl rfl <| zI rfl rfl rfl <| zI rfl rfl rfl <| zI rfl rfl rfl <| zI rfl rfl rfl <| g_u (zZ rfl rfl rfl) <| zH <| zA <| zg rfl <| zD <| zB <| g_u (zE rfl rfl) <| zH <| zA <| zQ <| zp <| zM <| zM <| zp <| zM ?_
                                        exact ⟨⟨(rfl : toAV (Al.look _ _) = some _).trans (congrArg some (by (exact congrArg bv (by first | exact (decide_eq_false (fun e => q ⟨congrArg GSpan.code e, congrArg GSpan.note e⟩)).symm | exact (decide_eq_false (fun e => q (by rw [e]))).symm | exact (decide_eq_true (GSpan.ext' e0 e1 e2 e3 e4 e5 e6 e7 e9 (zy ge0 e10 (fun j hj => hev j (by omega))) (zy gl0 e11 (fun j hj => h4 j (by omega))) e8.1 e8.2)).symm)))), rfl⟩, trivial⟩
                                      · rw [hb20]
                                        have g3 : (nthL a.links j).state = (nthL b.links j).state := by have e := hb20; rw [yg] at e; simpa using e
                                        refine zO rfl rfl (zF rfl rfl fa68_3 rfl) <| zO rfl rfl (zG rfl rfl rfl tA30 tS30 rfl rfl) <| zO rfl rfl (zF rfl rfl fa68_3 rfl) <| zO rfl rfl (zG rfl rfl rfl tA30 tS30 rfl rfl) ?_
                                        refine zO rfl rfl (zR (rsameAs_c _ _ (by omega)) rfl rfl) ?_
                                        refine zO rfl rfl (s_not rfl rfl) <| g_u (zr rfl rfl rfl) <| zH <| zA ?_
                                        refine zV rfl (fun hb21 => ?_) (fun hb21 => ?_)
                                        · have q : ¬ (nthL a.links j).attrs = (nthL b.links j).attrs := fun h => by have e := hb21; rw [h, sameAs_refl] at e; cases e
                                          refine zD <| zB <| g_u (zE rfl rfl) <| zH <| zA <| zQ <| zp <| zM <| zM <| zp <| zM ?_
                                          exact ⟨⟨(rfl : toAV (Al.look _ _) = some _).trans (congrArg some (by (exact congrArg bv (by first | exact (decide_eq_false (fun e => q ⟨congrArg GSpan.code e, congrArg GSpan.note e⟩)).symm | exact (decide_eq_false (fun e => q (by rw [e]))).symm | exact (decide_eq_true (GSpan.ext' e0 e1 e2 e3 e4 e5 e6 e7 e9 (zy ge0 e10 (fun j hj => hev j (by omega))) (zy gl0 e11 (fun j hj => h4 j (by omega))) e8.1 e8.2)).symm)))), rfl⟩, trivial⟩
                                        · have g4 : (nthL a.links j).attrs = (nthL b.links j).attrs := (y3 _ _).1 (by have e := hb21; simpa using e)
                                          refine zY <| zW <| zA <| zB <| g_u (zC rfl rfl) <| g_u (yK rfl rfl rfl) <| g_u (zE rfl rfl) <| zH <| zA ?_
                                          refine ⟨j + 1, ⟨hj, fun p hp => by rcases Nat.lt_or_ge p j with h | h; exact h4 p h; rw [show p = j by omega]; exact GL.ext' g1 g2 g3 g4⟩, ⟨rfl, rfl, rfl, rfl, zd rfl (by rw [z_ (by omega) (by omega)]; rfl), trivial⟩, by (try dsimp only); omega⟩
                                · have hjn : j = a.links.length := by have := of_decide_eq_false hb17; (try simp only [List.length_map] at this); omega
                                  refine zt <| zP <| zP <| zj <| zA <| zD <| zB <| g_u (zE rfl rfl) <| zH <| zA <| zQ ?_
                                  exact ⟨⟨(rfl : toAV (Al.look _ _) = some _).trans (congrArg some (by (exact congrArg bv (by first | exact (decide_eq_false (fun e => q ⟨congrArg GSpan.code e, congrArg GSpan.note e⟩)).symm | exact (decide_eq_false (fun e => q (by rw [e]))).symm | exact (decide_eq_true (GSpan.ext' e0 e1 e2 e3 e4 e5 e6 e7 e9 (zy ge0 e10 (fun j hj => hev j (by omega))) (zy gl0 e11 (fun j hj => h4 j (by omega))) e8.1 e8.2)).symm)))), rfl⟩, trivial⟩
set_option maxHeartbeats 2000000 in
theorem rsameCs_c (a b : List GScope) (hw : zw GScope.wt a ≤ 1000000000) : zo Tryd.prog Γ0 28 [.sl 3 (a.map GScope.av), .sl 3 (b.map GScope.av)] [bv (decide (a = b))] := by
  have ql := yn GScope.wt (fun e => by unfold GScope.wt; omega) a
  refine zf Tryd.func28 rfl Tryd.ntmps28 (by kernel_rfl) rfl fun w0 I0 G0 => ?_
  refine zD <| zB <| g_u (zE rfl rfl) <| zH <| zA <| zD <| zD <| zB <| g_u (zC rfl rfl) <| g_u (zz rfl rfl Tryd.underlying59) <| g_u (zC rfl rfl) <| g_u (zz rfl rfl Tryd.underlying59) <| g_u (s_neI rfl rfl rfl) <| zH <| zA ?_
  refine zV rfl (fun hb1 => ?_) (fun hb1 => ?_)
  · have q : ¬ a.length = b.length := by have e := qc.1 hb1; simp only [List.length_map] at e; omega
    refine zD <| zB <| g_u (zE rfl rfl) <| zH <| zA <| zQ <| zM ?_
    exact ⟨⟨(rfl : toAV (Al.look _ _) = some _).trans (congrArg some (by (exact congrArg bv (by first | exact (decide_eq_false (fun e => q (by rw [e]))).symm | exact (decide_eq_true (zy gc0 el (fun j hj => h2 j (by omega)))).symm)))), rfl⟩, trivial⟩
  · have el : a.length = b.length := by have e := qd.1 hb1; simp only [List.length_map] at e; omega
    refine zY <| zA <| zD <| zD <| zB <| g_u (zE rfl rfl) <| zH <| zA <| zT ?_
    refine zq (fun i : Nat => [(0, .imm (.sl 3 (a.map GScope.av))), (1, .imm (.sl 3 (b.map GScope.av))), (5, .imm (iv (i : Int)))]) (fun i => (i ≤ a.length ∧ ∀ p, p < i → nth a p gc0 = nth b p gc0)) (fun i => a.length - i) (0) ?_ ⟨rfl, rfl, rfl, trivial⟩ ?_
    · exact ⟨Nat.zero_le _, fun j h => absurd h (Nat.not_lt_zero _)⟩
    · rintro i ⟨h1, h2⟩; (try dsimp only at h1 h2)
      refine zD <| zD <| zB <| g_u (zC rfl rfl) <| g_u (zC rfl rfl) <| g_u (zz rfl rfl Tryd.underlying59) <| g_u (yd rfl rfl rfl) <| zH <| zA ?_
      refine zV rfl (fun hb2 => ?_) (fun hb2 => ?_)
      · have hi : i < a.length := by have := of_decide_eq_true hb2; (try simp only [List.length_map] at this); omega
        have hib : i < b.length := by omega
        have hcx := y_ GScope.wt (nthC_mem hi)
        have hcq : (nthC a i).wt = 1 + (nthC a i).name.size + (nthC a i).version.size + zw GSpan.wt (nthC a i).spans := rfl
        have hsl := yn GSpan.wt (fun e => by unfold GSpan.wt; omega) (nthC a i).spans
        refine zY <| zA <| zD <| zT <| zD <| zD <| yM y6 <| g_u (zC rfl rfl) <| g_u (zC rfl rfl) ?_
        refine g_u (zJ rfl rfl rfl Tryd.underlying59 tS64 (by omega) (ixC hi)) ?_
        refine g_u (zL rfl rfl fa64_0 rfl rfl) <| g_u (zN rfl rfl tA9 tS9 rfl rfl) <| g_u (zC rfl rfl) <| g_u (zC rfl rfl) ?_
        refine g_u (zJ rfl rfl rfl Tryd.underlying59 tS64 (by omega) (ixC hib)) ?_
        refine g_u (zL rfl rfl fa64_0 rfl rfl) <| g_u (zN rfl rfl tA9 tS9 rfl rfl) <| g_u (s_neS rfl rfl rfl) <| g_u (zC rfl rfl) <| yL (t := 29) rfl ?_
        rintro (hb3 | hb3)
        · rw [hb3]
          have q : ¬ (nthC a i).name = (nthC b i).name := by have e := hb3; rw [yg] at e; simpa using e
          refine zI rfl rfl rfl <| zI rfl rfl rfl <| zI rfl rfl rfl <| zI rfl rfl rfl <| zI rfl rfl rfl <| zI rfl rfl rfl <| zI rfl rfl rfl <| zI rfl rfl rfl <| zI rfl rfl rfl <| zI rfl rfl rfl <| zI rfl rfl rfl <| g_u (zZ rfl rfl rfl) <| g_u (zC rfl rfl) <| zI rfl rfl rfl <| zI rfl rfl rfl <| zI rfl rfl rfl <| zI rfl rfl rfl <| zI rfl rfl rfl <| zI rfl rfl rfl <| zI rfl rfl rfl <| zI rfl rfl rfl <| zI rfl rfl rfl <| zI rfl rfl rfl <| zI rfl rfl rfl <| zI rfl rfl rfl <| zI rfl rfl rfl <| g_u (zZ rfl rfl rfl) ?_
          refine zH ⟨by kernel_rfl, ?_⟩
          refine zA <| zg rfl <| zD <| zB <| g_u (zE rfl rfl) <| zH <| zA <| zQ <| zM <| zp <| zM <| zM <| zp <| zM ?_
          exact ⟨⟨(rfl : toAV (Al.look _ _) = some _).trans (congrArg some (by (exact congrArg bv (by first | exact (decide_eq_false (fun e => q (by rw [e]))).symm | exact (decide_eq_true (zy gc0 el (fun j hj => h2 j (by omega)))).symm)))), rfl⟩, trivial⟩
        · rw [hb3]
          have f1 : (nthC a i).name = (nthC b i).name := by have e := hb3; rw [yg] at e; simpa using e
          refine zO rfl rfl (zC rfl rfl) <| zO rfl rfl (zC rfl rfl) ?_
          refine zO rfl rfl (zJ rfl rfl rfl Tryd.underlying59 tS64 (by omega) (ixC hi)) ?_
          refine zO rfl rfl (zL rfl rfl fa64_1 rfl rfl) <| zO rfl rfl (zN rfl rfl tA9 tS9 rfl rfl) <| zO rfl rfl (zC rfl rfl) <| zO rfl rfl (zC rfl rfl) ?_
          refine zO rfl rfl (zJ rfl rfl rfl Tryd.underlying59 tS64 (by omega) (ixC hib)) ?_
          refine zO rfl rfl (zL rfl rfl fa64_1 rfl rfl) <| zO rfl rfl (zN rfl rfl tA9 tS9 rfl rfl) <| zO rfl rfl (s_neS rfl rfl rfl) <| g_u (zr rfl rfl rfl) <| g_u (zC rfl rfl) <| yL (t := 42) rfl ?_
          rintro (hb4 | hb4)
          · rw [hb4]
            have q : ¬ (nthC a i).version = (nthC b i).version := by have e := hb4; rw [yg] at e; simpa using e
            refine zI rfl rfl rfl <| zI rfl rfl rfl <| zI rfl rfl rfl <| zI rfl rfl rfl <| zI rfl rfl rfl <| zI rfl rfl rfl <| zI rfl rfl rfl <| zI rfl rfl rfl <| zI rfl rfl rfl <| zI rfl rfl rfl <| zI rfl rfl rfl <| zI rfl rfl rfl <| zI rfl rfl rfl <| g_u (zZ rfl rfl rfl) ?_
            refine zH ⟨by kernel_rfl, ?_⟩
            refine zA <| zg rfl <| zD <| zB <| g_u (zE rfl rfl) <| zH <| zA <| zQ <| zM <| zp <| zM <| zM <| zp <| zM ?_
            exact ⟨⟨(rfl : toAV (Al.look _ _) = some _).trans (congrArg some (by (exact congrArg bv (by first | exact (decide_eq_false (fun e => q (by rw [e]))).symm | exact (decide_eq_true (zy gc0 el (fun j hj => h2 j (by omega)))).symm)))), rfl⟩, trivial⟩
          · rw [hb4]
            have f2 : (nthC a i).version = (nthC b i).version := by have e := hb4; rw [yg] at e; simpa using e
            refine zO rfl rfl (zC rfl rfl) <| zO rfl rfl (zC rfl rfl) ?_
            refine zO rfl rfl (zJ rfl rfl rfl Tryd.underlying59 tS64 (by omega) (ixC hi)) ?_
            refine zO rfl rfl (zL rfl rfl fa64_2 rfl rfl) <| zO rfl rfl (zN rfl rfl tA44 tS44 rfl rfl) <| zO rfl rfl (zz rfl rfl Tryd.underlying44) <| zO rfl rfl (zC rfl rfl) <| zO rfl rfl (zC rfl rfl) ?_
            refine zO rfl rfl (zJ rfl rfl rfl Tryd.underlying59 tS64 (by omega) (ixC hib)) ?_
            refine zO rfl rfl (zL rfl rfl fa64_2 rfl rfl) <| zO rfl rfl (zN rfl rfl tA44 tS44 rfl rfl) <| zO rfl rfl (zz rfl rfl Tryd.underlying44) <| zO rfl rfl (s_neI rfl rfl rfl) <| g_u (zr rfl rfl rfl) ?_
            refine zH ⟨by kernel_rfl, ?_⟩
            refine zA ?_
            refine zV rfl (fun hb5 => ?_) (fun hb5 => ?_)
            · have q : ¬ (nthC a i).spans.length = (nthC b i).spans.length := by have e := qc.1 hb5; simp only [List.length_map] at e; omega
              refine zD <| zB <| g_u (zE rfl rfl) <| zH <| zA <| zQ <| zM <| zp <| zM <| zM <| zp <| zM ?_
              exact ⟨⟨(rfl : toAV (Al.look _ _) = some _).trans (congrArg some (by (exact congrArg bv (by first | exact (decide_eq_false (fun e => q (by rw [e]))).symm | exact (decide_eq_true (zy gc0 el (fun j hj => h2 j (by omega)))).symm)))), rfl⟩, trivial⟩
            · have f3 : (nthC a i).spans.length = (nthC b i).spans.length := by have e := qd.1 hb5; simp only [List.length_map] at e; omega
              refine zY <| zA <| zD <| zB <| g_u (zE rfl rfl) <| zH <| zA <| zT ?_
              refine zq (fun m : Nat => [(0, .imm (.sl 3 (a.map GScope.av))), (1, .imm (.sl 3 (b.map GScope.av))), (5, .imm (iv (i : Int))), (6, .imm (iv (m : Int)))]) (fun m => (m ≤ (nthC a i).spans.length ∧ ∀ p, p < m → nth (nthC a i).spans p gs0 = nth (nthC b i).spans p gs0)) (fun m => (nthC a i).spans.length - m) (0) ?_ ⟨rfl, rfl, rfl, rfl, trivial⟩ ?_
              · exact ⟨Nat.zero_le _, fun j h => absurd h (Nat.not_lt_zero _)⟩
              · rintro m ⟨h3, h4⟩; (try dsimp only at h3 h4)
                refine zD <| zD <| zB <| g_u (zC rfl rfl) <| g_u (zC rfl rfl) <| g_u (zC rfl rfl) ?_
                refine g_u (zJ rfl rfl rfl Tryd.underlying59 tS64 (by omega) (ixC hi)) ?_
                refine g_u (zL rfl rfl fa64_2 rfl rfl) <| g_u (zN rfl rfl tA44 tS44 rfl rfl) <| g_u (zz rfl rfl Tryd.underlying44) <| g_u (yd rfl rfl rfl) <| zH <| zA ?_
                refine zV rfl (fun hb6 => ?_) (fun hb6 => ?_)
                · have hm : m < (nthC a i).spans.length := by have := of_decide_eq_true hb6; (try simp only [List.length_map] at this); omega
                  have hmb : m < (nthC b i).spans.length := by omega
                  have hsx := y_ GSpan.wt (nthS_mem hm)
                  refine zY <| zA <| zD <| zT <| zD <| yM y6 <| g_u (zC rfl rfl) <| g_u (zC rfl rfl) ?_
                  refine g_u (zJ rfl rfl rfl Tryd.underlying59 tS64 (by omega) (ixC hi)) ?_
                  refine g_u (zL rfl rfl fa64_2 rfl rfl) <| g_u (zN rfl rfl tA44 tS44 rfl rfl) <| g_u (zC rfl rfl) ?_
                  refine g_u (zJ rfl rfl rfl Tryd.underlying44 tS36 (by omega) (ixS hm)) ?_
                  refine g_u (zN rfl rfl tA36 tS36 rfl (by first | exact wG (GSpan.width _) rfl | rfl)) ?_
                  refine g_u (zC rfl rfl) <| g_u (zC rfl rfl) ?_
                  refine g_u (zJ rfl rfl rfl Tryd.underlying59 tS64 (by omega) (ixC hib)) ?_
                  refine g_u (zL rfl rfl fa64_2 rfl rfl) <| g_u (zN rfl rfl tA44 tS44 rfl rfl) <| g_u (zC rfl rfl) ?_
                  refine g_u (zJ rfl rfl rfl Tryd.underlying44 tS36 (by omega) (ixS hmb)) ?_
                  refine g_u (zN rfl rfl tA36 tS36 rfl (by first | exact wG (GSpan.width _) rfl | rfl)) ?_
                  refine g_u (zR (rsameS_c _ _ (by omega)) rfl rfl) ?_
                  refine g_u (s_not rfl rfl) ?_
                  refine zH ⟨by kernel_rfl, ?_⟩
                  refine zA ?_
                  refine zV rfl (fun hb7 => ?_) (fun hb7 => ?_)
                  · have q : ¬ (nthS (nthC a i).spans m) = (nthS (nthC b i).spans m) := fun h => by have e := hb7; rw [decide_eq_true h] at e; cases e
                    refine zD <| zB <| g_u (zE rfl rfl) <| zH <| zA <| zQ <| zp <| zM <| zM <| zp <| zp <| zM <| zM <| zp <| zM ?_
                    exact ⟨⟨(rfl : toAV (Al.look _ _) = some _).trans (congrArg some (by (exact congrArg bv (by first | exact (decide_eq_false (fun e => q (by rw [e]))).symm | exact (decide_eq_true (zy gc0 el (fun j hj => h2 j (by omega)))).symm)))), rfl⟩, trivial⟩
                  · have f4 : (nthS (nthC a i).spans m) = (nthS (nthC b i).spans m) := by have e := hb7; simpa using e
                    refine zY <| zW <| zA <| zB <| g_u (zC rfl rfl) <| g_u (yK rfl rfl rfl) <| g_u (zE rfl rfl) <| zH <| zA ?_
                    refine ⟨m + 1, ⟨hm, fun p hp => by rcases Nat.lt_or_ge p m with h | h; exact h4 p h; rw [show p = m by omega]; exact f4⟩, ⟨rfl, rfl, rfl, zd rfl (by rw [z_ (by omega) (by omega)]; rfl), trivial⟩, by (try dsimp only); omega⟩
                · have hmn : m = (nthC a i).spans.length := by have := of_decide_eq_false hb6; (try simp only [List.length_map] at this); omega
                  refine zt <| zP <| zP <| zj <| zW <| zA <| zB <| g_u (zC rfl rfl) <| g_u (yK rfl rfl rfl) <| g_u (zE rfl rfl) <| zH <| zA ?_
                  refine ⟨i + 1, ⟨hi, fun j hj => by rcases Nat.lt_or_ge j i with h | h; exact h2 j h; rw [show j = i by omega]; exact GScope.ext' f1 f2 (show (nthC a i).spans = (nthC b i).spans from zy gs0 f3 (fun j hj => h4 j (by omega)))⟩, ⟨rfl, rfl, zd rfl (by rw [z_ (by omega) (by omega)]; rfl), trivial⟩, by (try dsimp only); omega⟩
      · have hin : i = a.length := by have := of_decide_eq_false hb2; (try simp only [List.length_map] at this); omega
        refine zt <| zP <| zP <| zj <| zA <| zD <| zB <| g_u (zE rfl rfl) <| zH <| zA <| zQ ?_
        exact ⟨⟨(rfl : toAV (Al.look _ _) = some _).trans (congrArg some (by (exact congrArg bv (by first | exact (decide_eq_false (fun e => q (by rw [e]))).symm | exact (decide_eq_true (zy gc0 el (fun j hj => h2 j (by omega)))).symm)))), rfl⟩, trivial⟩
set_option maxHeartbeats 2000000 in
theorem rsameB_c (a b : List GRes) (hw : wtB a ≤ 1000000000) : zo Tryd.prog Γ0 12 [yV a, yV b] [bv (decide (a = b))] := by
  have ql := yn GRes.wt (fun e => by unfold GRes.wt; omega) a
  have qw : wtB a = zw GRes.wt a := rfl
  refine zf Tryd.func12 rfl Tryd.ntmps12 (by kernel_rfl) rfl fun w0 I0 G0 => ?_
  refine zD <| zB <| g_uG (zn 1002 rfl rfl rfl rfl) rfl <| g_uG (zn 1003 rfl rfl rfl rfl) rfl <| g_u (zE rfl rfl) <| zH <| zA <| zD <| zD <| zB <| g_u (zF rfl rfl xA rfl) <| g_u (zG rfl rfl rfl tA22 tS22 rfl rfl) <| g_u (zz rfl rfl Tryd.underlying22) <| g_u (zF rfl rfl xA rfl) <| g_u (zG rfl rfl rfl tA22 tS22 rfl rfl) <| g_u (zz rfl rfl Tryd.underlying22) <| g_u (s_neI rfl rfl rfl) <| zH <| zA ?_
  refine zV rfl (fun hb1 => ?_) (fun hb1 => ?_)
  · have q : ¬ a.length = b.length := by have e := qc.1 hb1; simp only [List.length_map] at e; omega
    refine zD <| zB <| g_u (zE rfl rfl) <| zH <| zA <| zQ <| zM ?_
    exact ⟨⟨(rfl : toAV (Al.look _ _) = some _).trans (congrArg some (by (exact congrArg bv (by first | exact (decide_eq_false (fun e => q (by rw [e]))).symm | exact (decide_eq_true (zy gr0 el (fun j hj => h2 j (by omega)))).symm)))), rfl⟩, trivial⟩
  · have el : a.length = b.length := by have e := qd.1 hb1; simp only [List.length_map] at e; omega
    refine zY <| zA <| zD <| zD <| zB <| g_u (zE rfl rfl) <| zH <| zA <| zT ?_
    refine zq (fun i : Nat => [(2, .ptr 1002 0), (1002, .box 24 (.imm (yV a))), (3, .ptr 1003 0), (1003, .box 24 (.imm (yV b))), (5, .imm (iv (i : Int)))]) (fun i => (i ≤ a.length ∧ ∀ p, p < i → nth a p gr0 = nth b p gr0)) (fun i => a.length - i) (0) ?_ ⟨rfl, rfl, rfl, rfl, rfl, trivial⟩ ?_
    · exact ⟨Nat.zero_le _, fun j h => absurd h (Nat.not_lt_zero _)⟩
    · rintro i ⟨h1, h2⟩; (try dsimp only at h1 h2)
      refine zD <| zD <| zB <| g_u (zC rfl rfl) <| g_u (zF rfl rfl xA rfl) <| g_u (zG rfl rfl rfl tA22 tS22 rfl rfl) <| g_u (zz rfl rfl Tryd.underlying22) <| g_u (yd rfl rfl rfl) <| zH <| zA ?_
      refine zV rfl (fun hb2 => ?_) (fun hb2 => ?_)
      · have hi : i < a.length := by have := of_decide_eq_true hb2; (try simp only [List.length_map] at this); omega
        have hib : i < b.length := by omega
        have hrx := y_ GRes.wt (wd hi)
        have hrq : (nthR a i).wt = 1 + wtAs (nthR a i).attrs + zw GScope.wt (nthR a i).scopes := rfl
        refine zY <| zA <| zD <| zT <| zD <| yM y6 <| g_u (zF rfl rfl xA rfl) <| g_u (zG rfl rfl rfl tA22 tS22 rfl rfl) <| g_u (zC rfl rfl) ?_
        refine g_u (zJ rfl rfl rfl Tryd.underlying22 tS61 (by omega) (ixR hi)) ?_
        refine g_u (zL rfl rfl fa61_0 rfl rfl) <| g_u (zN rfl rfl tA30 tS30 rfl rfl) <| g_u (zF rfl rfl xA rfl) <| g_u (zG rfl rfl rfl tA22 tS22 rfl rfl) <| g_u (zC rfl rfl) ?_
        refine g_u (zJ rfl rfl rfl Tryd.underlying22 tS61 (by omega) (ixR hib)) ?_
        refine g_u (zL rfl rfl fa61_0 rfl rfl) <| g_u (zN rfl rfl tA30 tS30 rfl rfl) ?_
        refine g_u (zR (rsameAs_c _ _ (by omega)) rfl rfl) ?_
        refine g_u (s_not rfl rfl) <| g_u (zC rfl rfl) <| yL (t := 34) rfl ?_
        rintro (hb3 | hb3)
        · rw [hb3]
          have q : ¬ (nthR a i).attrs = (nthR b i).attrs := fun h => by have e := hb3; rw [h, sameAs_refl] at e; cases e
          refine zI rfl rfl rfl <| zI rfl rfl rfl <| zI rfl rfl rfl <| zI rfl rfl rfl <| zI rfl rfl rfl <| zI rfl rfl rfl <| zI rfl rfl rfl <| zI rfl rfl rfl <| zI rfl rfl rfl <| zI rfl rfl rfl <| zI rfl rfl rfl <| zI rfl rfl rfl <| zI rfl rfl rfl <| zI rfl rfl rfl <| g_u (zZ rfl rfl rfl) ?_
          refine zH ⟨by kernel_rfl, ?_⟩
          refine zA <| zg rfl <| zD <| zB <| g_u (zE rfl rfl) <| zH <| zA <| zQ <| zp <| zM <| zM <| zp <| zM ?_
          exact ⟨⟨(rfl : toAV (Al.look _ _) = some _).trans (congrArg some (by (exact congrArg bv (by first | exact (decide_eq_false (fun e => q (by rw [e]))).symm | exact (decide_eq_true (zy gr0 el (fun j hj => h2 j (by omega)))).symm)))), rfl⟩, trivial⟩
        · rw [hb3]
          have f1 : (nthR a i).attrs = (nthR b i).attrs := (y3 _ _).1 (by have e := hb3; simpa using e)
          refine zO rfl rfl (zF rfl rfl xA rfl) <| zO rfl rfl (zG rfl rfl rfl tA22 tS22 rfl rfl) <| zO rfl rfl (zC rfl rfl) ?_
          refine zO rfl rfl (zJ rfl rfl rfl Tryd.underlying22 tS61 (by omega) (ixR hi)) ?_
          refine zO rfl rfl (zL rfl rfl wX rfl rfl) <| zO rfl rfl (zN rfl rfl tA59 tS59 rfl rfl) <| zO rfl rfl (zF rfl rfl xA rfl) <| zO rfl rfl (zG rfl rfl rfl tA22 tS22 rfl rfl) <| zO rfl rfl (zC rfl rfl) ?_
          refine zO rfl rfl (zJ rfl rfl rfl Tryd.underlying22 tS61 (by omega) (ixR hib)) ?_
          refine zO rfl rfl (zL rfl rfl wX rfl rfl) <| zO rfl rfl (zN rfl rfl tA59 tS59 rfl rfl) ?_
          refine zO rfl rfl (zR (rsameCs_c _ _ (by omega)) rfl rfl) ?_
          refine zO rfl rfl (s_not rfl rfl) <| g_u (zr rfl rfl rfl) ?_
          refine zH ⟨by kernel_rfl, ?_⟩
          refine zA ?_
          refine zV rfl (fun hb4 => ?_) (fun hb4 => ?_)
          · have q : ¬ (nthR a i).scopes = (nthR b i).scopes := fun h => by have e := hb4; rw [decide_eq_true h] at e; cases e
            refine zD <| zB <| g_u (zE rfl rfl) <| zH <| zA <| zQ <| zp <| zM <| zM <| zp <| zM ?_
            exact ⟨⟨(rfl : toAV (Al.look _ _) = some _).trans (congrArg some (by (exact congrArg bv (by first | exact (decide_eq_false (fun e => q (by rw [e]))).symm | exact (decide_eq_true (zy gr0 el (fun j hj => h2 j (by omega)))).symm)))), rfl⟩, trivial⟩
          · have f2 : (nthR a i).scopes = (nthR b i).scopes := by have e := hb4; simpa using e
            refine zY <| zW <| zA <| zB <| g_u (zC rfl rfl) <| g_u (yK rfl rfl rfl) <| g_u (zE rfl rfl) <| zH <| zA ?_
            refine ⟨i + 1, ⟨hi, fun j hj => by rcases Nat.lt_or_ge j i with h | h; exact h2 j h; rw [show j = i by omega]; exact GRes.ext' f1 f2⟩, ⟨rfl, rfl, rfl, rfl, zd rfl (by rw [z_ (by omega) (by omega)]; rfl), trivial⟩, by (try dsimp only); omega⟩
      · have hin : i = a.length := by have := of_decide_eq_false hb2; (try simp only [List.length_map] at this); omega
        refine zt <| zP <| zP <| zj <| zA <| zD <| zB <| g_u (zE rfl rfl) <| zH <| zA <| zQ ?_
        exact ⟨⟨(rfl : toAV (Al.look _ _) = some _).trans (congrArg some (by (exact congrArg bv (by first | exact (decide_eq_false (fun e => q (by rw [e]))).symm | exact (decide_eq_true (zy gr0 el (fun j hj => h2 j (by omega)))).symm)))), rfl⟩, trivial⟩
end Go.Proofs
namespace Go.Al
open Go.RowKit
theorem up_bytes {l : List UInt8} {n : Nat} (h : l.length = n) : Up (.agg (zl l)) (.arr n l) := by
  have hw : ∀ x ∈ zl l, x.width = 1 := W1.bytes l
  refine ⟨rfl, ?_, fun w I c r => ?_⟩
  · have key : ∀ l : List UInt8, AV.widths (zl l) = l.length := by
      intro l
      induction l with
      | nil => rfl
      | cons b l ih => simp only [zl, List.map_cons, AV.widths, List.length_cons] at ih ⊢; rw [ih]; simp only [AV.width, wa, Value.cells]; show 1 + _ = _; omega
    show n = AV.widths (zl l)
    rw [key, h]
  · simp only [RepC] at r ⊢
    exact ⟨repE_bytes_inv l c ((repCs_E (n := 1) hw).1 r), h⟩
end Go.Al
namespace Go.Proofs
open Go Go.Al
set_option maxRecDepth 10000
theorem tV26 : yr Tryd.prog 26 (.agg (List.replicate 16 (.v (.int .u8 0)))) := ⟨.agg #[.int .u8 0, .int .u8 0, .int .u8 0, .int .u8 0, .int .u8 0, .int .u8 0, .int .u8 0, .int .u8 0, .int .u8 0, .int .u8 0, .int .u8 0, .int .u8 0, .int .u8 0, .int .u8 0, .int .u8 0, .int .u8 0], by kernel_rfl, by kernel_rfl⟩
theorem tV28 : yr Tryd.prog 28 (.agg (List.replicate 8 (.v (.int .u8 0)))) := ⟨.agg #[.int .u8 0, .int .u8 0, .int .u8 0, .int .u8 0, .int .u8 0, .int .u8 0, .int .u8 0, .int .u8 0], by kernel_rfl, by kernel_rfl⟩
end Go.Proofs
namespace Go.Al
open Go.RowKit
theorem SimG.turnOG {C : Cx} {A : Nat → SV} {G : Gh} {a : Act} {w : World} (S : SimG C A G a w) {g : Nat} {X' : SV} {o' : Obj}
    (how : Owned C.w0 C.E w (G.blk g)) (hni : ∀ o, ¬ G.I (G.blk g) o) (hown : zh G g (G.blk g) (A g)) (hown' : ∀ b, zh G g b X' → G.blk g = b)
    (hnew : Le w G.I (yP w (G.blk g) o') G.I → Holds C.w0 C.E G a (yP w (G.blk g) o') g X') :
    SimG C (upd A [(g, X')]) G a (yP w (G.blk g) o') := by
  have hlt : G.blk g < w.heap.size := how.2
  have hle : Le w G.I (yP w (G.blk g) o') G.I := fun b o h => ⟨h, by
    have : b ≠ G.blk g := by rintro rfl; exact hni o h
    exact yt (y9 this)⟩
  have hu : ∀ k, upd A [(g, X')] k = if k = g then X' else A k := xQ A g X'
  have conv : ∀ k b, zh G k b (upd A [(g, X')] k) → zh G k b (A k) := by
    intro k b h
    rw [hu] at h
    split at h
    · rename_i hk; subst hk; have := hown' b h; rw [← this]; exact hown
    · exact h
  refine ⟨S.os, S.tape, S.output, by rw [yQ]; exact S.size, fun k h1 h2 => ?_, S.sub.trans hle, S.rel, S.glob.mono hle, S.new, fun b o h => by rw [yQ]; exact S.val b o h, S.nts, S.dfs, fun k => ?_, fun k j b hkj h1 h2 => S.apart k j b hkj (conv k b h1) (conv j b h2)⟩
  · have : k ≠ G.blk g := by
      rintro rfl
      rcases how.1 with h | h
      · omega
      · exact h2 h
    rw [y9 this]; exact S.block k h1 h2
  · rw [hu]
    split
    · rename_i hk; subst hk; exact hnew hle
    · rename_i hk
      refine (S.holds k).keep hle (GRel.refl G) (xR.1 _) (by rw [yQ]; exact Nat.le_refl _) (fun h => ⟨h, rfl⟩) (fun _ => ⟨rfl, rfl, rfl⟩) (fun b hb => ⟨?_, fun _ h => h⟩)
      have : b ≠ G.blk g := by
        rintro rfl
        exact S.apart k g (G.blk g) hk hb hown
      exact y9 this
theorem SimG.turnO {C : Cx} {A : Nat → SV} {G : Gh} {a : Act} {w : World} (S : SimG C A G a w) {g : Nat} {X' : SV} {o' : Obj}
    (how : Owned C.w0 C.E w (G.blk g)) (hni : ∀ o, ¬ G.I (G.blk g) o) (hown : zh G g (G.blk g) (A g)) (hown' : ∀ b, zh G g b X' → G.blk g = b)
    (hnew : Le w G.I (yP w (G.blk g) o') G.I → Holds C.w0 C.E G a (yP w (G.blk g) o') g X') :
    Sim C (upd A [(g, X')]) a (yP w (G.blk g) o') := ⟨G, S.turnOG how hni hown hown' hnew⟩
def mfind : List ByteArray → ByteArray → Nat → Option Nat
  | [], _, _ => none
  | x :: xs, s, i => if s = x then some i else mfind xs s (i + 1)
def strs (l : List ByteArray) : List AV := l.map fun s => .v (.string s)
def mputK (l : List ByteArray) (s : ByteArray) : List ByteArray := match mfind l s 0 with | some _ => l | none => l ++ [s]
def mputV (l : List ByteArray) (vs : List AV) (s : ByteArray) (v : AV) : List AV := match mfind l s 0 with | some i => vs.set i v | none => vs ++ [v]
theorem mfind_lt : ∀ {l : List ByteArray} {s : ByteArray} {i j : Nat}, mfind l s i = some j → i ≤ j ∧ j < i + l.length
  | x :: xs, s, i, j, h => by
    rw [mfind] at h
    split at h
    · cases h; simp
    · have := mfind_lt h; simp; omega
theorem mfind_get : ∀ {l : List ByteArray} {s : ByteArray} {i j : Nat}, mfind l s i = some j → l[j - i]? = some s
  | x :: xs, s, i, j, h => by
    rw [mfind] at h
    split at h
    · rename_i hs; cases h; simp [hs]
    · have h1 := mfind_lt h
      have h2 := mfind_get h
      rw [show j - i = (j - (i + 1)) + 1 by omega, List.getElem?_cons_succ]; exact h2
theorem repVs_strs {w : World} {I : Nat → Nat → Prop} : ∀ {l : List ByteArray} {vs : List Value}, yX w I (strs l) vs → vs = l.map Value.string
  | [], vs, h => by simpa [strs, yX] using h
  | x :: xs, vs, h => by
    simp only [strs, List.map_cons, yX] at h
    obtain ⟨c, r, rfl, h1, h2⟩ := h
    simp only [RepC] at h1
    rw [repVs_strs (l := xs) h2, h1.1]
    simp [mkV, AV.isAgg, Value.cells]
theorem ba_beq (a b : ByteArray) : (a == b) = decide (a = b) := by
  rcases a with ⟨a⟩; rcases b with ⟨b⟩
  show (a == b) = _
  rw [Bool.eq_iff_iff]; simp
theorem findNow_str : ∀ (es : List MapEntry) (l : List ByteArray) (s : ByteArray) (i : Nat), es.map (·.key) = l.map Value.string →
    Instr.findNow .string (.string s) es i = some ((mfind l s i).bind fun j => (es[j - i]?).map fun e => (j, e.val))
  | [], l, s, i, h => by
    cases l with
    | nil => rfl
    | cons x l => simp at h
  | e :: es, l, s, i, h => by
    cases l with
    | nil => simp at h
    | cons x l =>
      simp only [List.map_cons, List.cons.injEq] at h
      simp only [Instr.findNow, h.1, Instr.sameNow]
      by_cases hs : s = x
      · subst hs
        simp [mfind, ba_beq]
      · have : (s == x) = false := by rw [ba_beq]; simpa using hs
        rw [this]
        simp only
        rw [findNow_str es l s (i + 1) h.2, mfind, if_neg hs]
        cases hm : mfind l s (i + 1) with
        | none => rfl
        | some j =>
          have := mfind_lt hm
          simp only [Option.bind_some]
          rw [show j - i = (j - (i + 1)) + 1 by omega, List.getElem?_cons_succ]
theorem run_checkKey {P : Program} {kt : TypeId} {s : ByteArray} (h : P.underlying kt = some .string) (b : Bool) (n : Nat) (w : World) : (Instr.checkKey b (n + 1) kt (.string s)).run P w = .ok () w := by
  simp only [Instr.checkKey, Sem.run_bind, zU h, Result.andThen_ok, Sem.run_pure]
theorem run_findKey {P : Program} {kt : TypeId} {s : ByteArray} (h : P.underlying kt = some .string) {es : List MapEntry} {l : List ByteArray} (he : es.map (·.key) = l.map Value.string) (w : World) :
    (Instr.findKey kt (.string s) es).run P w = .ok ((mfind l s 0).bind fun j => (es[j]?).map fun e => (j, e.val)) w := by
  have := findNow_str es l s 0 he
  simp only [Nat.sub_zero] at this
  simp only [Instr.findKey, Sem.run_bind, zU h, Result.andThen_ok, this, Sem.run_pure]
theorem run_getMap {P : Program} {w : World} {r : Nat} {es : Array MapEntry} {ck : Nat} (h : w.heap[r]? = some (.map es ck)) : (getObj r).run P w = .ok (.map es ck) w := by simp [getObj, Sem.run, h]
theorem run_setMap {P : Program} {w : World} {r : Nat} {es : Array MapEntry} {ck : Nat} {o' : Obj} (h : w.heap[r]? = some (.map es ck)) : (setObj r o').run P w = .ok () (yP w r o') := by simp [setObj, Sem.run, h, yP]
section
variable {C : Cx} {A : Nat → SV} {d : Nat} {ty : TypeId} {pos : String} {af : Array Edge} {gd : Option (Nat × Bool)} {x y z : Operand} {T T' : TypeId}
theorem s_makeMap (g : Nat) (hgN : Nat.ble C.N g = true) (hgK : Nat.blt g C.K = true) (hN : Nat.blt d C.N = true) :
    zk C ⟨some d, .makeMap T none, ty, pos, af, gd⟩ [] [g] A [(g, .mpr [] []), (d, .mref g)] := by
  intro A' a w hR hF ⟨G, S⟩
  have hN' : d < C.N := by simpa [Nat.blt_eq] using hN
  have hgd : g ≠ d := by have := Nat.le_of_ble_eq_true hgN; omega
  unfold Oper.wp
  have hrun : (execOp a.eval ⟨some d, .makeMap T none, ty, pos, af, gd⟩).run C.P w = .ok (.value (.map (some w.heap.size))) (w.alloc (.map #[] 0)) := by
    simp only [execOp, Option.map_none, Instr.makeMap, Sem.run_bind, Sem.run_pure, Result.andThen_ok, run_newObj]
    rfl
  rw [hrun, Oper.upon_value]
  refine S.allocO hgd (by simpa [Nat.blt_eq] using hgK) hN' (fun _ _ h => by simpa only [zh] using h) (fun G' e _ hg hle hni => ?_) (fun G' e => ?_) (fun k hk => hF k hk)
  · simp only [Holds]
    refine ⟨⟨.inl (by rw [e]; exact S.size), by rw [e]; simp⟩, ⟨#[], by rw [e]; exact alloc_new, fun i h => by simp at h, by simp [yX], by simp [yX]⟩, fun o => ?_⟩
    rw [e]; exact hni o
  · exact ⟨[.map (some w.heap.size)], by simp [RepS, e], by simp [mkS, SV.isAgg]⟩
theorem repVs_set {w : World} {I : Nat → Nat → Prop} : ∀ {xs : List AV} {vs : List Value} {i : Nat} {y : AV} {v : Value}, yX w I xs vs → Rep w I y v → yX w I (xs.set i y) (vs.set i v)
  | [], vs, i, y, v, h, _ => by
    simp only [yX] at h; subst h; simp [yX]
  | x :: xs, vs, 0, y, v, h, k => by
    simp only [yX] at h
    obtain ⟨c, r, rfl, h1, h2⟩ := h
    obtain ⟨c', k1, k2⟩ := k
    simp only [List.set_cons_zero, yX]
    exact ⟨c', r, by rw [k2], k1, h2⟩
  | x :: xs, vs, i + 1, y, v, h, k => by
    simp only [yX] at h
    obtain ⟨c, r, rfl, h1, h2⟩ := h
    simp only [List.set_cons_succ, yX]
    exact ⟨c, _, rfl, h1, repVs_set h2 k⟩
theorem s_mapUpdate {g : Nat} {kt vt : TypeId} {l : List ByteArray} {vs : List AV} {s : ByteArray} {v : AV} (hx : opS A x = .mref g) (hg : A g = .mpr (strs l) vs) (hy : opV A y = some (.v (.string s))) (hz : opV A z = some v)
    (hT : C.P.underlying T = some (.map kt vt)) (hk : C.P.underlying kt = some .string) :
    zk C ⟨none, .mapUpdate T x y z, ty, pos, af, gd⟩ (g :: (opR x ++ (opR y ++ opR z))) [] A [(g, .mpr (strs (mputK l s)) (mputV l vs s v))] := by
  intro A' a w hR hF ⟨G, S⟩
  have hgA : A' g = .mpr (strs l) vs := (hR g List.mem_cons_self).trans hg
  obtain ⟨c, hc1, hc2⟩ := S.opS ((yZ (fun k hk => hR k (List.mem_cons_of_mem _ (List.mem_append_left _ hk)))).trans hx) rfl
  simp only [RepS] at hc1
  have hev : a.eval x = .map (some (G.blk g)) := by rw [hc2, hc1]; rfl
  rw [← yR (fun k hk => hR k (List.mem_cons_of_mem _ (List.mem_append_right _ (List.mem_append_left _ hk))))] at hy
  rw [← yR (fun k hk => hR k (List.mem_cons_of_mem _ (List.mem_append_right _ (List.mem_append_right _ hk))))] at hz
  have hys := xb (S.opV hy)
  have hzv := S.opV hz
  have hb := S.holds g
  rw [hgA] at hb
  simp only [Holds] at hb
  obtain ⟨how, ⟨es, h1, h2, h3, h4⟩, hni⟩ := hb
  have hkeys : es.toList.map (·.key) = l.map Value.string := repVs_strs h3
  have hlen : es.size = l.length := by have := congrArg List.length hkeys; simpa using this
  have hfind := run_findKey (P := C.P) (s := s) hk hkeys w
  have hobj := run_getMap (P := C.P) h1
  unfold Oper.wp
  cases hm : mfind l s 0 with
  | some i =>
    have hi := mfind_lt hm
    have hie : i < es.size := by omega
    have hkey : es[i].key = .string s := by
      have hk2 : (es.toList.map (·.key))[i]? = (l.map Value.string)[i]? := by rw [hkeys]
      have hsl : l[i]? = some s := by
        have := mfind_get hm
        simpa using this
      simp only [List.getElem?_map, hsl, Option.map_some] at hk2
      rw [Array.getElem?_toList, Array.getElem?_eq_getElem hie] at hk2
      simpa using hk2
    have hrun : (execOp a.eval ⟨none, .mapUpdate T x y z, ty, pos, af, gd⟩).run C.P w = .ok .skip (yP w (G.blk g) (.map (es.modify i fun e => { e with key := .string s, val := a.eval z }) es.size)) := by
      have e1 : (es[i]?).map (·.key) = some (.string s) := by rw [Array.getElem?_eq_getElem hie]; simp [hkey]
      have e2 : (es.toList[i]?).map (fun e => (i, e.val)) = some (i, es[i].val) := by rw [Array.getElem?_toList, Array.getElem?_eq_getElem hie]; rfl
      have e3 : Instr.sameBits 10000 (.string s) (.string s) = true := by simp [Instr.sameBits, ba_beq]
      simp only [execOp, Instr.mapUpdate, Sem.run_bind, zU hT, Result.andThen_ok, hev, hobj, hys, run_checkKey hk, hfind, hm, Option.bind_some, e2, e1, Option.getD_some, Instr.keyThatStays, e3, if_true, Sem.run_pure, run_setMap h1]
    rw [hrun, Oper.upon_skip]
    have hmp : mputK l s = l ∧ mputV l vs s v = vs.set i v := by unfold mputK mputV; rw [hm]; exact ⟨rfl, rfl⟩
    rw [hmp.1, hmp.2]
    refine S.turnO how hni (by rw [hgA]; simp [zh]) (fun b h => by simpa only [zh] using h) fun hle => ?_
    simp only [Holds]
    refine ⟨⟨how.1, by rw [yQ]; exact how.2⟩, ⟨es.modify i fun e => { e with key := .string s, val := a.eval z }, by rw [xh how.2]; simp, fun j hj => ?_, ?_, ?_⟩, hni⟩
    · simp only [Array.getElem_modify]
      split
      · exact h2 j (by simpa using hj)
      · exact h2 j (by simpa using hj)
    · have : ((es.modify i fun e => { e with key := .string s, val := a.eval z }).toList.map (·.key)) = es.toList.map (·.key) := by
        refine List.ext_getElem (by simp) fun j h5 h6 => ?_
        simp only [List.getElem_map, Array.getElem_toList, Array.getElem_modify]
        split
        · rename_i hij; subst hij; rw [hkey]
        · rfl
      rw [this]; exact yX.mono hle _ _ h3
    · have : ((es.modify i fun e => { e with key := .string s, val := a.eval z }).toList.map (·.val)) = (es.toList.map (·.val)).set i (a.eval z) := by
        refine List.ext_getElem (by simp) fun j h5 h6 => ?_
        simp only [List.getElem_map, Array.getElem_toList, Array.getElem_modify, List.getElem_set]
        split <;> rfl
      rw [this]; exact repVs_set (yX.mono hle _ _ h4) (hzv.mono hle)
  | none =>
    have hrun : (execOp a.eval ⟨none, .mapUpdate T x y z, ty, pos, af, gd⟩).run C.P w = .ok .skip (yP w (G.blk g) (.map (es.push { key := .string s, val := a.eval z, born := es.size }) (es.size + 1))) := by
      simp only [execOp, Instr.mapUpdate, Sem.run_bind, zU hT, Result.andThen_ok, hev, hobj, hys, run_checkKey hk, hfind, hm, Option.bind_none, Sem.run_pure, run_setMap h1]
    rw [hrun, Oper.upon_skip]
    have hmp : mputK l s = l ++ [s] ∧ mputV l vs s v = vs ++ [v] := by unfold mputK mputV; rw [hm]; exact ⟨rfl, rfl⟩
    rw [hmp.1, hmp.2]
    refine S.turnO how hni (by rw [hgA]; simp [zh]) (fun b h => by simpa only [zh] using h) fun hle => ?_
    simp only [Holds]
    refine ⟨⟨how.1, by rw [yQ]; exact how.2⟩, ⟨es.push { key := .string s, val := a.eval z, born := es.size }, by rw [xh how.2]; simp, fun j hj => ?_, ?_, ?_⟩, hni⟩
    · simp only [Array.getElem_push]
      split
      · rename_i hj2; exact h2 j hj2
      · rename_i hj2; simp at hj; show es.size = j; omega
    · have e : strs (l ++ [s]) = strs l ++ [.v (.string s)] := by simp [strs]
      rw [e]
      simp only [Array.toList_push, List.map_append, List.map_cons, List.map_nil]
      exact repVs_append (yX.mono hle _ _ h3) (by simp only [yX]; exact ⟨[.string s], [], by simp [mkV, AV.isAgg], by simp [RepC, Value.cells, Al.plain], rfl⟩)
    · simp only [Array.toList_push, List.map_append, List.map_cons, List.map_nil]
      obtain ⟨cz, k1, k2⟩ := hzv.mono hle
      exact repVs_append (yX.mono hle _ _ h4) (by simp only [yX]; exact ⟨cz, [], by rw [k2], k1, rfl⟩)
end
end Go.Al
namespace Go.Al
open Go.RowKit
def units (n : Nat) : List AV := List.replicate n (.agg [])
@[simp] theorem units_length (n : Nat) : (units n).length = n := List.length_replicate
section
variable {C : Cx} {A : Nat → SV} {d : Nat} {ty : TypeId} {pos : String} {af : Array Edge} {gd : Option (Nat × Bool)} {x y z : Operand} {T T' : TypeId}
end
end Go.Al
namespace Go.Al
open Go.RowKit
structure SortC (P : Program) (Γ : List (Nat × AV)) (f : FuncId) : Prop where
  call : callable P f = true
  sorts : ∀ (blk cap : Nat) (ss : List (List UInt8)) (w : World), Sort.Holds Proofs.encStr w blk 0 ss.toArray → blk < w.heap.size → ss.length < 4611686018427387904 →
    Calls P f #[.slice (some ⟨blk, 0, none⟩) ss.length cap] w fun e w' =>
      e = .returned (.tuple #[]) ∧ ∃ n os, w' = Sort.grow (Sort.putRow Proofs.encStr (Sort.ahead w n) blk 0 (ss.mergeSort fun x y => decide (x ≤ y)).toArray) os
  empty : zo P Γ f [.v (.slice none 0 0)] []
section
variable {C : Cx} {A : Nat → SV} {d : Nat} {ty : TypeId} {pos : String} {af : Array Edge} {gd : Option (Nat × Bool)} {x y z : Operand} {T T' : TypeId}
end
end Go.Al
namespace Go.Proofs
open Go Go.Al
end Go.Proofs
namespace Go.Al
open Go.RowKit
section
variable {C : Cx} {d : Nat} {ty : TypeId} {pos : String} {af : Array Edge} {x : Operand}
end
end Go.Al
namespace Go.Al
section
variable {C : Cx} {A : Nat → SV} {d : Nat} {ty : TypeId} {pos : String} {af : Array Edge} {gd : Option (Nat × Bool)} {x : Operand}
end
end Go.Al
namespace Go.Proofs
open Go Go.Al
end Go.Proofs
namespace Go.Proofs
open Go Go.Al
set_option maxRecDepth 10000
end Go.Proofs
namespace Go.Proofs
open Go Go.Al
set_option maxRecDepth 10000
end Go.Proofs
namespace Go.Proofs
open Go Go.Al
end Go.Proofs
namespace Go.Proofs
open Go Go.Al
set_option maxRecDepth 10000
end Go.Proofs
namespace Go.Proofs
open Go Go.Al
end Go.Proofs
namespace Go.Al
section
variable {P : Program} {b : Frame} {a : Act} {k : List Item} {cs : List Frame} {w : World}
end
end Go.Al
namespace Go.Proofs
open Go Go.Al
set_option maxRecDepth 10000
end Go.Proofs
namespace Go.Proofs
open Go Go.Al
set_option maxRecDepth 10000
end Go.Proofs
namespace Go.Proofs
open Go Go.Al
set_option maxRecDepth 10000
end Go.Proofs
namespace Go.Proofs
open Go Go.Al
set_option maxRecDepth 10000
end Go.Proofs
namespace Go.Al
open Go.RowKit
section
variable {C : Cx} {A : Nat → SV} {d : Nat} {ty : TypeId} {pos : String} {af : Array Edge} {gd : Option (Nat × Bool)} {x y : Operand} {T T' : TypeId}
end
end Go.Al
namespace Go.Proofs
open Go Go.Al
end Go.Proofs
namespace Go.Proofs
open Go Go.Al
set_option maxRecDepth 10000
end Go.Proofs
namespace Go.Proofs
open Go Go.Al
set_option maxRecDepth 10000
end Go.Proofs
namespace Go.Proofs
open Go Go.Al
set_option maxRecDepth 10000
end Go.Proofs
namespace Go.Al
open Go.RowKit
def base (P : Program) (Γ : List (Nat × AV)) (N : Nat) (w : World) (G : Gh) : Cx := ⟨P, w, G.I, fun _ => False, N, 100000, G, Γ, [], none⟩
theorem notOwn_res {G : Gh} {k b : Nat} {x : SV} (h : x.res = false) : ¬ zh G k b x := by cases x <;> simp [SV.res, zh] at h ⊢
theorem Holds.mono_slot {w0 w1 : World} {E E' : Nat → Prop} {G G' : Gh} {a : Act} {w w' : World} {k : Nat} {x : SV} (hx : x.res = false) (hle : Le w G.I w' G'.I) (hg : GRel [] G G') (h : Holds w0 E G a w k x) : Holds w1 E' G' a w' k x := by
  cases x <;> simp only [Holds] at h ⊢ <;> first | trivial | exact ⟨h.1, xT.mono hle hg (xR.1 _) h.2⟩ | cases hx
theorem SimG.turned {P : Program} {Γ : List (Nat × AV)} {N : Nat} {A : Nat → SV} {G : Gh} {a : Act} {w w' : World} {I' : Nat → Nat → Prop} (S : SimG (base P Γ N w G) A G a w) (hr : ∀ k, (A k).res = false)
    (hle : Le w G.I w' I') (hv : ValI w' I') : SimG (base P Γ N w' { G with I := I' }) A { G with I := I' } a w' :=
  ⟨rfl, rfl, rfl, Nat.le_refl _, fun _ _ _ => rfl, Le.refl _ _, fun _ _ => ⟨rfl, .inl ⟨rfl, rfl⟩⟩, S.glob.mono hle, fun _ _ h => .inl h, hv, S.nts, S.dfs,
    fun k => (S.holds k).mono_slot (hr k) hle (fun _ _ => ⟨rfl, .inl ⟨rfl, rfl⟩⟩), fun k _ _ _ h _ => notOwn_res (hr k) h⟩
section
variable {ι : Type} {P : Program} {Γ : List (Nat × AV)} {N n : Nat} {J : ι → (Nat → Nat → Prop) → World → Prop}
variable {c x y : Code} {st : St} {j : ι} {K : St → ι → Prop} {Q : Exit → St → ι → Prop}
theorem Go1.mono {C : Cx} {ops : Array Oper} {K K' : St → List Tr → Prop} (hK : ∀ st tr, K st tr → K' st tr) : ∀ {os : List Oper} {st : St} {tr : List Tr}, Go1 C ops os st tr K → Go1 C ops os st tr K'
  | [], _, _, h => hK _ _ h
  | _ :: _, _, _, ⟨t, h1, h2, h3⟩ => ⟨t, h1, h2, Go1.mono hK h3⟩
end
end Go.Al
namespace Go.Al
open Go.RowKit
theorem Holds.kind {w0 : World} {E : Nat → Prop} {G : Gh} {a : Act} {w : World} {k b : Nat} {x : SV} (r : Holds w0 E G a w k x) (h : zh G k b x) {o : Obj} (ho : w.heap[b]? = some o) : isBook o = false := by
  cases x <;> simp only [zh] at h <;> simp only [Holds] at r
  case box T x =>
    obtain ⟨_, ⟨cs, fr, h1, _⟩, _⟩ := r
    rw [h, ho] at h1; cases h1; rfl
  case mpr ks vs =>
    obtain ⟨_, ⟨es, h1, _⟩, _⟩ := r
    rw [h, ho] at h1; cases h1; rfl
  case gen R => exact (R _ _ _).kind _ _ _ _ r.2 h ho
  case row l =>
    obtain ⟨ad, n', c, h1, h2⟩ := h
    rcases r.2 with ⟨e, _⟩ | ⟨b', cap, e, _, _, _, ⟨cs, T, h5, _⟩, _⟩
    · rw [e] at h1; cases h1
    · rw [e] at h1; cases h1; rw [← h2, h5] at ho; cases ho; rfl
  case itr m n s =>
    have h1 := r.2.1
    rw [h, ho] at h1; cases h1; rfl
  case tok n l =>
    obtain ⟨ad, n', c, h1, h2⟩ := h
    rcases r.2 with ⟨e, _⟩ | ⟨b', cap, e, _, _, _, _, ⟨cs, T, fr, h5, _⟩, _⟩
    · rw [e] at h1; cases h1
    · rw [e] at h1; cases h1; rw [← h2, h5] at ho; cases ho; rfl
theorem cell_book {w : World} {d : Nat} {o : Obj} (h : w.heap[d]? = some o) (ho : isBook o = true) (n : Nat) : w.cell? ⟨d, n, none⟩ = none := by
  unfold World.cell?
  cases o <;> simp_all [isBook]
theorem putObj_size (w : World) (d : Nat) (o : Obj) : (w.putObj d o).heap.size = w.heap.size := by simp [World.putObj]
theorem SimG.book {C : Cx} {A : Nat → SV} {G : Gh} {a : Act} {w : World} (S : SimG C A G a w) {d : Nat} {o o' : Obj} (h : w.heap[d]? = some o) (ho : isBook o = true) (ho' : isBook o' = true) (hd : C.w0.heap.size ≤ d ∨ C.E d) :
    SimG C A G a (w.putObj d o') := by
  have hlt : d < w.heap.size := (Array.getElem?_eq_some_iff.1 h).1
  have hsame : (w.putObj d o').heap[d]? = some o' := World.putObj_heap_same hlt
  have hoth : ∀ k, k ≠ d → (w.putObj d o').heap[k]? = w.heap[k]? := fun k hk => World.putObj_heap_other hk
  have hle : Le w G.I (w.putObj d o') G.I := by
    intro b n hi
    refine ⟨hi, ?_⟩
    by_cases e : b = d
    · subst e
      refine ⟨by rw [cell_book hsame ho', cell_book h ho], fun es ck h1 => ?_⟩
      rw [h] at h1; cases h1; cases ho
    · exact yt (hoth b e)
  refine ⟨S.os, S.tape, S.output, by rw [putObj_size]; exact S.size, fun k h1 h2 => ?_, S.sub.trans hle, S.rel, S.glob.mono hle, S.new, fun b o h => by rw [putObj_size]; exact S.val b o h, S.nts, S.dfs, fun k => ?_, S.apart⟩
  · have : k ≠ d := by
      rintro rfl
      rcases hd with hd | hd
      · omega
      · exact h2 hd
    rw [hoth k this]; exact S.block k h1 h2
  · refine (S.holds k).keep (Gs := []) hle (fun _ _ => ⟨rfl, .inl ⟨rfl, rfl⟩⟩) (xR.1 _) (by rw [putObj_size]; exact Nat.le_refl _) (fun h => ⟨h, rfl⟩) (fun _ => ⟨rfl, rfl, rfl⟩) (fun b hbk => ?_)
    have hne : b ≠ d := by
      rintro rfl
      have := (S.holds k).kind hbk h
      rw [ho] at this; cases this
    exact ⟨hoth b hne, fun _ hi => hi⟩
def own (A : Nat → SV) (G : Gh) (b : Nat) : Prop := ∃ k, zh G k b (A k)
theorem SimG.back {C : Cx} {A A' : Nat → SV} {G G' : Gh} {a a' : Act} {w w' : World} (S : SimG C A G a w) {K : Nat} {D : List Deferred} {R : Option Nat} (hK : K ≤ C.K)
    (S' : SimG ⟨C.P, w, G.I, own A G, C.N, K, G, C.Γ, D, R⟩ A' G' a' w') : SimG ⟨C.P, C.w0, C.I0, C.E, C.N, C.K, C.G0, C.Γ, D, R⟩ A' G' a' w' := by
  have hown : ∀ b, own A G b → C.w0.heap.size ≤ b ∨ C.E b := fun b ⟨k, hk⟩ => ((S.holds k).owned hk).1
  have hsz : w.heap.size ≤ w'.heap.size := S'.size
  refine ⟨S'.os.trans S.os, S'.tape.trans S.tape, S'.output.trans S.output, Nat.le_trans S.size hsz, fun k h1 h2 => ?_, S.sub.trans S'.sub, fun g hg => (S.rel g hg).trans (S'.rel g (Nat.le_trans hK hg)), S'.glob, fun b o hi => ?_, S'.val, S'.nts, S'.dfs, fun k => ?_, S'.apart⟩
  · have hno : ¬ own A G k := by
      intro ho
      rcases hown k ho with h | h
      · exact absurd h1 (by show ¬ k < C.w0.heap.size; omega)
      · exact h2 h
    exact (S'.block k (Nat.lt_of_lt_of_le h1 S.size) hno).trans (S.block k h1 h2)
  · rcases S'.new b o hi with h | h | h
    · exact S.new b o h
    · exact .inr (.inl (Nat.le_trans S.size h))
    · exact .inr (hown b h)
  · cases hr : (A' k).res
    · exact (S'.holds k).mono_slot hr (Le.refl _ _) (GRel.refl _)
    · exact (S'.holds k).reown hr (fun b _ _ h => by
        rcases h with h | h
        · exact .inl (Nat.le_trans S.size h)
        · exact hown b h)
structure Sw (C : Cx) (w1 : World) (I1 : Nat → Nat → Prop) (E1 : Nat → Prop) (G1 : Gh) (Ds : List Nat) : Prop where
  os : w1.os = C.w0.os
  tape : w1.tape = C.w0.tape
  output : w1.output = C.w0.output
  size : C.w0.heap.size ≤ w1.heap.size
  block : ∀ k, k < C.w0.heap.size → ¬ C.E k → w1.heap[k]? = C.w0.heap[k]?
  own : ∀ b, (w1.heap.size ≤ b ∨ E1 b) → C.w0.heap.size ≤ b ∨ C.E b
  sub : Le C.w0 C.I0 w1 I1
  rel : ∀ g, C.K ≤ g → Turns C.G0 G1 g
  new : ∀ b o, I1 b o → C.I0 b o ∨ C.w0.heap.size ≤ b ∨ C.E b
  marks : ∀ d ∈ Ds, d < w1.heap.size ∧ ¬ E1 d ∧ C.w0.heap.size ≤ d ∧ w1.heap[d]? = some (.deferred (some []))
  nodup : Ds.Nodup
def upC (C : Cx) (w1 : World) (I1 : Nat → Nat → Prop) (E1 : Nat → Prop) (G1 : Gh) (D1 : List Deferred) : Cx := ⟨C.P, w1, I1, E1, C.N, C.K, G1, C.Γ, D1, C.R⟩
theorem Sw.start (C : Cx) : Sw C C.w0 C.I0 C.E C.G0 [] :=
  ⟨rfl, rfl, rfl, Nat.le_refl _, fun _ _ _ => rfl, fun _ h => h, Le.refl _ _, fun _ _ => ⟨rfl, .inl ⟨rfl, rfl⟩⟩, fun _ _ h => .inl h, fun d h => (by cases h), List.nodup_nil⟩
theorem Sw.back {C : Cx} {w1 : World} {I1 : Nat → Nat → Prop} {E1 : Nat → Prop} {G1 : Gh} {Ds : List Nat} (h : Sw C w1 I1 E1 G1 Ds) {D1 : List Deferred} {A : Nat → SV} {G : Gh} {a : Act} {w : World} (S : SimG (upC C w1 I1 E1 G1 D1) A G a w) :
    SimG ⟨C.P, C.w0, C.I0, C.E, C.N, C.K, C.G0, C.Γ, D1, C.R⟩ A G a w := by
  refine ⟨S.os.trans h.os, S.tape.trans h.tape, S.output.trans h.output, Nat.le_trans h.size S.size, fun k h1 h2 => ?_, h.sub.trans S.sub, fun g hg => (h.rel g hg).trans (S.rel g hg), S.glob, fun b o hi => ?_, S.val, S.nts, S.dfs, fun k => ?_, S.apart⟩
  · have hno : ¬ E1 k := by
      intro ho
      rcases h.own k (.inr ho) with h3 | h3
      · exact absurd h1 (by show ¬ k < C.w0.heap.size; omega)
      · exact h2 h3
    exact (S.block k (Nat.lt_of_lt_of_le h1 h.size) hno).trans (h.block k h1 h2)
  · rcases S.new b o hi with h3 | h3 | h3
    · exact h.new b o h3
    · exact .inr (h.own b (.inl h3))
    · exact .inr (h.own b (.inr h3))
  · cases hr : (A k).res
    · exact (S.holds k).mono_slot hr (Le.refl _ _) (GRel.refl _)
    · exact (S.holds k).reown hr (fun b _ _ h3 => h.own b h3)
end Go.Al
namespace Go.Al
open Go.RowKit
end Go.Al
namespace Go.Proofs
open Go Go.Al
theorem plC_app (i : Nat) : ∀ (k : Nat) (l m : List GScope), plC i k (l ++ m) = plC i k l ++ plC i (k + l.length) m
  | k, [], m => by simp [plC]
  | k, x :: l, m => by
    simp only [List.cons_append, plC, plC_app i (k + 1) l m, List.append_assoc, List.length_cons]
    rw [show k + 1 + l.length = k + (l.length + 1) by omega]
theorem plR_app : ∀ (i : Nat) (l m : List GRes), plR i (l ++ m) = plR i l ++ plR (i + l.length) m
  | i, [], m => by simp [plR]
  | i, x :: l, m => by
    simp only [List.cons_append, plR, plR_app (i + 1) l m, List.append_assoc, List.length_cons]
    rw [show i + 1 + l.length = i + (l.length + 1) by omega]
theorem nthC_at {l : List GScope} {k : Nat} (h : k < l.length) : l = l.take k ++ nthC l k :: l.drop (k + 1) := by
  have : nthC l k = l[k] := by simp [nthC, nth, h]
  rw [this, List.getElem_cons_drop, List.take_append_drop]
theorem nthR_at {l : List GRes} {k : Nat} (h : k < l.length) : l = l.take k ++ nthR l k :: l.drop (k + 1) := by
  have : nthR l k = l[k] := by simp [nthR, nth, h]
  rw [this, List.getElem_cons_drop, List.take_append_drop]
theorem plC_at {i : Nat} {l : List GScope} {k m : Nat} (hk : k < l.length) (hm : m < (nthC l k).spans.length) : (plC i 0 l)[(plC i 0 (l.take k)).length + m]? = some (i, k, m) := by
  conv => lhs; arg 1; rw [nthC_at hk]
  have hlen : (l.take k).length = k := by rw [List.length_take]; omega
  rw [plC_app, List.getElem?_append_right (by omega), Nat.add_sub_cancel_left, Nat.zero_add, hlen, plC, List.getElem?_append_left (by simpa using hm)]
  simp [hm]
theorem pl_at {b : List GRes} {i k m : Nat} (hi : i < b.length) (hk : k < (nthR b i).scopes.length) (hm : m < (nthC (nthR b i).scopes k).spans.length) :
    (plR 0 b)[(plR 0 (b.take i)).length + (plC i 0 ((nthR b i).scopes.take k)).length + m]? = some (i, k, m) := by
  conv => lhs; arg 1; rw [nthR_at hi]
  have hlen : (b.take i).length = i := by rw [List.length_take]; omega
  rw [plR_app, Nat.add_assoc, List.getElem?_append_right (by omega), Nat.add_sub_cancel_left, Nat.zero_add, hlen, plR]
  have h1 := plC_at (i := i) hk hm
  rw [List.getElem?_append_left (List.getElem?_eq_some_iff.1 h1).1]
  exact h1
def spAt (b : List GRes) (p : Nat × Nat × Nat) : GSpan := nthS (nthC (nthR b p.1).scopes p.2.1).spans p.2.2
theorem plR_mem' : ∀ {l m : List GRes} {p : Nat × Nat × Nat}, p ∈ plR m.length l → p.1 < (m ++ l).length ∧ p.2.1 < (nthR (m ++ l) p.1).scopes.length ∧ p.2.2 < (nthC (nthR (m ++ l) p.1).scopes p.2.1).spans.length
  | [], m, p, h => by simp [plR] at h
  | r :: l, m, p, h => by
    rw [plR] at h
    rcases List.mem_append.1 h with h | h
    · have hr : nthR (m ++ r :: l) m.length = r := by simp [nthR, nth]
      have h1 : p.1 = m.length := by
        have : ∀ (k : Nat) (cs : List GScope), p ∈ plC m.length k cs → p.1 = m.length := by
          intro k cs
          induction cs generalizing k with
          | nil => intro h; simp [plC] at h
          | cons c cs ih =>
            intro h
            rw [plC] at h
            rcases List.mem_append.1 h with h | h
            · obtain ⟨j, _, rfl⟩ := List.mem_map.1 h; rfl
            · exact ih _ h
        exact this _ _ h
      have h2 := plC_mem (i := m.length) (l := r.scopes) (m := []) (p := p) h
      rw [h1, hr]
      exact ⟨by simp, h2⟩
    · have := plR_mem' (l := l) (m := m ++ [r]) (p := p) (by simpa using h)
      simpa using this
theorem pl_mem {b : List GRes} {p : Nat × Nat × Nat} (h : p ∈ plR 0 b) : p.1 < b.length ∧ p.2.1 < (nthR b p.1).scopes.length ∧ p.2.2 < (nthC (nthR b p.1).scopes p.2.1).spans.length := plR_mem' (m := []) h
theorem pl_mem_iff {b : List GRes} {p : Nat × Nat × Nat} : p ∈ plR 0 b ↔ p.1 < b.length ∧ p.2.1 < (nthR b p.1).scopes.length ∧ p.2.2 < (nthC (nthR b p.1).scopes p.2.1).spans.length :=
  ⟨pl_mem, fun ⟨h1, h2, h3⟩ => List.mem_of_getElem? (pl_at h1 h2 h3)⟩
def zS : GSpan := ⟨List.replicate 16 0, List.replicate 8 0, List.replicate 8 0, ⟨#[]⟩, ⟨#[]⟩, 0, 0, 0, [], [], [], 0, ⟨#[]⟩⟩
def inB (b : List GRes) (p : Int × Int × Int) : Bool :=
  decide (0 ≤ p.1) && decide (p.1 < b.length) && (decide (0 ≤ p.2.1) && decide (p.2.1 < (nthR b p.1.toNat).scopes.length)) && (decide (0 ≤ p.2.2) && decide (p.2.2 < (nthC (nthR b p.1.toNat).scopes p.2.1.toNat).spans.length))
def natP (p : Int × Int × Int) : Nat × Nat × Nat := (p.1.toNat, p.2.1.toNat, p.2.2.toNat)
def intP (p : Nat × Nat × Nat) : Int × Int × Int := ((p.1 : Int), (p.2.1 : Int), (p.2.2 : Int))
def placeAv (p : Int × Int × Int) : AV := .agg [iv p.1, iv p.2.1, iv p.2.2]
def atS (b : List GRes) (p : Int × Int × Int) : GSpan := if inB b p then spAt b (natP p) else zS
theorem inB_iff {b : List GRes} {p : Int × Int × Int} : inB b p = true ↔ 0 ≤ p.1 ∧ p.1 < b.length ∧ (0 ≤ p.2.1 ∧ p.2.1 < (nthR b p.1.toNat).scopes.length) ∧ 0 ≤ p.2.2 ∧ p.2.2 < (nthC (nthR b p.1.toNat).scopes p.2.1.toNat).spans.length := by
  simp only [inB, Bool.and_eq_true, qa, and_assoc]
theorem inB_mem {b : List GRes} {p : Int × Int × Int} : inB b p = true ↔ ∃ q ∈ plR 0 b, intP q = p := by
  rw [inB_iff]
  constructor
  · rintro ⟨h1, h2, ⟨h3, h4⟩, h5, h6⟩
    refine ⟨natP p, pl_mem_iff.2 ⟨by show p.1.toNat < _; omega, by show p.2.1.toNat < (nthR b p.1.toNat).scopes.length; omega, by show p.2.2.toNat < (nthC (nthR b p.1.toNat).scopes p.2.1.toNat).spans.length; omega⟩, ?_⟩
    obtain ⟨x, y, z⟩ := p
    simp only [intP, natP]
    dsimp only at h1 h3 h5
    rw [Int.toNat_of_nonneg h1, Int.toNat_of_nonneg h3, Int.toNat_of_nonneg h5]
  · rintro ⟨q, hq, rfl⟩
    obtain ⟨h1, h2, h3⟩ := pl_mem hq
    simp only [intP, Int.toNat_natCast]
    omega
theorem inB_nat {b : List GRes} {q : Nat × Nat × Nat} (h : q ∈ plR 0 b) : inB b (intP q) = true := inB_mem.2 ⟨q, h, rfl⟩
theorem atS_nat {b : List GRes} {q : Nat × Nat × Nat} (h : q ∈ plR 0 b) : atS b (intP q) = spAt b q := by
  unfold atS; rw [if_pos (inB_nat h)]; rfl
end Go.Proofs
namespace Go.Al
section
variable {C : Cx} {A : Nat → SV} {d : Nat} {ty : TypeId} {pos : String} {af : Array Edge} {gd : Option (Nat × Bool)} {x y : Operand} {T T' : TypeId}
end
end Go.Al
namespace Go.Proofs
open Go Go.Al
set_option maxRecDepth 10000
end Go.Proofs
namespace Go.Proofs
open Go Go.Al
set_option maxRecDepth 10000
end Go.Proofs
namespace Go.Proofs
open Go Go.Al
set_option maxRecDepth 10000
end Go.Proofs
namespace Go.Proofs
open Go Go.Al
set_option maxRecDepth 10000
set_option maxHeartbeats 4000000 in
theorem rspan28_c (b : List GRes) (p : Int × Int × Int) (h : inB b p = true) : zo Tryd.prog Γ0 11 [yV b, placeAv p] [(atS b p).av] := by
  have h9 := inB_iff.1 h
  have n1 : (p.1.toNat : Int) = p.1 := Int.toNat_of_nonneg (by omega)
  have n2 : (p.2.1.toNat : Int) = p.2.1 := Int.toNat_of_nonneg (by omega)
  have n3 : (p.2.2.toNat : Int) = p.2.2 := Int.toNat_of_nonneg (by omega)
  refine zf Tryd.func11 rfl Tryd.ntmps11 (by kernel_rfl) rfl fun w0 I0 G0 => ?_
  refine zD <| zB <| g_uG (zn 1002 rfl rfl rfl rfl) rfl <| g_uG (zn 1003 rfl rfl rfl rfl) rfl <| g_uG (z0 1004 rfl rfl rfl tZ36) rfl <| zH <| zA <| zD <| yM y6 <| g_u (zF rfl rfl xA rfl) <| g_u (zG rfl rfl rfl tA22 tS22 rfl rfl) <| g_u (zF rfl rfl fa47_0 rfl) <| g_u (zG rfl rfl rfl tA3 tS3 rfl rfl) ?_
  refine g_u (zJ rfl rfl rfl Tryd.underlying22 tS61 (by omega) (wl (d := gr0) (show p.1.toNat < b.length by omega))) ?_
  refine g_u (zL rfl rfl wX rfl rfl) <| g_u (zN rfl rfl tA59 tS59 rfl rfl) <| g_u (zF rfl rfl fa47_1 rfl) <| g_u (zG rfl rfl rfl tA3 tS3 rfl rfl) ?_
  refine g_u (zJ rfl rfl rfl Tryd.underlying59 tS64 (by omega) (wl (d := gc0) (show p.2.1.toNat < (nthR b p.1.toNat).scopes.length by omega))) ?_
  refine g_u (zL rfl rfl fa64_2 rfl rfl) <| g_u (zN rfl rfl tA44 tS44 rfl rfl) <| g_u (zF rfl rfl fa47_2 rfl) <| g_u (zG rfl rfl rfl tA3 tS3 rfl rfl) ?_
  refine g_u (zJ rfl rfl rfl Tryd.underlying44 tS36 (by omega) (wl (d := gs0) (show p.2.2.toNat < (nthC (nthR b p.1.toNat).scopes p.2.1.toNat).spans.length by omega))) ?_
  refine g_u (zN rfl rfl tA36 tS36 rfl (by first | exact wG (GSpan.width _) rfl | rfl)) ?_
  refine g_u (zX rfl rfl rfl tS36 (by first | exact beqW (GSpan.width _) | rfl) (by first | exact setS_w (z36_w.trans (GSpan.width _).symm) rfl | rfl)) ?_
  refine zH ⟨by kernel_rfl, ?_⟩
  refine zA <| zQ ?_
  exact ⟨⟨_, _, _, _, _, _, _, rfl, rfl, tA36, tS36, rfl, rfl, (rfl : toAV _ = some _).trans (congrArg some (by (unfold atS; rw [h]; rfl)))⟩, trivial⟩
end Go.Proofs
namespace Go.Proofs
open Go Go.Al
set_option maxRecDepth 10000
end Go.Proofs
namespace Go.Proofs
open Go Go.Al
end Go.Proofs
namespace Go.Proofs
open Go Go.Al
end Go.Proofs
namespace Go.Al
open Go.RowKit
section
variable {P : Program} {w : World} {p : Array (String × TypeId)}
end
section
variable {C : Cx} {A : Nat → SV} {d : Nat} {ty : TypeId} {pos : String} {af : Array Edge} {gd : Option (Nat × Bool)} {x y : Operand} {T T' : TypeId}
theorem SimG.ptr {C : Cx} {A : Nat → SV} {G : Gh} {a : Act} {w : World} (S : SimG C A G a w) {x : Operand} {g off : Nat} (h : Al.opS A x = .ptr g off) : a.eval x = .pointer (some ⟨G.blk g, off, none⟩) := by
  obtain ⟨c, h1, h2⟩ := S.opS h rfl
  simp only [RepS] at h1
  rw [h2, h1]; rfl
theorem SimG.ifp {C : Cx} {A : Nat → SV} {G : Gh} {a : Act} {w : World} (S : SimG C A G a w) {x : Operand} {T g off : Nat} (h : Al.opS A x = .ifp T g off) : a.eval x = .iface T (.pointer (some ⟨G.blk g, off, none⟩)) := by
  obtain ⟨c, h1, h2⟩ := S.opS h rfl
  simp only [RepS] at h1
  rw [h2, h1]; rfl
theorem yx {g off : Nat} (hN : Nat.blt d C.N = true) (hx : opS A x = .ptr g off) : zk C ⟨some d, .nilCheck x, ty, pos, af, gd⟩ (opR x) [] A [(d, .ptr g off)] := by
  refine zk.value rfl hN fun A' G a w hR S => ?_
  have hev := S.ptr ((yZ hR).trans hx)
  refine ⟨a.eval x, by simp only [execOp, hev]; rfl, ?_⟩
  rw [hev]
  exact ⟨[.pointer (some ⟨G.blk g, off, none⟩)], by simp only [RepS], rfl⟩
end
end Go.Al
namespace Go.Al
open Go.RowKit
section
variable {C : Cx} {A : Nat → SV} {d : Nat} {ty : TypeId} {pos : String} {af : Array Edge} {gd : Option (Nat × Bool)} {x y : Operand} {T T' : TypeId} {h fl h2 fl2 : Value}
end
end Go.Al
namespace Go.Al
open Go.RowKit
section
variable {C : Cx} {A : Nat → SV} {ty : TypeId} {pos : String} {af : Array Edge} {gd : Option (Nat × Bool)} {x y : Operand} {T T' : TypeId}
end
end Go.Al
namespace Go.Proofs
open Go Go.Al
theorem ixStr {l : List ByteArray} {i : Nat} (h : i < l.length) : (l.map fun x => sv x)[((i : Nat) : Int).toNat]? = some (sv (nth l i ⟨#[]⟩)) := wl (d := (⟨#[]⟩ : ByteArray)) (f := fun x => sv x) h
end Go.Proofs
namespace Go.Proofs
open Go Go.Al
def allS (b : List GRes) : List GSpan := b.flatMap fun r => yG r.scopes
theorem plR_all : ∀ (i : Nat) (b : List GRes), (plR i b).length = (allS b).length
  | _, [] => rfl
  | i, r :: b => by rw [plR, allS, List.flatMap_cons, List.length_append, List.length_append, plC_len, plR_all (i + 1) b]; rfl
theorem plR_spans : ∀ (l m : List GRes), (plR m.length l).map (fun p => spAt (m ++ l) p) = allS l
  | [], m => rfl
  | r :: l, m => by
    rw [plR, List.map_append, allS, List.flatMap_cons]
    congr 1
    · have hr : nthR (m ++ r :: l) m.length = r := by simp [nthR, nth]
      have h := plC_spans m.length r.scopes []
      rw [← h]
      refine List.map_congr_left fun p hp => ?_
      have h1 : p.1 = m.length := plC_fst _ _ _ _ hp
      unfold spAt; rw [h1, hr]; rfl
    · have := plR_spans l (m ++ [r])
      simp only [List.length_append, List.length_cons, List.length_nil, List.append_assoc, List.cons_append, List.nil_append] at this
      exact this
where
  plC_fst (i : Nat) : ∀ (k : Nat) (l : List GScope) (p : Nat × Nat × Nat), p ∈ plC i k l → p.1 = i
    | _, [], p, h => by simp [plC] at h
    | k, c :: l, p, h => by
      rw [plC] at h
      rcases List.mem_append.1 h with h | h
      · obtain ⟨j, _, rfl⟩ := List.mem_map.1 h; rfl
      · exact plC_fst i (k + 1) l p h
theorem allS_eq (b : List GRes) : (plR 0 b).map (spAt b) = allS b := plR_spans b []
structure GCore where
  trace : Bs
  id : Bs
  parent : Bs
  name : ByteArray
  begun : Int
  lasts : Int
def GCore.av (c : GCore) : AV := .agg [.arr 16 c.trace, .arr 8 c.id, .arr 8 c.parent, sv c.name, iv c.begun, iv c.lasts]
theorem GCore.ext' {a b : GCore} (h1 : a.trace = b.trace) (h2 : a.id = b.id) (h3 : a.parent = b.parent) (h4 : a.name = b.name) (h5 : a.begun = b.begun) (h6 : a.lasts = b.lasts) : a = b := by cases a; cases b; simp_all
instance : DecidableEq GCore := fun a b => decidable_of_iff (a.trace = b.trace ∧ a.id = b.id ∧ a.parent = b.parent ∧ a.name = b.name ∧ a.begun = b.begun ∧ a.lasts = b.lasts) ⟨fun h => GCore.ext' h.1 h.2.1 h.2.2.1 h.2.2.2.1 h.2.2.2.2.1 h.2.2.2.2.2, fun h => by rw [h]; exact ⟨rfl, rfl, rfl, rfl, rfl, rfl⟩⟩
end Go.Proofs
namespace Go.Proofs
open Go Go.Al
def nZ : List Int := [0, 2, 3, 4, 5, 6, 7]
def kZ : List ByteArray := [k_error, k_code]
def keptZ (l : List GA) : List GA := yu kZ (l.map (yT nZ))
def nzE (e : GE) : GE := ⟨wholeN e.time, e.name, []⟩
def nzS (s : GSpan) : GSpan :=
  { s with state := ⟨#[]⟩, kind := if s.kind = 1 then 0 else s.kind, start := (y7 ⟨s.start, s.fin⟩).lo, fin := (y7 ⟨s.start, s.fin⟩).hi, attrs := keptZ s.attrs, events := s.events.map nzE, links := [], note := if s.code = 2 then s.note else ⟨#[]⟩ }
abbrev Gp := List (ByteArray × List GSpan)
def gput : Gp → ByteArray → GSpan → Gp
  | [], k, s => [(k, [s])]
  | (k', l) :: g, k, s => if k' = k then (k', l ++ [s]) :: g else (k', l) :: gput g k s
def grpF (g : Gp) (l : List (ByteArray × GSpan)) : Gp := l.foldl (fun g x => gput g x.1 x.2) g
def grp (l : List (ByteArray × GSpan)) : Gp := grpF [] l
def resG (x : ByteArray × List GSpan) : GRes := ⟨xw [] x.1, [⟨⟨#[]⟩, ⟨#[]⟩, x.2⟩]⟩
def wU (l : List (ByteArray × GSpan)) : List GRes := (grp l).map resG
def yw (b : List GRes) : List (ByteArray × GSpan) := b.flatMap fun r => (yG r.scopes).map fun s => (yp r, nzS s)
def nzB (b : List GRes) : List GRes := wU (yw b)
theorem grpF_append (g : Gp) (l m : List (ByteArray × GSpan)) : grpF g (l ++ m) = grpF (grpF g l) m := List.foldl_append ..
theorem grp_snoc (l : List (ByteArray × GSpan)) (k : ByteArray) (s : GSpan) : grp (l ++ [(k, s)]) = gput (grp l) k s := grpF_append _ _ _
instance decMemB (k : ByteArray) (l : List ByteArray) : Decidable (k ∈ l) := decidable_of_iff ((l.any fun x => decide (x = k)) = true) (by
  rw [List.any_eq_true]
  constructor
  · rintro ⟨x, hx, h⟩; exact of_decide_eq_true h ▸ hx
  · exact fun h => ⟨k, h, decide_eq_true rfl⟩)
def yc (g : Gp) : List ByteArray := g.map (·.1)
theorem keys_gput : ∀ (g : Gp) (k : ByteArray) (s : GSpan), yc (gput g k s) = if k ∈ yc g then yc g else yc g ++ [k]
  | [], k, s => by simp [gput, yc]
  | (k', l) :: g, k, s => by
    rw [gput]
    by_cases h : k' = k
    · rw [if_pos h]; simp [yc, h]
    · rw [if_neg h]
      have ih := keys_gput g k s
      unfold yc at ih ⊢
      rw [List.map_cons, List.map_cons, ih]
      have h2 : ¬ k = k' := fun e => h e.symm
      by_cases hk : k ∈ g.map (·.1)
      · rw [if_pos hk, if_pos (List.mem_cons_of_mem _ hk)]
      · rw [if_neg hk, if_neg (by intro hm; rcases List.mem_cons.1 hm with e | e; exact h2 e; exact hk e)]; rfl
theorem keys_nodup_put {g : Gp} (h : (yc g).Nodup) (k : ByteArray) (s : GSpan) : (yc (gput g k s)).Nodup := by
  rw [keys_gput]
  split
  · exact h
  · rename_i hk
    rw [List.nodup_append]
    exact ⟨h, by simp, fun a ha b hb e => by cases List.mem_singleton.1 hb; exact hk (e ▸ ha)⟩
theorem keys_nodupF : ∀ (l : List (ByteArray × GSpan)) {g : Gp}, (yc g).Nodup → (yc (grpF g l)).Nodup
  | [], g, h => h
  | x :: l, g, h => keys_nodupF l (keys_nodup_put h x.1 x.2)
theorem keys_nodup (l : List (ByteArray × GSpan)) : (yc (grp l)).Nodup := keys_nodupF l (by simp [yc])
theorem keys_one {k : ByteArray} : ∀ {l : List (ByteArray × GSpan)} (g : Gp), (∀ x ∈ l, x.1 = k) → yc (grpF g l) = if l = [] ∨ k ∈ yc g then yc g else yc g ++ [k]
  | [], g, _ => by simp [grpF]
  | x :: l, g, h => by
    have hx := h x List.mem_cons_self
    have ih := keys_one (k := k) (l := l) (gput g x.1 x.2) fun y hy => h y (List.mem_cons_of_mem _ hy)
    show yc (grpF (gput g x.1 x.2) l) = _
    rw [ih, keys_gput, hx]
    by_cases hk : k ∈ yc g
    · rw [if_pos hk, if_pos (.inr hk), if_pos (.inr hk)]
    · rw [if_neg hk, if_pos (.inr (by simp)), if_neg (by rintro (e | e); cases e; exact hk e)]
theorem gput_perm : ∀ (g : Gp) (k : ByteArray) (s : GSpan), ((gput g k s).flatMap (·.2)).Perm (g.flatMap (·.2) ++ [s])
  | [], k, s => by simp [gput]
  | (k', l) :: g, k, s => by
    rw [gput]
    split
    · rw [List.flatMap_cons, List.flatMap_cons, List.append_assoc, List.append_assoc]
      exact List.Perm.append_left l List.perm_append_comm
    · rw [List.flatMap_cons, List.flatMap_cons, List.append_assoc]
      exact List.Perm.append_left l (gput_perm g k s)
theorem grpF_perm : ∀ (l : List (ByteArray × GSpan)) (g : Gp), ((grpF g l).flatMap (·.2)).Perm (g.flatMap (·.2) ++ l.map (·.2))
  | [], g => by simp [grpF]
  | x :: l, g => by
    refine (grpF_perm l (gput g x.1 x.2)).trans ?_
    rw [List.map_cons]
    have h := (gput_perm g x.1 x.2).append_right (l.map (·.2))
    rwa [List.append_assoc] at h
theorem grp_perm (l : List (ByteArray × GSpan)) : ((grp l).flatMap (·.2)).Perm (l.map (·.2)) := grpF_perm l []
theorem rowsZ_spans (b : List GRes) : (yw b).map (·.2) = (allS b).map nzS := by
  unfold yw allS
  rw [List.map_flatMap, List.map_flatMap]
  refine congrArg (fun f => List.flatMap f b) (funext fun r => ?_)
  rw [List.map_map]; rfl
theorem service_resG (x : ByteArray × List GSpan) : yp (resG x) = x.1 := (named_stays (l := []) trivial x.1).2
theorem rows_one (r : GRes) : ∀ x ∈ (yG r.scopes).map (fun s => (yp r, nzS s)), x.1 = yp r := fun x hx => by
  obtain ⟨s, _, rfl⟩ := List.mem_map.1 hx; rfl
theorem keysMem : ∀ (l : List (ByteArray × GSpan)) (g : Gp) (k : ByteArray), k ∈ yc (grpF g l) → k ∈ yc g ∨ ∃ x ∈ l, x.1 = k
  | [], g, k, h => .inl h
  | x :: l, g, k, h => by
    rcases keysMem l _ k h with h | ⟨y, hy, e⟩
    · rw [keys_gput] at h
      split at h
      · exact .inl h
      · rcases List.mem_append.1 h with h | h
        · exact .inl h
        · exact .inr ⟨x, List.mem_cons_self, (List.mem_singleton.1 h).symm⟩
    · exact .inr ⟨y, List.mem_cons_of_mem _ hy, e⟩
theorem rowsZ_mem {b : List GRes} {x : ByteArray × GSpan} (h : x ∈ yw b) : ∃ r ∈ b, x.1 = yp r ∧ ∃ c ∈ r.scopes, ∃ s ∈ c.spans, x.2 = nzS s := by
  obtain ⟨r, hr, hx⟩ := List.mem_flatMap.1 h
  obtain ⟨s, hs, rfl⟩ := List.mem_map.1 hx
  obtain ⟨c, hc, hs⟩ := spansOf_mem hs
  exact ⟨r, hr, rfl, c, hc, s, hs, rfl⟩
theorem keptZ_idem (l : List GA) : keptZ (keptZ l) = keptZ l := by
  unfold keptZ
  rw [← vF nZ kZ (l.map (yT nZ)), mapP_idem, dropA_idem]
theorem nzS_idem {s : GSpan} (h : s.ok) : nzS (nzS s) = nzS s := by
  have hw := wholeM_idem h.2.2.1.2.1 h.2.2.1.2.2.1
  refine GSpan.ext' rfl rfl rfl rfl rfl ?_ ?_ ?_ ?_ ?_ rfl rfl ?_
  · show (if (if s.kind = 1 then 0 else s.kind) = 1 then 0 else (if s.kind = 1 then 0 else s.kind)) = (if s.kind = 1 then 0 else s.kind)
    by_cases h1 : s.kind = 1
    · rw [if_pos h1]; rfl
    · rw [if_neg h1, if_neg h1]
  · show (y7 ⟨(y7 ⟨s.start, s.fin⟩).lo, (y7 ⟨s.start, s.fin⟩).hi⟩).lo = _; rw [hw]; rfl
  · show (y7 ⟨(y7 ⟨s.start, s.fin⟩).lo, (y7 ⟨s.start, s.fin⟩).hi⟩).hi = _; rw [hw]; rfl
  · exact keptZ_idem s.attrs
  · show (s.events.map nzE).map nzE = s.events.map nzE
    rw [List.map_map]; exact List.map_congr_left fun e he => by
      show nzE (nzE e) = nzE e
      unfold nzE; dsimp only; rw [wholeN_idem (h.2.2.2.2.1 e he).1]
  · show (if s.code = 2 then (if s.code = 2 then s.note else ⟨#[]⟩) else ⟨#[]⟩) = (if s.code = 2 then s.note else ⟨#[]⟩ : ByteArray)
    split <;> rfl
theorem gput_new : ∀ {g : Gp} {k : ByteArray} {s : GSpan}, k ∉ yc g → gput g k s = g ++ [(k, [s])]
  | [], k, s, _ => rfl
  | (k', l) :: g, k, s, h => by
    have h1 : k' ≠ k := fun e => h (by rw [e]; simp [yc])
    have h2 : k ∉ yc g := fun e => h (List.mem_cons_of_mem _ e)
    rw [gput, if_neg h1, gput_new h2]; rfl
theorem gput_last : ∀ {g : Gp} {k : ByteArray} {l : List GSpan} {s : GSpan}, k ∉ yc g → gput (g ++ [(k, l)]) k s = g ++ [(k, l ++ [s])]
  | [], k, l, s, _ => by rw [List.nil_append, gput, if_pos rfl]; rfl
  | (k', m) :: g, k, l, s, h => by
    have h1 : k' ≠ k := fun e => h (by rw [e]; simp [yc])
    have h2 : k ∉ yc g := fun e => h (List.mem_cons_of_mem _ e)
    rw [List.cons_append, gput, if_neg h1, gput_last h2]; rfl
theorem grpF_last {g : Gp} {k : ByteArray} (hk : k ∉ yc g) : ∀ (m l : List GSpan), grpF (g ++ [(k, l)]) (m.map fun s => (k, s)) = g ++ [(k, l ++ m)]
  | [], l => by simp [grpF]
  | s :: m, l => by
    show grpF (gput (g ++ [(k, l)]) k s) (m.map fun s => (k, s)) = _
    rw [gput_last hk, grpF_last hk m (l ++ [s]), List.append_assoc]; rfl
theorem grpF_new {g : Gp} {k : ByteArray} (hk : k ∉ yc g) {m : List GSpan} (hm : m ≠ []) : grpF g (m.map fun s => (k, s)) = g ++ [(k, m)] := by
  cases m with
  | nil => exact absurd rfl hm
  | cons s m =>
    show grpF (gput g k s) (m.map fun s => (k, s)) = _
    rw [gput_new hk]; exact grpF_last hk m [s]
theorem regroup : ∀ (m g : Gp), (yc (g ++ m)).Nodup → (∀ x ∈ m, x.2 ≠ []) → grpF g (m.flatMap fun x => x.2.map fun s => (x.1, s)) = g ++ m
  | [], g, _, _ => by simp [grpF]
  | x :: m, g, hn, he => by
    have hk : x.1 ∉ yc g := fun h => by
      unfold yc at hn h
      rw [List.map_append, List.nodup_append] at hn
      exact hn.2.2 _ h _ (List.mem_map.2 ⟨x, List.mem_cons_self, rfl⟩) rfl
    rw [List.flatMap_cons, grpF_append, grpF_new hk (he x List.mem_cons_self)]
    have := regroup m (g ++ [(x.1, x.2)]) (by rw [List.append_assoc]; exact hn) fun y hy => he y (List.mem_cons_of_mem _ hy)
    rw [this, List.append_assoc]; rfl
theorem gput_ne : ∀ {g : Gp} (k : ByteArray) (s : GSpan), (∀ x ∈ g, x.2 ≠ []) → ∀ x ∈ gput g k s, x.2 ≠ []
  | [], k, s, _, x, h => by cases List.mem_singleton.1 h; simp
  | (k', l) :: g, k, s, he, x, h => by
    rw [gput] at h
    split at h
    · rcases List.mem_cons.1 h with rfl | h
      · simp
      · exact he x (List.mem_cons_of_mem _ h)
    · rcases List.mem_cons.1 h with rfl | h
      · exact he _ List.mem_cons_self
      · exact gput_ne k s (fun y hy => he y (List.mem_cons_of_mem _ hy)) x h
theorem grpF_ne : ∀ (l : List (ByteArray × GSpan)) {g : Gp}, (∀ x ∈ g, x.2 ≠ []) → ∀ x ∈ grpF g l, x.2 ≠ []
  | [], _, h => h
  | x :: l, _, h => grpF_ne l (gput_ne x.1 x.2 h)
theorem group_stays (l : List (ByteArray × GSpan)) (h : ∀ x ∈ l, nzS x.2 = x.2) : nzB (wU l) = wU l := by
  have e : yw (wU l) = (grp l).flatMap fun x => x.2.map fun s => (x.1, s) := by
    unfold yw wU
    rw [List.flatMap_map]
    have hm : ∀ x ∈ grp l, ∀ s ∈ x.2, nzS s = s := fun x hx s hs => by
      obtain ⟨y, hy, rfl⟩ := List.mem_map.1 ((grp_perm l).mem_iff.1 (List.mem_flatMap.2 ⟨x, hx, hs⟩))
      exact h y hy
    have key : ∀ g : Gp, (∀ x ∈ g, ∀ s ∈ x.2, nzS s = s) → g.flatMap (fun a => (yG (resG a).scopes).map fun s => (yp (resG a), nzS s)) = g.flatMap fun x => x.2.map fun s => (x.1, s) := by
      intro g
      induction g with
      | nil => intro _; rfl
      | cons x g ih =>
        intro hg
        rw [List.flatMap_cons, List.flatMap_cons, ih fun y hy => hg y (List.mem_cons_of_mem _ hy)]
        congr 1
        rw [show yG (resG x).scopes = x.2 by show yG [⟨_, _, x.2⟩] = x.2; simp [yG], service_resG]
        exact List.map_congr_left fun s hs => by rw [hg x List.mem_cons_self s hs]
    exact key _ hm
  have hr := regroup (grp l) [] (by rw [List.nil_append]; exact keys_nodup l) (grpF_ne l (by simp))
  show (grp (yw (wU l))).map resG = _
  rw [e]
  show (grpF [] _).map resG = _
  rw [hr, List.nil_append]; rfl
theorem nzB_stays {b : List GRes} (ho : okB b) : nzB (nzB b) = nzB b := group_stays _ fun x hx => by
  obtain ⟨r, hr, _, c, hc, s, hs, e⟩ := rowsZ_mem hx
  rw [e]; exact nzS_idem (((ho r hr).2 c hc).2.2 s hs)
end Go.Proofs
namespace Go.Proofs
open Go Go.Al
def wo (l : List (ByteArray × GSpan)) (k : ByteArray) : List GSpan := (l.filter fun x => decide (x.1 = k)).map (·.2)
theorem ofKey_snoc (l : List (ByteArray × GSpan)) (x : ByteArray × GSpan) (k : ByteArray) : wo (l ++ [x]) k = wo l k ++ (if x.1 = k then [x.2] else []) := by
  unfold wo
  rw [List.filter_append, List.map_append]
  congr 1
  by_cases h : x.1 = k <;> simp [h]
theorem ofKey_none {l : List (ByteArray × GSpan)} {k : ByteArray} (h : ∀ x ∈ l, x.1 ≠ k) : wo l k = [] := by
  unfold wo
  rw [List.filter_eq_nil_iff.2 fun x hx => by simpa using h x hx]; rfl
theorem keys_snoc (l : List (ByteArray × GSpan)) (x : ByteArray × GSpan) : yc (grp (l ++ [x])) = if x.1 ∈ yc (grp l) then yc (grp l) else yc (grp l) ++ [x.1] := by
  rw [show l ++ [x] = l ++ [(x.1, x.2)] from rfl, grp_snoc, keys_gput]
theorem keys_has {l : List (ByteArray × GSpan)} {k : ByteArray} : k ∈ yc (grp l) ↔ ∃ x ∈ l, x.1 = k := by
  constructor
  · intro h
    rcases keysMem l [] k h with h | h
    · cases h
    · exact h
  · have key : ∀ (m l : List (ByteArray × GSpan)), (∀ k, (∃ x ∈ l, x.1 = k) → k ∈ yc (grp l)) → ∀ k, (∃ x ∈ l ++ m, x.1 = k) → k ∈ yc (grp (l ++ m)) := by
      intro m
      induction m with
      | nil => intro l h k; rw [List.append_nil]; exact h k
      | cons x m ih =>
        intro l h k
        have e : l ++ x :: m = (l ++ [x]) ++ m := by simp
        rw [e]
        refine ih (l ++ [x]) (fun k hk => ?_) k
        rw [keys_snoc]
        obtain ⟨y, hy, e⟩ := hk
        rcases List.mem_append.1 hy with hy | hy
        · have := h k ⟨y, hy, e⟩
          split
          · exact this
          · exact List.mem_append_left _ this
        · cases List.mem_singleton.1 hy
          subst e
          split
          · assumption
          · simp
    intro h
    exact key l [] (fun k ⟨x, hx, _⟩ => by cases hx) k (by simpa using h)
theorem gput_map {l : List (ByteArray × GSpan)} {k : ByteArray} {s : GSpan} : ∀ {ks : List ByteArray}, ks.Nodup → (k ∉ ks → ∀ x ∈ l, x.1 ≠ k) →
    gput (ks.map fun k => (k, wo l k)) k s = (if k ∈ ks then ks else ks ++ [k]).map fun k' => (k', wo (l ++ [(k, s)]) k')
  | [], _, h => by
    rw [List.map_nil, gput, if_neg (by simp)]
    simp only [List.nil_append, List.map_cons, List.map_nil]
    rw [ofKey_snoc, ofKey_none (h (by simp)), if_pos rfl]; rfl
  | k' :: ks, hn, h => by
    obtain ⟨h1, h2⟩ := List.nodup_cons.1 hn
    rw [List.map_cons, gput]
    by_cases he : k' = k
    · rw [if_pos he, if_pos (by rw [he]; exact List.mem_cons_self), List.map_cons, ofKey_snoc, if_pos he.symm]
      congr 1
      refine List.map_congr_left fun y hy => ?_
      have : ¬ k = y := fun e => h1 (by rw [he, e]; exact hy)
      rw [ofKey_snoc, if_neg this, List.append_nil]
    · have ih := gput_map (l := l) (k := k) (s := s) h2 (fun hk => h (by intro hm; rcases List.mem_cons.1 hm with e | e; exact he e.symm; exact hk e))
      have e1 : wo (l ++ [(k, s)]) k' = wo l k' := by rw [ofKey_snoc, if_neg (fun e => he e.symm), List.append_nil]
      rw [if_neg he, ih]
      by_cases hk : k ∈ ks
      · rw [if_pos hk, if_pos (List.mem_cons_of_mem _ hk), List.map_cons, e1]
      · rw [if_neg hk, if_neg (by intro hm; rcases List.mem_cons.1 hm with e | e; exact he e.symm; exact hk e), List.cons_append, List.map_cons, e1]
theorem grp_eq (l : List (ByteArray × GSpan)) : grp l = (yc (grp l)).map fun k => (k, wo l k) := by
  have key : ∀ (m l : List (ByteArray × GSpan)), grp l = (yc (grp l)).map (fun k => (k, wo l k)) → grp (l ++ m) = (yc (grp (l ++ m))).map fun k => (k, wo (l ++ m) k) := by
    intro m
    induction m with
    | nil => intro l h; rw [List.append_nil]; exact h
    | cons x m ih =>
      intro l h
      have e : l ++ x :: m = (l ++ [x]) ++ m := by simp
      rw [e]
      refine ih (l ++ [x]) ?_
      rw [keys_snoc, show l ++ [x] = l ++ [(x.1, x.2)] from rfl, grp_snoc]
      conv => lhs; rw [h]
      exact gput_map (keys_nodup l) fun hk y hy e => hk (keys_has.2 ⟨y, hy, e⟩)
  exact key l [] rfl
theorem groupM_eq (l : List (ByteArray × GSpan)) : wU l = (yc (grp l)).map fun k => resG (k, wo l k) := by
  unfold wU
  conv => lhs; rw [grp_eq l]
  rw [List.map_map]; rfl
def rq0 : ByteArray × GSpan := (⟨#[]⟩, gs0)
def nthQ (l : List (ByteArray × GSpan)) (i : Nat) : ByteArray × GSpan := nth l i rq0
theorem keys_take {l : List (ByteArray × GSpan)} {i : Nat} (h : i < l.length) : yc (grp (l.take (i + 1))) = if (nthQ l i).1 ∈ yc (grp (l.take i)) then yc (grp (l.take i)) else yc (grp (l.take i)) ++ [(nthQ l i).1] := by
  rw [zu (ye (d := rq0) h), keys_snoc]; rfl
theorem ofKey_take {l : List (ByteArray × GSpan)} {i : Nat} (h : i < l.length) (k : ByteArray) : wo (l.take (i + 1)) k = wo (l.take i) k ++ (if (nthQ l i).1 = k then [(nthQ l i).2] else []) := by
  rw [zu (ye (d := rq0) h), ofKey_snoc]; rfl
end Go.Proofs
namespace Go.Proofs
open Go Go.Al
section
variable {s : GScope} {ab : List ByteArray} {i : Nat}
end
section
variable {r : GRes} {a : ByteArray} {i : Nat}
end
section
variable {b : List GRes} {i : Nat}
end
end Go.Proofs
namespace Go.Proofs
open Go Go.Al
set_option maxRecDepth 10000
theorem zst_c (c : Int) (n : ByteArray) : zo Tryd.prog Γ0 24 [.agg [iv c, sv n]] [.agg [iv c, sv (if c = 2 then n else ⟨#[]⟩)]] := by
  refine zf Tryd.func24 rfl Tryd.ntmps24 (by kernel_rfl) rfl fun w0 I0 G0 => ?_
  refine zD <| zB <| g_uG (zn 1001 rfl rfl rfl rfl) rfl <| g_uG (z0 1002 rfl rfl rfl tZ34) rfl <| zH <| zA <| zD <| zD <| zB <| g_u (zF rfl rfl fa34_0 rfl) <| g_u (zG rfl rfl rfl tA3 tS3 rfl rfl) <| g_u (s_neI rfl rfl rfl) <| zH <| zA ?_
  refine zV rfl (fun hb1 => ?_) (fun hb1 => ?_)
  · have q : ¬ c = 2 := qc.1 hb1
    refine zB <| g_u (zF rfl rfl fa34_1 rfl) <| g_u (zX rfl rfl rfl tS9 rfl rfl) <| zH <| zA <| zD <| zB <| g_u (yW rfl rfl rfl tA34 tS34 rfl rfl) <| g_u (zX rfl rfl rfl tS34 rfl rfl) <| zH <| zA <| zQ ?_
    exact ⟨⟨_, _, _, _, _, _, _, rfl, rfl, tA34, tS34, rfl, rfl, (rfl : toAV _ = some _).trans (congrArg some (by (first | (rw [if_neg q]; done) | (rw [if_neg q]; rfl))))⟩, trivial⟩
  · have q : c = 2 := qd.1 hb1
    refine zY <| zA <| zD <| zB <| g_u (zG rfl rfl rfl tA34 tS34 rfl rfl) <| g_u (zX rfl rfl rfl tS34 rfl rfl) <| zH <| zA <| zQ ?_
    exact ⟨⟨_, _, _, _, _, _, _, rfl, rfl, tA34, tS34, rfl, rfl, (rfl : toAV _ = some _).trans (congrArg some (by (rw [if_pos q])))⟩, trivial⟩
theorem rzst_c (c : Int) (n : ByteArray) : zo Tryd.prog Γ0 35 [.agg [iv c, sv n]] [.agg [iv c, sv (if c = 2 then n else ⟨#[]⟩)]] := by
  refine zf Tryd.func35 rfl Tryd.ntmps35 (by kernel_rfl) rfl fun w0 I0 G0 => ?_
  refine zD <| zB <| g_uG (zn 1001 rfl rfl rfl rfl) rfl <| g_uG (z0 1002 rfl rfl rfl tZ34) rfl <| zH <| zA <| zD <| zD <| zB <| g_u (zF rfl rfl fa34_0 rfl) <| g_u (zG rfl rfl rfl tA3 tS3 rfl rfl) <| g_u (xM rfl rfl rfl) <| zH <| zA ?_
  refine zV rfl (fun hb1 => ?_) (fun hb1 => ?_)
  · have q : c = 2 := beq_iff_eq.1 hb1
    refine zD <| zB <| g_u (zG rfl rfl rfl tA34 tS34 rfl rfl) <| g_u (zX rfl rfl rfl tS34 rfl rfl) <| zH <| zA <| zQ <| zM ?_
    exact ⟨⟨_, _, _, _, _, _, _, rfl, rfl, tA34, tS34, rfl, rfl, (rfl : toAV _ = some _).trans (congrArg some (by (rw [if_pos q])))⟩, trivial⟩
  · have q : ¬ c = 2 := qe.1 hb1
    refine zY <| zA <| zD <| zB <| g_u (zF rfl rfl fa34_0 rfl) <| g_u (zG rfl rfl rfl tA3 tS3 rfl rfl) <| g_u (yh rfl tU34 us34 pl34 rfl rfl rfl rfl) <| g_u (zX rfl rfl rfl tS34 rfl rfl) <| zH <| zA <| zQ ?_
    exact ⟨⟨_, _, _, _, _, _, _, rfl, rfl, tA34, tS34, rfl, rfl, (rfl : toAV _ = some _).trans (congrArg some (by (first | (rw [if_neg q]; done) | (rw [if_neg q]; rfl))))⟩, trivial⟩
theorem wholeZ_c (n : Int) : zo Tryd.prog Γ0 34 [uv n] [uv (wholeN n)] := by
  refine zf Tryd.func34 rfl Tryd.ntmps34 (by kernel_rfl) rfl fun w0 I0 G0 => ?_
  refine zD <| zB <| g_u (zE rfl rfl) <| zH <| zA <| zD <| zB <| g_u (zC rfl rfl) <| g_u (zR (micro_c _) rfl rfl) <| g_u (w_ (nano_c _) rfl rfl) <| g_u (xV rfl rfl) <| g_u (zi rfl rfl rfl rfl) <| g_u (zi rfl rfl rfl rfl) <| g_u (zE rfl rfl) <| g_u (zE rfl rfl) <| zH <| zA <| zD <| zB <| g_u (zC rfl rfl) <| g_u (zE rfl rfl) <| zH <| zA <| zQ ?_
  exact ⟨⟨(rfl : toAV (Al.look _ _) = some _).trans (congrArg some (by rfl)), rfl⟩, trivial⟩
set_option maxHeartbeats 8000000 in
theorem nzS_c (s : GSpan) (ho : s.ok) (hw : s.wt ≤ 9000000) : zo Tryd.prog Γ0 16 [s.av] [(nzS s).av] := by
  have qw : s.wt = 1 + s.state.size + s.name.size + s.note.size + wtAs s.attrs + zw GE.wt s.events + zw GL.wt s.links := rfl
  have ql := yn GE.wt (fun e => by unfold GE.wt; omega) s.events
  have hl := yo s.attrs
  have hd : ∀ a ∈ yu kZ s.attrs, a.ok := fun a h => ho.2.2.2.1 a (dropA_mem h).1
  have hwd := dropA_wt kZ s.attrs
  refine zf Tryd.func16 rfl Tryd.ntmps16 (by kernel_rfl) rfl fun w0 I0 G0 => ?_
  refine zD <| zB <| g_uG (zn 1001 rfl rfl rfl rfl) rfl <| g_uG (z0 1002 rfl rfl rfl tZ36) rfl <| zH <| zA <| zD <| zB <| g_u (zF rfl rfl fa36_6 rfl) <| g_u (zG rfl rfl rfl tA29 tS29 rfl rfl) <| g_u (zF rfl rfl fa36_7 rfl) <| g_u (zG rfl rfl rfl tA29 tS29 rfl rfl) <| g_u (yh rfl tU81 us81 pl81 rfl rfl rfl rfl) <| g_u (zR (whole_c ⟨_, _⟩) rfl rfl) <| g_uG (z0 1003 rfl rfl rfl tZ81) rfl <| g_u (zX rfl rfl rfl tS81 rfl rfl) <| zH <| zA <| zD <| yM y6 <| g_u (zF rfl rfl fa36_0 rfl) <| g_u (zG rfl rfl rfl tA26 tS26 rfl rfl) <| g_u (zF rfl rfl fa36_1 rfl) <| g_u (zG rfl rfl rfl tA28 tS28 rfl rfl) <| g_u (zF rfl rfl fa36_2 rfl) <| g_u (zG rfl rfl rfl tA28 tS28 rfl rfl) <| g_u (zF rfl rfl fa36_4 rfl) <| g_u (zG rfl rfl rfl tA9 tS9 rfl rfl) <| g_u (zF rfl rfl fa36_5 rfl) <| g_u (zG rfl rfl rfl tA3 tS3 rfl rfl) <| g_u (zF rfl rfl fa81_0 rfl) <| g_u (zG rfl rfl rfl tA29 tS29 rfl rfl) <| g_u (zF rfl rfl fa81_1 rfl) <| g_u (zG rfl rfl rfl tA29 tS29 rfl rfl) <| g_u (zF rfl rfl fa36_11 rfl) <| g_u (zG rfl rfl rfl tA34 tS34 rfl rfl) <| g_u (zR (zst_c _ _) rfl rfl) <| g_u (yh rfl tZ36 us36 pl36 rfl rfl rfl rfl) <| g_uG (z0 1004 rfl rfl rfl tZ36) rfl ?_
  refine g_u (zX rfl rfl rfl tS36 (by first | exact beqW (GSpan.width _) | rfl) (by first | exact setS_w (z36_w.trans (GSpan.width _).symm) rfl | rfl)) ?_
  refine zH ⟨by kernel_rfl, ?_⟩
  refine zA <| zD <| zD <| zB <| g_u (zF rfl rfl fa36_5 rfl) <| g_u (zG rfl rfl rfl tA3 tS3 rfl rfl) <| g_u (xM rfl rfl rfl) <| zH <| zA ?_
  refine zV rfl (fun hb1 => ?_) (fun hb1 => ?_)
  · have hk : (if s.kind = 1 then 0 else s.kind) = 0 := if_pos (beq_iff_eq.1 hb1)
    refine zB <| g_u (zF rfl rfl fa36_5 rfl) <| g_u (zX rfl rfl rfl tS3 rfl rfl) <| zH <| zA <| zD <| zB <| g_u (zF rfl rfl fa36_8 rfl) <| g_u (zG rfl rfl rfl tA30 tS30 rfl rfl) <| g_u (ze (X0 := z5) rfl Tryd.underlying90 tS5 tZ5 rfl rfl rfl rfl rfl rfl rfl rfl) ?_
    refine g_u (zR (plainAs_c s.attrs nZ ho.2.2.2.1 (by omega) (by decide)) rfl rfl) ?_
    refine g_u (zE rfl rfl) <| zH <| zA <| zD <| zB <| g_u (zC rfl rfl) <| g_u (ze (X0 := z9) rfl Tryd.underlying37 tS9 tZ9 rfl rfl rfl rfl rfl rfl rfl rfl) ?_
    refine g_u (zR (drop_c (s.attrs.map (yT nZ)) kZ (by rw [List.length_map]; omega) (by decide)) rfl rfl) ?_
    refine g_u (zF rfl rfl fa36_8 rfl) <| g_u (zX rfl rfl rfl tS30 rfl rfl) <| zH <| zA <| zD <| zD <| xD 3009 1004 3 38 rfl rfl rfl rfl rfl rfl rfl <| xD 3010 1004 26 39 rfl rfl rfl rfl rfl rfl rfl <| zB <| g_u (zF rfl rfl xI rfl) <| g_u (zG rfl rfl rfl tA31 tS31 rfl rfl) <| g_u (zz rfl rfl Tryd.underlying31) <| g_u (zC rfl rfl) <| zH <| zA <| zT ?_
    refine zq (fun i : Nat => [(1, .ptr 1001 0), (1001, .box 36 (.imm s.av)), (2, .ptr 1002 0), (1002, .box 36 (.imm z36)), (4, .ptr 1004 0), (1004, .box 36 (.agg [.imm (.arr 16 s.trace), .imm (.arr 8 s.id), .imm (.arr 8 s.parent), .imm (sv ⟨#[]⟩), .imm (sv s.name), .imm (iv (if s.kind = 1 then 0 else s.kind)), .imm (uv (y7 ⟨s.start, s.fin⟩).lo), .imm (uv (y7 ⟨s.start, s.fin⟩).hi), .imm (.sl 7 ((keptZ s.attrs).map avA)), .slg 3009 3 ((s.events.take i).map fun e => (nzE e).av), .slg 3010 26 [], .imm (.agg [iv s.code, sv (if s.code = 2 then s.note else ⟨#[]⟩)])])), (3009, .tok 3 ((s.events.take i).map fun e => (nzE e).av)), (3010, .tok 26 []), (45, .imm (.sl 3 (s.events.map GE.av))), (46, .imm (iv (s.events.length : Int))), (47, .imm (iv (i : Int)))]) (fun i => i ≤ s.events.length) (fun i => s.events.length - i) (0) ?_ ⟨rfl, rfl, rfl, rfl, rfl, (by rw [hk]; first | rfl | (unfold keptZ; rw [vF]; rfl)), rfl, rfl, rfl, zd rfl (by rw [List.length_map]), rfl, trivial⟩ ?_
    · exact Nat.zero_le _
    · rintro i h1; have h1 : i ≤ s.events.length := h1
      refine zD <| zB <| g_u (yd rfl rfl rfl) <| zH <| zA <| zD ?_
      refine zV rfl (fun hb2 => ?_) (fun hb2 => ?_)
      · have hi : i < s.events.length := by have := of_decide_eq_true hb2; (try simp only [List.length_map] at this); omega
        have hex := y_ GE.wt (vI hi)
        have heq : (nthE s.events i).wt = 1 + (nthE s.events i).name.size + wtAs (nthE s.events i).attrs := rfl
        have heo := ho.2.2.2.2.1 _ (vI hi)
        refine zY <| zA <| zD <| zT <| zD <| zB ?_
        refine g_u (zJ rfl rfl rfl Tryd.underlying31 tS66 (by omega) (ixE hi)) ?_
        refine g_u (zN rfl rfl tA66 tS66 rfl rfl) <| g_uG (z0 1007 rfl rfl rfl tZ66) rfl <| g_u (zX rfl rfl rfl tS66 rfl rfl) <| zH <| zA <| yM y6 <| g_u (zF rfl rfl xI rfl) <| g_u (yz rfl rfl rfl tA31 tS31 rfl rfl) <| g_u (zF rfl rfl fa66_0 rfl) <| g_u (zG rfl rfl rfl tA29 tS29 rfl rfl) <| g_u (zR (wholeZ_c _) rfl rfl) <| g_u (zF rfl rfl fa66_1 rfl) <| g_u (zG rfl rfl rfl tA9 tS9 rfl rfl) <| g_u (yh rfl tU66 us66 pl66 rfl rfl rfl rfl) <| g_u (ze (X0 := z66) rfl Tryd.underlying31 tS66 tZ66 rfl rfl rfl rfl rfl rfl rfl rfl) ?_
        refine g_u (z8 rfl rfl rfl rfl rfl Tryd.underlying31 Tryd.underlying31 tS66 zv66 rfl (by decide) by66 (by (try dsimp only); simp only [List.length_append, List.length_cons, List.length_nil, List.length_map, List.length_take, List.length_drop]; omega) (by (try dsimp only); simp only [List.length_append, List.length_cons, List.length_nil, List.length_map, List.length_take, List.length_drop]; omega)) ?_
        refine g_u (zF rfl rfl xI rfl) <| g_u (wy rfl rfl rfl rfl tS31 rfl rfl) ?_
        refine zH ⟨by kernel_rfl, ?_⟩
        refine zW <| zA <| zB <| g_u (yK rfl rfl rfl) <| g_u (zC rfl rfl) <| zH <| zA ?_
        have et : ((s.events.take (i + 1)).map fun e => (nzE e).av) = ((s.events.take i).map fun e => (nzE e).av) ++ [(nzE (nthE s.events i)).av] := by rw [zu (ye (d := ge0) hi), List.map_append]; rfl
        refine ⟨i + 1, hi, ⟨rfl, rfl, rfl, rfl, rfl, (by rw [et]; rfl), yB rfl et.symm, rfl, rfl, rfl, zd rfl (by rw [z_ (by omega) (by omega)]; rfl), trivial⟩, by (try dsimp only); omega⟩
      · have hin : i = s.events.length := by have := of_decide_eq_false hb2; (try simp only [List.length_map] at this); omega
        refine zt <| zP <| zP <| zj <| zA <| zD <| zB <| g_u (yW rfl rfl rfl tA36 tS36 rfl rfl) ?_
        refine g_u (zX rfl rfl rfl tS36 (by first | exact beqW (GSpan.width _) | rfl) (by first | exact setS_w (z36_w.trans (GSpan.width _).symm) rfl | rfl)) ?_
        refine zH <| zA <| zQ ?_
        exact ⟨⟨_, _, _, _, _, _, _, rfl, rfl, tA36, tS36, rfl, rfl, (rfl : toAV _ = some _).trans (congrArg some (by (rw [hin, List.take_length]; show _ = GSpan.av (nzS s); simp only [GSpan.av, nzS, List.map_map]; rfl)))⟩, trivial⟩
  · have hk : (if s.kind = 1 then 0 else s.kind) = s.kind := if_neg (qe.1 hb1)
    refine zY <| zA <| zD <| zB <| g_u (zF rfl rfl fa36_8 rfl) <| g_u (zG rfl rfl rfl tA30 tS30 rfl rfl) <| g_u (ze (X0 := z5) rfl Tryd.underlying90 tS5 tZ5 rfl rfl rfl rfl rfl rfl rfl rfl) ?_
    refine g_u (zR (plainAs_c s.attrs nZ ho.2.2.2.1 (by omega) (by decide)) rfl rfl) ?_
    refine g_u (zE rfl rfl) <| zH <| zA <| zD <| zB <| g_u (zC rfl rfl) <| g_u (ze (X0 := z9) rfl Tryd.underlying37 tS9 tZ9 rfl rfl rfl rfl rfl rfl rfl rfl) ?_
    refine g_u (zR (drop_c (s.attrs.map (yT nZ)) kZ (by rw [List.length_map]; omega) (by decide)) rfl rfl) ?_
    refine g_u (zF rfl rfl fa36_8 rfl) <| g_u (zX rfl rfl rfl tS30 rfl rfl) <| zH <| zA <| zD <| zD <| xD 3009 1004 3 38 rfl rfl rfl rfl rfl rfl rfl <| xD 3010 1004 26 39 rfl rfl rfl rfl rfl rfl rfl <| zB <| g_u (zF rfl rfl xI rfl) <| g_u (zG rfl rfl rfl tA31 tS31 rfl rfl) <| g_u (zz rfl rfl Tryd.underlying31) <| g_u (zC rfl rfl) <| zH <| zA <| zT ?_
    refine zq (fun i : Nat => [(1, .ptr 1001 0), (1001, .box 36 (.imm s.av)), (2, .ptr 1002 0), (1002, .box 36 (.imm z36)), (4, .ptr 1004 0), (1004, .box 36 (.agg [.imm (.arr 16 s.trace), .imm (.arr 8 s.id), .imm (.arr 8 s.parent), .imm (sv ⟨#[]⟩), .imm (sv s.name), .imm (iv (if s.kind = 1 then 0 else s.kind)), .imm (uv (y7 ⟨s.start, s.fin⟩).lo), .imm (uv (y7 ⟨s.start, s.fin⟩).hi), .imm (.sl 7 ((keptZ s.attrs).map avA)), .slg 3009 3 ((s.events.take i).map fun e => (nzE e).av), .slg 3010 26 [], .imm (.agg [iv s.code, sv (if s.code = 2 then s.note else ⟨#[]⟩)])])), (3009, .tok 3 ((s.events.take i).map fun e => (nzE e).av)), (3010, .tok 26 []), (45, .imm (.sl 3 (s.events.map GE.av))), (46, .imm (iv (s.events.length : Int))), (47, .imm (iv (i : Int)))]) (fun i => i ≤ s.events.length) (fun i => s.events.length - i) (0) ?_ ⟨rfl, rfl, rfl, rfl, rfl, (by rw [hk]; first | rfl | (unfold keptZ; rw [vF]; rfl)), rfl, rfl, rfl, zd rfl (by rw [List.length_map]), rfl, trivial⟩ ?_
    · exact Nat.zero_le _
    · rintro i h1; have h1 : i ≤ s.events.length := h1
      refine zD <| zB <| g_u (yd rfl rfl rfl) <| zH <| zA <| zD ?_
      refine zV rfl (fun hb3 => ?_) (fun hb3 => ?_)
      · have hi : i < s.events.length := by have := of_decide_eq_true hb3; (try simp only [List.length_map] at this); omega
        have hex := y_ GE.wt (vI hi)
        have heq : (nthE s.events i).wt = 1 + (nthE s.events i).name.size + wtAs (nthE s.events i).attrs := rfl
        have heo := ho.2.2.2.2.1 _ (vI hi)
        refine zY <| zA <| zD <| zT <| zD <| zB ?_
        refine g_u (zJ rfl rfl rfl Tryd.underlying31 tS66 (by omega) (ixE hi)) ?_
        refine g_u (zN rfl rfl tA66 tS66 rfl rfl) <| g_uG (z0 1007 rfl rfl rfl tZ66) rfl <| g_u (zX rfl rfl rfl tS66 rfl rfl) <| zH <| zA <| yM y6 <| g_u (zF rfl rfl xI rfl) <| g_u (yz rfl rfl rfl tA31 tS31 rfl rfl) <| g_u (zF rfl rfl fa66_0 rfl) <| g_u (zG rfl rfl rfl tA29 tS29 rfl rfl) <| g_u (zR (wholeZ_c _) rfl rfl) <| g_u (zF rfl rfl fa66_1 rfl) <| g_u (zG rfl rfl rfl tA9 tS9 rfl rfl) <| g_u (yh rfl tU66 us66 pl66 rfl rfl rfl rfl) <| g_u (ze (X0 := z66) rfl Tryd.underlying31 tS66 tZ66 rfl rfl rfl rfl rfl rfl rfl rfl) ?_
        refine g_u (z8 rfl rfl rfl rfl rfl Tryd.underlying31 Tryd.underlying31 tS66 zv66 rfl (by decide) by66 (by (try dsimp only); simp only [List.length_append, List.length_cons, List.length_nil, List.length_map, List.length_take, List.length_drop]; omega) (by (try dsimp only); simp only [List.length_append, List.length_cons, List.length_nil, List.length_map, List.length_take, List.length_drop]; omega)) ?_
        refine g_u (zF rfl rfl xI rfl) <| g_u (wy rfl rfl rfl rfl tS31 rfl rfl) ?_
        refine zH ⟨by kernel_rfl, ?_⟩
        refine zW <| zA <| zB <| g_u (yK rfl rfl rfl) <| g_u (zC rfl rfl) <| zH <| zA ?_
        have et : ((s.events.take (i + 1)).map fun e => (nzE e).av) = ((s.events.take i).map fun e => (nzE e).av) ++ [(nzE (nthE s.events i)).av] := by rw [zu (ye (d := ge0) hi), List.map_append]; rfl
        refine ⟨i + 1, hi, ⟨rfl, rfl, rfl, rfl, rfl, (by rw [et]; rfl), yB rfl et.symm, rfl, rfl, rfl, zd rfl (by rw [z_ (by omega) (by omega)]; rfl), trivial⟩, by (try dsimp only); omega⟩
      · have hin : i = s.events.length := by have := of_decide_eq_false hb3; (try simp only [List.length_map] at this); omega
        refine zt <| zP <| zP <| zj <| zA <| zD <| zB <| g_u (yW rfl rfl rfl tA36 tS36 rfl rfl) ?_
        refine g_u (zX rfl rfl rfl tS36 (by first | exact beqW (GSpan.width _) | rfl) (by first | exact setS_w (z36_w.trans (GSpan.width _).symm) rfl | rfl)) ?_
        refine zH <| zA <| zQ ?_
        exact ⟨⟨_, _, _, _, _, _, _, rfl, rfl, tA36, tS36, rfl, rfl, (rfl : toAV _ = some _).trans (congrArg some (by (rw [hin, List.take_length]; show _ = GSpan.av (nzS s); simp only [GSpan.av, nzS, List.map_map]; rfl)))⟩, trivial⟩
set_option maxHeartbeats 8000000 in
theorem rnzS_c (s : GSpan) (ho : s.ok) (hw : s.wt ≤ 9000000) : zo Tryd.prog Γ0 17 [s.av] [(nzS s).av] := by
  have qw : s.wt = 1 + s.state.size + s.name.size + s.note.size + wtAs s.attrs + zw GE.wt s.events + zw GL.wt s.links := rfl
  have ql := yn GE.wt (fun e => by unfold GE.wt; omega) s.events
  have hl := yo s.attrs
  have hd : ∀ a ∈ yu kZ s.attrs, a.ok := fun a h => ho.2.2.2.1 a (dropA_mem h).1
  have hwd := dropA_wt kZ s.attrs
  refine zf Tryd.func17 rfl Tryd.ntmps17 (by kernel_rfl) rfl fun w0 I0 G0 => ?_
  refine zD <| zB <| g_uG (zn 1001 rfl rfl rfl rfl) rfl <| g_uG (z0 1002 rfl rfl rfl tZ36) rfl <| zH <| zA <| zD <| yM y6 <| g_u (zF rfl rfl fa36_0 rfl) <| g_u (zG rfl rfl rfl tA26 tS26 rfl rfl) <| g_u (zF rfl rfl fa36_1 rfl) <| g_u (zG rfl rfl rfl tA28 tS28 rfl rfl) <| g_u (zF rfl rfl fa36_2 rfl) <| g_u (zG rfl rfl rfl tA28 tS28 rfl rfl) <| g_u (zF rfl rfl fa36_4 rfl) <| g_u (zG rfl rfl rfl tA9 tS9 rfl rfl) <| g_u (zF rfl rfl fa36_5 rfl) <| g_u (zG rfl rfl rfl tA3 tS3 rfl rfl) <| g_u (zF rfl rfl fa36_11 rfl) <| g_u (zG rfl rfl rfl tA34 tS34 rfl rfl) <| g_u (zR (rzst_c _ _) rfl rfl) <| g_u (yh rfl tZ36 us36 pl36 rfl rfl rfl rfl) <| g_uG (z0 1003 rfl rfl rfl tZ36) rfl ?_
  refine g_u (zX rfl rfl rfl tS36 (by first | exact beqW (GSpan.width _) | rfl) (by first | exact setS_w (z36_w.trans (GSpan.width _).symm) rfl | rfl)) ?_
  refine zH ⟨by kernel_rfl, ?_⟩
  refine zA <| zD <| zD <| zB <| g_u (zF rfl rfl fa36_5 rfl) <| g_u (zG rfl rfl rfl tA3 tS3 rfl rfl) <| g_u (xM rfl rfl rfl) <| zH <| zA ?_
  refine zV rfl (fun hb1 => ?_) (fun hb1 => ?_)
  · have hk : (if s.kind = 1 then 0 else s.kind) = 0 := if_pos (beq_iff_eq.1 hb1)
    refine zB <| g_u (zF rfl rfl fa36_5 rfl) <| g_u (zX rfl rfl rfl tS3 rfl rfl) <| zH <| zA <| zD <| zB <| g_u (zF rfl rfl fa36_6 rfl) <| g_u (zG rfl rfl rfl tA29 tS29 rfl rfl) <| g_u (zF rfl rfl fa36_7 rfl) <| g_u (zG rfl rfl rfl tA29 tS29 rfl rfl) ?_
    refine g_u (w_ ((show zo Tryd.prog Γ0 36 [uv s.start, uv s.fin] [uv (y7 ⟨s.start, s.fin⟩).lo, uv (y7 ⟨s.start, s.fin⟩).hi] from by rw [(tells5 _ _).1, (tells5 _ _).2]; exact rwhole_c _ _)) rfl rfl) ?_
    refine g_u (xV rfl rfl) <| g_u (zi rfl rfl rfl rfl) <| g_u (zi rfl rfl rfl rfl) <| g_u (zF rfl rfl fa36_6 rfl) <| g_u (zX rfl rfl rfl tS29 rfl rfl) <| g_u (zF rfl rfl fa36_7 rfl) <| g_u (zX rfl rfl rfl tS29 rfl rfl) <| zH <| zA <| zD <| zB <| g_u (zF rfl rfl fa36_8 rfl) <| g_u (zG rfl rfl rfl tA30 tS30 rfl rfl) <| g_u (ze (X0 := z9) rfl Tryd.underlying37 tS9 tZ9 rfl rfl rfl rfl rfl rfl rfl rfl) ?_
    refine g_u (zR (rdrop_c s.attrs kZ (by omega) (by decide)) rfl rfl) ?_
    refine g_u (ze (X0 := z5) rfl Tryd.underlying90 tS5 tZ5 rfl rfl rfl rfl rfl rfl rfl rfl) ?_
    refine g_u (zR (rplainAs_c (yu kZ s.attrs) nZ hd (by omega) (by decide)) rfl rfl) ?_
    refine g_u (zF rfl rfl fa36_8 rfl) <| g_u (zX rfl rfl rfl tS30 rfl rfl) <| zH <| zA <| zD <| zD <| xD 3009 1003 3 38 rfl rfl rfl rfl rfl rfl rfl <| xD 3010 1003 26 39 rfl rfl rfl rfl rfl rfl rfl <| zB <| g_u (zE rfl rfl) <| zH <| zA <| zT ?_
    refine zq (fun i : Nat => [(1, .ptr 1001 0), (1001, .box 36 (.imm s.av)), (2, .ptr 1002 0), (1002, .box 36 (.imm z36)), (3, .ptr 1003 0), (1003, .box 36 (.agg [.imm (.arr 16 s.trace), .imm (.arr 8 s.id), .imm (.arr 8 s.parent), .imm (sv ⟨#[]⟩), .imm (sv s.name), .imm (iv (if s.kind = 1 then 0 else s.kind)), .imm (uv (y7 ⟨s.start, s.fin⟩).lo), .imm (uv (y7 ⟨s.start, s.fin⟩).hi), .imm (.sl 7 ((keptZ s.attrs).map avA)), .slg 3009 3 ((s.events.take i).map fun e => (nzE e).av), .slg 3010 26 [], .imm (.agg [iv s.code, sv (if s.code = 2 then s.note else ⟨#[]⟩)])])), (3009, .tok 3 ((s.events.take i).map fun e => (nzE e).av)), (3010, .tok 26 []), (4, .imm (iv (i : Int)))]) (fun i => i ≤ s.events.length) (fun i => s.events.length - i) (0) ?_ ⟨rfl, rfl, rfl, rfl, rfl, (by rw [hk]; first | rfl | (unfold keptZ; rw [vF]; rfl)), rfl, rfl, rfl, trivial⟩ ?_
    · exact Nat.zero_le _
    · rintro i h1; have h1 : i ≤ s.events.length := h1
      refine zD <| zD <| zB <| g_u (zC rfl rfl) <| g_u (zF rfl rfl xI rfl) <| g_u (zG rfl rfl rfl tA31 tS31 rfl rfl) <| g_u (zz rfl rfl Tryd.underlying31) <| g_u (yd rfl rfl rfl) <| zH <| zA ?_
      refine zV rfl (fun hb2 => ?_) (fun hb2 => ?_)
      · have hi : i < s.events.length := by have := of_decide_eq_true hb2; (try simp only [List.length_map] at this); omega
        have hex := y_ GE.wt (vI hi)
        have heq : (nthE s.events i).wt = 1 + (nthE s.events i).name.size + wtAs (nthE s.events i).attrs := rfl
        have heo := ho.2.2.2.2.1 _ (vI hi)
        refine zY <| zA <| zD <| zT <| yM y6 <| g_u (zF rfl rfl xI rfl) <| g_u (yz rfl rfl rfl tA31 tS31 rfl rfl) <| g_u (zF rfl rfl xI rfl) <| g_u (zG rfl rfl rfl tA31 tS31 rfl rfl) <| g_u (zC rfl rfl) ?_
        refine g_u (zJ rfl rfl rfl Tryd.underlying31 tS66 (by omega) (ixE hi)) ?_
        refine g_u (zL rfl rfl fa66_0 rfl rfl) <| g_u (zN rfl rfl tA29 tS29 rfl rfl) <| g_u (zR (rwholeN_c _) rfl rfl) <| g_u (zF rfl rfl xI rfl) <| g_u (zG rfl rfl rfl tA31 tS31 rfl rfl) <| g_u (zC rfl rfl) ?_
        refine g_u (zJ rfl rfl rfl Tryd.underlying31 tS66 (by omega) (ixE hi)) ?_
        refine g_u (zL rfl rfl fa66_1 rfl rfl) <| g_u (zN rfl rfl tA9 tS9 rfl rfl) <| g_u (yh rfl tU66 us66 pl66 rfl rfl rfl rfl) <| g_u (ze (X0 := z66) rfl Tryd.underlying31 tS66 tZ66 rfl rfl rfl rfl rfl rfl rfl rfl) ?_
        refine g_u (z8 rfl rfl rfl rfl rfl Tryd.underlying31 Tryd.underlying31 tS66 zv66 rfl (by decide) by66 (by (try dsimp only); simp only [List.length_append, List.length_cons, List.length_nil, List.length_map, List.length_take, List.length_drop]; omega) (by (try dsimp only); simp only [List.length_append, List.length_cons, List.length_nil, List.length_map, List.length_take, List.length_drop]; omega)) ?_
        refine g_u (zF rfl rfl xI rfl) <| g_u (wy rfl rfl rfl rfl tS31 rfl rfl) ?_
        refine zH ⟨by kernel_rfl, ?_⟩
        refine zW <| zA <| zB <| g_u (zC rfl rfl) <| g_u (yK rfl rfl rfl) <| g_u (zE rfl rfl) <| zH <| zA ?_
        have et : ((s.events.take (i + 1)).map fun e => (nzE e).av) = ((s.events.take i).map fun e => (nzE e).av) ++ [(nzE (nthE s.events i)).av] := by rw [zu (ye (d := ge0) hi), List.map_append]; rfl
        refine ⟨i + 1, hi, ⟨rfl, rfl, rfl, rfl, rfl, (by rw [et]; rfl), yB rfl et.symm, rfl, zd rfl (by rw [z_ (by omega) (by omega)]; rfl), trivial⟩, by (try dsimp only); omega⟩
      · have hin : i = s.events.length := by have := of_decide_eq_false hb2; (try simp only [List.length_map] at this); omega
        refine zt <| zP <| zP <| zj <| zA <| zD <| zB <| g_u (yW rfl rfl rfl tA36 tS36 rfl rfl) ?_
        refine g_u (zX rfl rfl rfl tS36 (by first | exact beqW (GSpan.width _) | rfl) (by first | exact setS_w (z36_w.trans (GSpan.width _).symm) rfl | rfl)) ?_
        refine zH <| zA <| zQ ?_
        exact ⟨⟨_, _, _, _, _, _, _, rfl, rfl, tA36, tS36, rfl, rfl, (rfl : toAV _ = some _).trans (congrArg some (by (rw [hin, List.take_length]; show _ = GSpan.av (nzS s); simp only [GSpan.av, nzS, List.map_map]; rfl)))⟩, trivial⟩
  · have hk : (if s.kind = 1 then 0 else s.kind) = s.kind := if_neg (qe.1 hb1)
    refine zY <| zA <| zD <| zB <| g_u (zF rfl rfl fa36_6 rfl) <| g_u (zG rfl rfl rfl tA29 tS29 rfl rfl) <| g_u (zF rfl rfl fa36_7 rfl) <| g_u (zG rfl rfl rfl tA29 tS29 rfl rfl) ?_
    refine g_u (w_ ((show zo Tryd.prog Γ0 36 [uv s.start, uv s.fin] [uv (y7 ⟨s.start, s.fin⟩).lo, uv (y7 ⟨s.start, s.fin⟩).hi] from by rw [(tells5 _ _).1, (tells5 _ _).2]; exact rwhole_c _ _)) rfl rfl) ?_
    refine g_u (xV rfl rfl) <| g_u (zi rfl rfl rfl rfl) <| g_u (zi rfl rfl rfl rfl) <| g_u (zF rfl rfl fa36_6 rfl) <| g_u (zX rfl rfl rfl tS29 rfl rfl) <| g_u (zF rfl rfl fa36_7 rfl) <| g_u (zX rfl rfl rfl tS29 rfl rfl) <| zH <| zA <| zD <| zB <| g_u (zF rfl rfl fa36_8 rfl) <| g_u (zG rfl rfl rfl tA30 tS30 rfl rfl) <| g_u (ze (X0 := z9) rfl Tryd.underlying37 tS9 tZ9 rfl rfl rfl rfl rfl rfl rfl rfl) ?_
    refine g_u (zR (rdrop_c s.attrs kZ (by omega) (by decide)) rfl rfl) ?_
    refine g_u (ze (X0 := z5) rfl Tryd.underlying90 tS5 tZ5 rfl rfl rfl rfl rfl rfl rfl rfl) ?_
    refine g_u (zR (rplainAs_c (yu kZ s.attrs) nZ hd (by omega) (by decide)) rfl rfl) ?_
    refine g_u (zF rfl rfl fa36_8 rfl) <| g_u (zX rfl rfl rfl tS30 rfl rfl) <| zH <| zA <| zD <| zD <| xD 3009 1003 3 38 rfl rfl rfl rfl rfl rfl rfl <| xD 3010 1003 26 39 rfl rfl rfl rfl rfl rfl rfl <| zB <| g_u (zE rfl rfl) <| zH <| zA <| zT ?_
    refine zq (fun i : Nat => [(1, .ptr 1001 0), (1001, .box 36 (.imm s.av)), (2, .ptr 1002 0), (1002, .box 36 (.imm z36)), (3, .ptr 1003 0), (1003, .box 36 (.agg [.imm (.arr 16 s.trace), .imm (.arr 8 s.id), .imm (.arr 8 s.parent), .imm (sv ⟨#[]⟩), .imm (sv s.name), .imm (iv (if s.kind = 1 then 0 else s.kind)), .imm (uv (y7 ⟨s.start, s.fin⟩).lo), .imm (uv (y7 ⟨s.start, s.fin⟩).hi), .imm (.sl 7 ((keptZ s.attrs).map avA)), .slg 3009 3 ((s.events.take i).map fun e => (nzE e).av), .slg 3010 26 [], .imm (.agg [iv s.code, sv (if s.code = 2 then s.note else ⟨#[]⟩)])])), (3009, .tok 3 ((s.events.take i).map fun e => (nzE e).av)), (3010, .tok 26 []), (4, .imm (iv (i : Int)))]) (fun i => i ≤ s.events.length) (fun i => s.events.length - i) (0) ?_ ⟨rfl, rfl, rfl, rfl, rfl, (by rw [hk]; first | rfl | (unfold keptZ; rw [vF]; rfl)), rfl, rfl, rfl, trivial⟩ ?_
    · exact Nat.zero_le _
    · rintro i h1; have h1 : i ≤ s.events.length := h1
      refine zD <| zD <| zB <| g_u (zC rfl rfl) <| g_u (zF rfl rfl xI rfl) <| g_u (zG rfl rfl rfl tA31 tS31 rfl rfl) <| g_u (zz rfl rfl Tryd.underlying31) <| g_u (yd rfl rfl rfl) <| zH <| zA ?_
      refine zV rfl (fun hb3 => ?_) (fun hb3 => ?_)
      · have hi : i < s.events.length := by have := of_decide_eq_true hb3; (try simp only [List.length_map] at this); omega
        have hex := y_ GE.wt (vI hi)
        have heq : (nthE s.events i).wt = 1 + (nthE s.events i).name.size + wtAs (nthE s.events i).attrs := rfl
        have heo := ho.2.2.2.2.1 _ (vI hi)
        refine zY <| zA <| zD <| zT <| yM y6 <| g_u (zF rfl rfl xI rfl) <| g_u (yz rfl rfl rfl tA31 tS31 rfl rfl) <| g_u (zF rfl rfl xI rfl) <| g_u (zG rfl rfl rfl tA31 tS31 rfl rfl) <| g_u (zC rfl rfl) ?_
        refine g_u (zJ rfl rfl rfl Tryd.underlying31 tS66 (by omega) (ixE hi)) ?_
        refine g_u (zL rfl rfl fa66_0 rfl rfl) <| g_u (zN rfl rfl tA29 tS29 rfl rfl) <| g_u (zR (rwholeN_c _) rfl rfl) <| g_u (zF rfl rfl xI rfl) <| g_u (zG rfl rfl rfl tA31 tS31 rfl rfl) <| g_u (zC rfl rfl) ?_
        refine g_u (zJ rfl rfl rfl Tryd.underlying31 tS66 (by omega) (ixE hi)) ?_
        refine g_u (zL rfl rfl fa66_1 rfl rfl) <| g_u (zN rfl rfl tA9 tS9 rfl rfl) <| g_u (yh rfl tU66 us66 pl66 rfl rfl rfl rfl) <| g_u (ze (X0 := z66) rfl Tryd.underlying31 tS66 tZ66 rfl rfl rfl rfl rfl rfl rfl rfl) ?_
        refine g_u (z8 rfl rfl rfl rfl rfl Tryd.underlying31 Tryd.underlying31 tS66 zv66 rfl (by decide) by66 (by (try dsimp only); simp only [List.length_append, List.length_cons, List.length_nil, List.length_map, List.length_take, List.length_drop]; omega) (by (try dsimp only); simp only [List.length_append, List.length_cons, List.length_nil, List.length_map, List.length_take, List.length_drop]; omega)) ?_
        refine g_u (zF rfl rfl xI rfl) <| g_u (wy rfl rfl rfl rfl tS31 rfl rfl) ?_
        refine zH ⟨by kernel_rfl, ?_⟩
        refine zW <| zA <| zB <| g_u (zC rfl rfl) <| g_u (yK rfl rfl rfl) <| g_u (zE rfl rfl) <| zH <| zA ?_
        have et : ((s.events.take (i + 1)).map fun e => (nzE e).av) = ((s.events.take i).map fun e => (nzE e).av) ++ [(nzE (nthE s.events i)).av] := by rw [zu (ye (d := ge0) hi), List.map_append]; rfl
        refine ⟨i + 1, hi, ⟨rfl, rfl, rfl, rfl, rfl, (by rw [et]; rfl), yB rfl et.symm, rfl, zd rfl (by rw [z_ (by omega) (by omega)]; rfl), trivial⟩, by (try dsimp only); omega⟩
      · have hin : i = s.events.length := by have := of_decide_eq_false hb3; (try simp only [List.length_map] at this); omega
        refine zt <| zP <| zP <| zj <| zA <| zD <| zB <| g_u (yW rfl rfl rfl tA36 tS36 rfl rfl) ?_
        refine g_u (zX rfl rfl rfl tS36 (by first | exact beqW (GSpan.width _) | rfl) (by first | exact setS_w (z36_w.trans (GSpan.width _).symm) rfl | rfl)) ?_
        refine zH <| zA <| zQ ?_
        exact ⟨⟨_, _, _, _, _, _, _, rfl, rfl, tA36, tS36, rfl, rfl, (rfl : toAV _ = some _).trans (congrArg some (by (rw [hin, List.take_length]; show _ = GSpan.av (nzS s); simp only [GSpan.av, nzS, List.map_map]; rfl)))⟩, trivial⟩
end Go.Proofs
namespace Go.Proofs
open Go Go.Al
def newK (l : List (ByteArray × GSpan)) (k : ByteArray) (j : Nat) : Bool := !((l.take j).any fun x => decide (x.1 = k))
theorem newK_step {l : List (ByteArray × GSpan)} {k : ByteArray} {j : Nat} (h : j < l.length) : newK l k (j + 1) = (newK l k j && !((nthQ l j).1.toList == k.toList)) := by
  unfold newK
  rw [zu (ye (d := rq0) h), List.any_append, yg, Bool.not_or]
  congr 1
  simp [nthQ]
  exact decide_eq_decide.2 Iff.rfl
theorem newK_keys {l : List (ByteArray × GSpan)} {k : ByteArray} {j : Nat} : newK l k j = true ↔ ¬ k ∈ yc (grp (l.take j)) := by
  unfold newK
  rw [keys_has]
  simp
  exact ⟨fun h x hx => h k x hx rfl, fun h a b hab e => h b (e ▸ hab)⟩
theorem newK_of {l : List (ByteArray × GSpan)} {k : ByteArray} {j : Nat} (h : newK l k j = true) : wo (l.take j) k = [] := ofKey_none fun x hx e => by
  unfold newK at h
  have h2 : ((l.take j).any fun x => decide (x.1 = k)) = true := List.any_eq_true.2 ⟨x, hx, by simpa using e⟩
  rw [h2] at h; cases h
theorem zip_len (ks : List ByteArray) (ss : List GSpan) : (ks.zip ss).length = min ks.length ss.length := List.length_zip
theorem zip_nth {ks : List ByteArray} {ss : List GSpan} {i : Nat} (h : i < (ks.zip ss).length) : nthQ (ks.zip ss) i = (nth ks i ⟨#[]⟩, nth ss i gs0) := by
  have h1 := ye (d := rq0) h
  have hl := zip_len ks ss
  have h2 := ye (d := (⟨#[]⟩ : ByteArray)) (show i < ks.length by omega)
  have h3 := ye (d := gs0) (show i < ss.length by omega)
  rw [List.getElem?_zip_eq_some] at h1
  rw [h2, h3] at h1
  exact Prod.ext (Option.some.inj h1.1).symm (Option.some.inj h1.2).symm
def rowG (l : List (ByteArray × GSpan)) (i : Nat) : List AV := (yc (grp (l.take i))).map fun k => (resG (k, wo l k)).av
theorem rowG_new {l : List (ByteArray × GSpan)} {i : Nat} (h : i < l.length) (hn : newK l (nthQ l i).1 i = true) : rowG l (i + 1) = rowG l i ++ [(resG ((nthQ l i).1, wo l (nthQ l i).1)).av] := by
  unfold rowG
  rw [keys_take h, if_neg (newK_keys.1 hn), List.map_append]; rfl
theorem rowG_old {l : List (ByteArray × GSpan)} {i : Nat} (h : i < l.length) (hn : newK l (nthQ l i).1 i = false) : rowG l (i + 1) = rowG l i := by
  unfold rowG
  have : (nthQ l i).1 ∈ yc (grp (l.take i)) := Decidable.byContradiction fun hc => by
    have := newK_keys.2 hc; rw [hn] at this; cases this
  rw [keys_take h, if_pos this]
theorem rowG_len (l : List (ByteArray × GSpan)) (i : Nat) : (rowG l i).length ≤ l.length := by
  have h1 : ∀ m : List (ByteArray × GSpan), (yc (grp m)).length ≤ m.length := by
    intro m
    have : ∀ n, n ≤ m.length → (yc (grp (m.take n))).length ≤ n := by
      intro n
      induction n with
      | zero => intro _; exact Nat.le_refl _
      | succ n ih =>
        intro hn
        have h := ih (by omega)
        rw [keys_take (by omega)]
        split
        · omega
        · rw [List.length_append]; simp; omega
    have := this m.length (Nat.le_refl _)
    rwa [List.take_length] at this
  have h2 := h1 (l.take i)
  rw [List.length_take] at h2
  unfold rowG; rw [List.length_map]; omega
theorem rowG_all (l : List (ByteArray × GSpan)) : AV.agg [.sl 2 (rowG l l.length)] = yV (wU l) := by
  unfold rowG yV
  rw [List.take_length, groupM_eq, List.map_map]; rfl
theorem ofKey_len (l : List (ByteArray × GSpan)) (k : ByteArray) : (wo l k).length ≤ l.length := by
  unfold wo; rw [List.length_map]; exact List.length_filter_le _ _
theorem ofKey_all {l : List (ByteArray × GSpan)} (k : ByteArray) : wo (l.take l.length) k = wo l k := by rw [List.take_length]
end Go.Proofs
namespace Go.Proofs
open Go Go.Al
set_option maxRecDepth 10000
set_option maxHeartbeats 8000000 in
theorem rgroup_c (ks : List ByteArray) (ss : List GSpan) (hk : ks.length ≤ 9000000) (hs : ss.length ≤ 9000000) : zo Tryd.prog Γ0 19 [.sl 1 (ks.map fun x => sv x), .sl 42 (ss.map GSpan.av)] [yV (wU (ks.zip ss))] := by
  have qz := zip_len ks ss
  have q0 := rowG_len (ks.zip ss)
  refine zf Tryd.func19 rfl Tryd.ntmps19 (by kernel_rfl) rfl fun w0 I0 G0 => ?_
  refine zD <| zB <| g_uG (z0 1004 rfl rfl rfl tZ24) rfl <| zH <| zA <| zD <| zB <| g_uG (z0 1005 rfl rfl rfl tZ24) rfl <| zH <| zA <| zD <| xD 3005 1005 2 0 rfl rfl rfl rfl rfl rfl rfl <| zB <| g_u (zC rfl rfl) <| g_u (zz rfl rfl Tryd.underlying37) <| g_u (zC rfl rfl) <| g_u (zz rfl rfl Tryd.underlying44) <| g_u (s_min rfl rfl rfl) <| g_u (zE rfl rfl) <| zH <| zA <| zD <| zD <| zB <| g_u (zE rfl rfl) <| zH <| zA <| zT ?_
  refine zq (fun i : Nat => [(0, .imm (.sl 1 (ks.map fun x => sv x))), (1, .imm (.sl 42 (ss.map GSpan.av))), (4, .ptr 1004 0), (1004, .box 24 (.imm z24)), (5, .ptr 1005 0), (6, .imm (iv ((ks.zip ss).length : Int))), (1005, .box 24 (.agg [.slg 3005 2 (rowG (ks.zip ss) i)])), (3005, .tok 2 (rowG (ks.zip ss) i)), (7, .imm (iv (i : Int)))]) (fun i => i ≤ (ks.zip ss).length) (fun i => (ks.zip ss).length - i) (0) ?_ ⟨rfl, rfl, rfl, rfl, rfl, zd rfl (by simp only [List.length_map]; omega), rfl, rfl, rfl, trivial⟩ ?_
  · exact Nat.zero_le _
  · rintro i h1; have h1 : i ≤ (ks.zip ss).length := h1
    refine zD <| zD <| zB <| g_u (zC rfl rfl) <| g_u (zC rfl rfl) <| g_u (yd rfl rfl rfl) <| zH <| zA ?_
    refine zV rfl (fun hb1 => ?_) (fun hb1 => ?_)
    · have hi : i < (ks.zip ss).length := by have := of_decide_eq_true hb1; (try simp only [List.length_map] at this); omega
      have hik : i < ks.length := by omega
      have his : i < ss.length := by omega
      have ezi := zip_nth (ks := ks) (ss := ss) hi
      refine zY <| zA <| zD <| zT <| zD <| zB <| g_u (zE rfl rfl) <| zH <| zA <| zD <| zD <| zB <| g_u (zE rfl rfl) <| zH <| zA <| zT ?_
      refine zq (fun j : Nat => [(0, .imm (.sl 1 (ks.map fun x => sv x))), (1, .imm (.sl 42 (ss.map GSpan.av))), (4, .ptr 1004 0), (1004, .box 24 (.imm z24)), (5, .ptr 1005 0), (6, .imm (iv ((ks.zip ss).length : Int))), (1005, .box 24 (.agg [.slg 3005 2 (rowG (ks.zip ss) i)])), (3005, .tok 2 (rowG (ks.zip ss) i)), (7, .imm (iv (i : Int))), (8, .imm (bv (newK (ks.zip ss) (nth ks i ⟨#[]⟩) j))), (9, .imm (iv (j : Int)))]) (fun j => j ≤ i) (fun j => i - j) (0) ?_ ⟨rfl, rfl, rfl, rfl, rfl, rfl, rfl, rfl, rfl, rfl, rfl, trivial⟩ ?_
      · exact Nat.zero_le _
      · rintro j h2; have h2 : j ≤ i := h2
        refine zD <| zD <| zB <| g_u (zC rfl rfl) <| g_u (zC rfl rfl) <| g_u (yd rfl rfl rfl) <| zH <| zA ?_
        refine zV rfl (fun hb2 => ?_) (fun hb2 => ?_)
        · have hj : j < i := by have := of_decide_eq_true hb2; omega
          refine zY <| zA <| zD <| zT <| yM y6 <| g_u (zC rfl rfl) <| g_u (zC rfl rfl) <| yL (t := 28) rfl ?_
          rintro (hb3 | hb3)
          · rw [hb3]
            have hb8_ := hb3
            refine zO rfl rfl (zC rfl rfl) <| zO rfl rfl (zC rfl rfl) ?_
            refine zO rfl rfl (zJ rfl rfl rfl Tryd.underlying37 tS9 (by omega) (ixStr (by omega))) ?_
            refine zO rfl rfl (zN rfl rfl tA9 tS9 rfl rfl) <| zO rfl rfl (zC rfl rfl) <| zO rfl rfl (zC rfl rfl) ?_
            refine zO rfl rfl (zJ rfl rfl rfl Tryd.underlying37 tS9 (by omega) (ixStr (by omega))) ?_
            refine zO rfl rfl (zN rfl rfl tA9 tS9 rfl rfl) <| zO rfl rfl (s_neS rfl rfl rfl) <| g_u (zZ rfl rfl rfl) <| g_u (zE rfl rfl) ?_
            refine zH ⟨by kernel_rfl, ?_⟩
            refine zW <| zA <| zB <| g_u (zC rfl rfl) <| g_u (yK rfl rfl rfl) <| g_u (zE rfl rfl) <| zH <| zA ?_
            refine ⟨j + 1, hj, ⟨rfl, rfl, rfl, rfl, rfl, rfl, rfl, rfl, rfl, look_bool rfl (by rw [newK_step (by omega), hb8_]; first | rfl | (rw [zip_nth (i := j) (by omega)]; rfl)), zd rfl (by rw [z_ (by omega) (by omega)]; rfl), trivial⟩, by (try dsimp only); omega⟩
          · rw [hb3]
            have hb8_ := hb3
            refine zI rfl rfl rfl <| zI rfl rfl rfl <| zI rfl rfl rfl <| zI rfl rfl rfl <| zI rfl rfl rfl <| zI rfl rfl rfl <| zI rfl rfl rfl <| zI rfl rfl rfl <| zI rfl rfl rfl <| g_u (zr rfl rfl rfl) <| g_u (zE rfl rfl) ?_
            refine zH ⟨by kernel_rfl, ?_⟩
            refine zW <| zA <| zB <| g_u (zC rfl rfl) <| g_u (yK rfl rfl rfl) <| g_u (zE rfl rfl) <| zH <| zA ?_
            refine ⟨j + 1, hj, ⟨rfl, rfl, rfl, rfl, rfl, rfl, rfl, rfl, rfl, look_bool rfl (by rw [newK_step (by omega), hb8_]; first | rfl | (rw [zip_nth (i := j) (by omega)]; rfl)), zd rfl (by rw [z_ (by omega) (by omega)]; rfl), trivial⟩, by (try dsimp only); omega⟩
        · have hjn : i = j := by have := of_decide_eq_false hb2; omega
          subst hjn
          refine zt <| zP <| zP <| zj <| zA <| zD <| zB <| g_u (zC rfl rfl) <| zH <| zA ?_
          refine zV rfl (fun hb4 => ?_) (fun hb4 => ?_)
          · have hnew := hb4
            have er := rowG_new hi (by rw [ezi]; exact hnew)
            rw [ezi] at er
            refine zD <| zB <| g_u (zE rfl rfl) <| zH <| zA <| zD <| zD <| xN 3010 10 42 rfl rfl rfl rfl <| zB <| g_u (zC rfl rfl) <| g_u (zE rfl rfl) <| zH <| zA <| zT ?_
            refine zq (fun t : Nat => [(0, .imm (.sl 1 (ks.map fun x => sv x))), (1, .imm (.sl 42 (ss.map GSpan.av))), (4, .ptr 1004 0), (1004, .box 24 (.imm z24)), (5, .ptr 1005 0), (6, .imm (iv ((ks.zip ss).length : Int))), (1005, .box 24 (.agg [.slg 3005 2 (rowG (ks.zip ss) i)])), (3005, .tok 2 (rowG (ks.zip ss) i)), (7, .imm (iv (i : Int))), (10, .slg 3010 42 ((wo ((ks.zip ss).take t) (nth ks i ⟨#[]⟩)).map GSpan.av)), (3010, .tok 42 ((wo ((ks.zip ss).take t) (nth ks i ⟨#[]⟩)).map GSpan.av)), (11, .imm (iv (t : Int)))]) (fun t => i ≤ t ∧ t ≤ (ks.zip ss).length) (fun t => (ks.zip ss).length - t) (i) ?_ ⟨rfl, rfl, rfl, rfl, rfl, rfl, rfl, rfl, rfl, yU rfl (by rw [newK_of hnew]; rfl), yB rfl (by rw [newK_of hnew]; rfl), rfl, trivial⟩ ?_
            · exact ⟨Nat.le_refl _, by omega⟩
            · rintro t ⟨h3, h4⟩; (try dsimp only at h3 h4)
              refine zD <| zD <| zB <| g_u (zC rfl rfl) <| g_u (zC rfl rfl) <| g_u (yd rfl rfl rfl) <| zH <| zA ?_
              refine zV rfl (fun hb5 => ?_) (fun hb5 => ?_)
              · have ht : t < (ks.zip ss).length := by have := of_decide_eq_true hb5; omega
                have ezt := zip_nth (ks := ks) (ss := ss) ht
                have eo1 := ofKey_take ht (nth ks i ⟨#[]⟩)
                rw [ezt] at eo1
                have q3 := ofKey_len ((ks.zip ss).take t) (nth ks i ⟨#[]⟩)
                have q4 : ((ks.zip ss).take t).length ≤ (ks.zip ss).length := by rw [List.length_take]; omega
                refine zY <| zA <| zD <| zT <| zD <| yM y6 <| g_u (zC rfl rfl) <| g_u (zC rfl rfl) ?_
                refine g_u (zJ rfl rfl rfl Tryd.underlying37 tS9 (by omega) (ixStr (by omega))) ?_
                refine g_u (zN rfl rfl tA9 tS9 rfl rfl) <| g_u (zC rfl rfl) <| g_u (zC rfl rfl) ?_
                refine g_u (zJ rfl rfl rfl Tryd.underlying37 tS9 (by omega) (ixStr (by omega))) ?_
                refine g_u (zN rfl rfl tA9 tS9 rfl rfl) <| g_u (s_eqS rfl rfl rfl) ?_
                refine zH ⟨by kernel_rfl, ?_⟩
                refine zA ?_
                refine zV rfl (fun hb6 => ?_) (fun hb6 => ?_)
                · have eo : ((wo ((ks.zip ss).take (t + 1)) (nth ks i ⟨#[]⟩)).map GSpan.av) = ((wo ((ks.zip ss).take t) (nth ks i ⟨#[]⟩)).map GSpan.av) ++ [(nth ss t gs0).av] := by rw [eo1, if_pos (by have e := hb6; rw [yg] at e; exact of_decide_eq_true e), List.map_append]; rfl
                  refine zB <| g_u (zs rfl rfl) <| g_u (zC rfl rfl) <| g_u (zC rfl rfl) ?_
                  refine g_u (zJ rfl rfl rfl Tryd.underlying44 tS36 (by omega) (ixS (by omega))) ?_
                  refine g_u (zN rfl rfl tA36 tS36 rfl (by first | exact wG (GSpan.width _) rfl | rfl)) ?_
                  refine g_u (ze (X0 := z36) rfl Tryd.underlying44 tS36 tZ36 rfl rfl rfl rfl rfl rfl rfl rfl) ?_
                  refine g_u (z8 rfl rfl rfl rfl rfl Tryd.underlying44 Tryd.underlying44 tS36 zv36 rfl (by decide) by36 (by (try dsimp only); simp only [List.length_append, List.length_cons, List.length_nil, List.length_map, List.length_take, List.length_drop]; omega) (by (try dsimp only); simp only [List.length_append, List.length_cons, List.length_nil, List.length_map, List.length_take, List.length_drop]; omega)) ?_
                  refine g_u (zx rfl rfl) <| zH <| zW <| zA <| zB <| g_u (zC rfl rfl) <| g_u (yK rfl rfl rfl) <| g_u (zE rfl rfl) <| zH <| zA ?_
                  refine ⟨t + 1, ⟨by (try dsimp only); omega, ht⟩, ⟨rfl, rfl, rfl, rfl, rfl, rfl, rfl, rfl, rfl, yU rfl eo.symm, yB rfl eo.symm, zd rfl (by rw [z_ (by omega) (by omega)]; rfl), trivial⟩, by (try dsimp only); omega⟩
                · have eo : ((wo ((ks.zip ss).take (t + 1)) (nth ks i ⟨#[]⟩)).map GSpan.av) = ((wo ((ks.zip ss).take t) (nth ks i ⟨#[]⟩)).map GSpan.av) := by rw [eo1, if_neg (by have e := hb6; rw [yg] at e; exact of_decide_eq_false e), List.append_nil]
                  refine zY <| zW <| zA <| zB <| g_u (zC rfl rfl) <| g_u (yK rfl rfl rfl) <| g_u (zE rfl rfl) <| zH <| zA ?_
                  refine ⟨t + 1, ⟨by (try dsimp only); omega, ht⟩, ⟨rfl, rfl, rfl, rfl, rfl, rfl, rfl, rfl, rfl, yU rfl eo.symm, yB rfl eo.symm, zd rfl (by rw [z_ (by omega) (by omega)]; rfl), trivial⟩, by (try dsimp only); omega⟩
              · have htn : t = (ks.zip ss).length := by have := of_decide_eq_false hb5; omega
                subst htn
                have q5 := q0 i
                rw [ofKey_all]
                refine zt <| zP <| zP <| zj <| zA <| yM y6 <| g_u (zF rfl rfl xA rfl) <| g_u (yz rfl rfl rfl tA22 tS22 rfl rfl) <| g_u (zC rfl rfl) <| g_u (zC rfl rfl) ?_
                refine g_u (zJ rfl rfl rfl Tryd.underlying37 tS9 (by omega) (ixStr (by omega))) ?_
                refine g_u (zN rfl rfl tA9 tS9 rfl rfl) ?_
                refine g_u (zR (nil1 (n := 7) (rnamed_c [] (nth ks i ⟨#[]⟩) trivial (by decide))) rfl rfl) ?_
                refine g_u (zs rfl rfl) <| g_u (yh rfl tU64 us64 pl64 rfl rfl rfl rfl) <| g_u (ze (X0 := z64) rfl Tryd.underlying59 tS64 tZ64 rfl rfl rfl rfl rfl rfl rfl rfl) <| g_u (yh rfl tU61 us61 pl61 rfl rfl rfl rfl) <| g_u (ze (X0 := z61) rfl Tryd.underlying22 tS61 tZ61 rfl rfl rfl rfl rfl rfl rfl rfl) ?_
                refine g_u (z8 rfl rfl rfl rfl rfl Tryd.underlying22 Tryd.underlying22 tS61 zv61 rfl (by decide) by61 (by (try dsimp only); simp only [List.length_append, List.length_cons, List.length_nil, List.length_map, List.length_take, List.length_drop]; omega) (by (try dsimp only); simp only [List.length_append, List.length_cons, List.length_nil, List.length_map, List.length_take, List.length_drop]; omega)) ?_
                refine g_u (zF rfl rfl xA rfl) <| g_u (wy rfl rfl rfl rfl tS22 rfl rfl) ?_
                refine zH ⟨by kernel_rfl, ?_⟩
                refine zW <| zA <| zB <| g_u (zC rfl rfl) <| g_u (yK rfl rfl rfl) <| g_u (zE rfl rfl) <| zH <| zA ?_
                refine ⟨i + 1, hi, ⟨rfl, rfl, rfl, rfl, rfl, rfl, (by rw [er]; rfl), yB rfl er.symm, zd rfl (by rw [z_ (by omega) (by omega)]; rfl), trivial⟩, by (try dsimp only); omega⟩
          · have er := rowG_old hi (by rw [ezi]; exact hb4)
            refine zY <| zW <| zA <| zB <| g_u (zC rfl rfl) <| g_u (yK rfl rfl rfl) <| g_u (zE rfl rfl) <| zH <| zA ?_
            refine ⟨i + 1, hi, ⟨rfl, rfl, rfl, rfl, rfl, rfl, (by rw [er]; rfl), yB rfl er.symm, zd rfl (by rw [z_ (by omega) (by omega)]; rfl), trivial⟩, by (try dsimp only); omega⟩
    · have hin : i = (ks.zip ss).length := by have := of_decide_eq_false hb1; omega
      refine zt <| zP <| zP <| zj <| zA <| zD <| zB <| g_u (yW rfl rfl rfl tA24 tS24 rfl rfl) <| g_u (zX rfl rfl rfl tS24 rfl rfl) <| zH <| zA <| zQ ?_
      exact ⟨⟨_, _, _, _, _, _, _, rfl, rfl, tA24, tS24, rfl, rfl, (rfl : toAV _ = some _).trans (congrArg some (by (rw [hin]; exact rowG_all _)))⟩, trivial⟩
end Go.Proofs
namespace Go.Proofs
open Go Go.Al
def rowP (b : List GRes) (p : Nat × Nat × Nat) : ByteArray × GSpan := (yp (nthR b p.1), nzS (spAt b p))
theorem plC_i (i k : Nat) (l : List GScope) : ∀ p ∈ plC i k l, p.1 = i := by
  induction l generalizing k with
  | nil => intro p h; simp [plC] at h
  | cons c l ih =>
    intro p h
    rw [plC] at h
    rcases List.mem_append.1 h with h | h
    · obtain ⟨m, _, rfl⟩ := List.mem_map.1 h; rfl
    · exact ih (k + 1) p h
theorem rows_pl : ∀ (l m : List GRes), (plR m.length l).map (rowP (m ++ l)) = yw l
  | [], m => rfl
  | r :: l, m => by
    have e : yw (r :: l) = (yG r.scopes).map (fun s => (yp r, nzS s)) ++ yw l := List.flatMap_cons
    rw [plR, List.map_append, e]
    congr 1
    · have hr : nthR (m ++ r :: l) m.length = r := by simp [nthR, nth]
      have h := plC_spans m.length r.scopes []
      rw [← h, List.map_map]
      refine List.map_congr_left fun p hp => ?_
      have h1 : p.1 = m.length := plC_i _ _ _ p hp
      unfold rowP spAt
      rw [h1, hr]; rfl
    · have := rows_pl l (m ++ [r])
      simp only [List.length_append, List.length_cons, List.length_nil, List.append_assoc, List.cons_append, List.nil_append] at this
      exact this
theorem rows_pl0 (b : List GRes) : (plR 0 b).map (rowP b) = yw b := rows_pl b []
theorem zip_fs {α β : Type} : ∀ l : List (α × β), (l.map (·.1)).zip (l.map (·.2)) = l
  | [] => rfl
  | x :: l => by rw [List.map_cons, List.map_cons, List.zip_cons_cons, zip_fs l]
def xP (r : GRes) (l : List GSpan) : List (ByteArray × GSpan) := l.map fun s => (yp r, nzS s)
theorem rowsZ_take {b : List GRes} {i : Nat} (h : i < b.length) : yw (b.take (i + 1)) = yw (b.take i) ++ xP (nthR b i) (yG (nthR b i).scopes) := by
  rw [zu (ye (d := gr0) h)]
  unfold yw
  rw [List.flatMap_append]
  congr 1
  show [nthR b i].flatMap _ = _
  rw [List.flatMap_cons]; simp [xP]
theorem rowsF_app (r : GRes) (a b : List GSpan) : xP r (a ++ b) = xP r a ++ xP r b := List.map_append ..
theorem rowsZ_len (b : List GRes) : (yw b).length = (allS b).length := by
  have := congrArg List.length (rowsZ_spans b)
  rwa [List.length_map, List.length_map] at this
theorem plQ_in {b : List GRes} {p : Nat × Nat × Nat} (h : p ∈ plR 0 b) : p.1 < b.length := (plR_mem' (m := []) h).1
theorem spQ_mem {b : List GRes} {p : Nat × Nat × Nat} (h : p ∈ plR 0 b) : spAt b p ∈ (nthC (nthR b p.1).scopes p.2.1).spans ∧ nthC (nthR b p.1).scopes p.2.1 ∈ (nthR b p.1).scopes ∧ nthR b p.1 ∈ b := by
  obtain ⟨h1, h2, h3⟩ := plR_mem' (m := []) h
  exact ⟨nthS_mem h3, nthC_mem h2, wd h1⟩
theorem spQ_ok {b : List GRes} (ho : okB b) {p : Nat × Nat × Nat} (h : p ∈ plR 0 b) : (spAt b p).ok := by
  obtain ⟨h1, h2, h3⟩ := spQ_mem h
  exact ((ho _ h3).2 _ h2).2.2 _ h1
theorem spQ_wt {b : List GRes} {p : Nat × Nat × Nat} (h : p ∈ plR 0 b) : (spAt b p).wt ≤ wtB b := by
  obtain ⟨h1, h2, h3⟩ := spQ_mem h
  have a1 := y_ GSpan.wt h1
  have a2 := y_ GScope.wt h2
  have a3 := y_ GRes.wt h3
  have e1 : (nthC (nthR b p.1).scopes p.2.1).wt = 1 + (nthC (nthR b p.1).scopes p.2.1).name.size + (nthC (nthR b p.1).scopes p.2.1).version.size + zw GSpan.wt (nthC (nthR b p.1).scopes p.2.1).spans := rfl
  have e2 : (nthR b p.1).wt = 1 + wtAs (nthR b p.1).attrs + zw GScope.wt (nthR b p.1).scopes := rfl
  have e3 : wtB b = zw GRes.wt b := rfl
  omega
theorem rowsZ_part {b : List GRes} {i k m : Nat} (hi : i < b.length) (hk : k < (nthR b i).scopes.length) (hm : m < (nthC (nthR b i).scopes k).spans.length) : (yw (b.take i) ++ xP (nthR b i) (yG ((nthR b i).scopes.take k)) ++ xP (nthR b i) ((nthC (nthR b i).scopes k).spans.take m)).length + 1 ≤ (yw b).length := by
  have e0 : yw b = yw (b.take (i + 1)) ++ yw (b.drop (i + 1)) := by
    conv => lhs; rw [← List.take_append_drop (i + 1) b]
    unfold yw; rw [List.flatMap_append]
  have e1 : yG (nthR b i).scopes = yG ((nthR b i).scopes.take (k + 1)) ++ yG ((nthR b i).scopes.drop (k + 1)) := by
    conv => lhs; rw [← List.take_append_drop (k + 1) (nthR b i).scopes]
    rw [spansOf_append]
  rw [e0, rowsZ_take hi, e1, spansOf_take hk]
  simp only [List.length_append, xP, List.length_map, List.length_take]
  omega
end Go.Proofs
namespace Go.Proofs
open Go Go.Al
set_option maxRecDepth 10000
theorem rspanP_c (b : List GRes) (p : Nat × Nat × Nat) (hp : p ∈ plR 0 b) : zo Tryd.prog Γ0 11 [yV b, plav p] [(spAt b p).av] := by
  have h := rspan28_c b (intP p) (inB_nat hp)
  rw [atS_nat hp] at h; exact h
theorem rowsZ_plR (b : List GRes) : (yw b).length ≤ zw GRes.wt b := by
  rw [rowsZ_len, ← plR_all 0 b]; exact plR_len 0 b
set_option maxHeartbeats 8000000 in
theorem rnzB_c (b : List GRes) (ho : okB b) (hw : wtB b ≤ 9000000) : zo Tryd.prog Γ0 14 [yV b] [yV (nzB b)] := by
  have qz := rowsZ_plR b
  have hpl := plR_len 0 b
  have qw : wtB b = zw GRes.wt b := rfl
  refine zf Tryd.func14 rfl Tryd.ntmps14 (by kernel_rfl) rfl fun w0 I0 G0 => ?_
  refine zD <| zB <| g_uG (zn 1001 rfl rfl rfl rfl) rfl <| g_uG (z0 1002 rfl rfl rfl tZ24) rfl <| zH <| zA <| zD <| zB <| g_u (zG rfl rfl rfl tA24 tS24 rfl rfl) ?_
  refine g_u (zR (places_c b (by omega)) rfl rfl) ?_
  refine g_u (zE rfl rfl) <| zH <| zA <| zD <| zB <| g_u (zE rfl rfl) <| zH <| zA <| zD <| zB <| g_u (zE rfl rfl) <| zH <| zA <| zD <| zD <| xN 3004 4 1 rfl rfl rfl rfl <| xN 3005 5 42 rfl rfl rfl rfl <| zB <| g_u (zE rfl rfl) <| zH <| zA <| zT ?_
  refine zq (fun i : Nat => [(1, .ptr 1001 0), (1001, .box 24 (.imm (yV b))), (2, .ptr 1002 0), (1002, .box 24 (.imm z24)), (3, .imm (.sl 3 ((plR 0 b).map plav))), (4, .slg 3004 1 ((((plR 0 b).take i).map (rowP b)).map fun x => sv x.1)), (3004, .tok 1 ((((plR 0 b).take i).map (rowP b)).map fun x => sv x.1)), (5, .slg 3005 42 ((((plR 0 b).take i).map (rowP b)).map fun x => x.2.av)), (3005, .tok 42 ((((plR 0 b).take i).map (rowP b)).map fun x => x.2.av)), (6, .imm (iv (i : Int)))]) (fun i => i ≤ (plR 0 b).length) (fun i => (plR 0 b).length - i) (0) ?_ ⟨rfl, rfl, rfl, rfl, rfl, rfl, rfl, rfl, rfl, rfl, trivial⟩ ?_
  · exact Nat.zero_le _
  · rintro i h1; have h1 : i ≤ (plR 0 b).length := h1
    refine zD <| zD <| zB <| g_u (zC rfl rfl) <| g_u (zC rfl rfl) <| g_u (zz rfl rfl Tryd.underlying42) <| g_u (yd rfl rfl rfl) <| zH <| zA ?_
    refine zV rfl (fun hb1 => ?_) (fun hb1 => ?_)
    · have hi : i < (plR 0 b).length := by have := of_decide_eq_true hb1; (try simp only [List.length_map] at this); omega
      have hp := nthP_mem hi
      have hx1 := plQ_in hp
      have hro := ho _ (wd hx1)
      have hrx := y_ GRes.wt (wd hx1)
      have hrq : (nthR b (nthP (plR 0 b) i).1).wt = 1 + wtAs (nthR b (nthP (plR 0 b) i).1).attrs + zw GScope.wt (nthR b (nthP (plR 0 b) i).1).scopes := rfl
      have hso := spQ_ok ho hp
      have hsw := spQ_wt hp
      refine zY <| zA <| zD <| zT <| zD <| yM y6 <| g_u (zs rfl rfl) <| g_u (zF rfl rfl xA rfl) <| g_u (zG rfl rfl rfl tA22 tS22 rfl rfl) <| g_u (zC rfl rfl) <| g_u (zC rfl rfl) ?_
      refine g_u (zJ rfl rfl rfl Tryd.underlying42 tS47 (by omega) (ixP hi)) ?_
      refine g_u (zL rfl rfl fa47_0 rfl rfl) <| g_u (zN rfl rfl tA3 tS3 rfl rfl) ?_
      refine g_u (zJ rfl rfl rfl Tryd.underlying22 tS61 (by omega) (ixR hx1)) ?_
      refine g_u (zN rfl rfl tA61 tS61 rfl rfl) ?_
      refine g_u (zR (rservice_c (nthR b (nthP (plR 0 b) i).1) hro.1 (by omega)) rfl rfl) ?_
      refine g_u (ze (X0 := z9) rfl Tryd.underlying37 tS9 tZ9 rfl rfl rfl rfl rfl rfl rfl rfl) ?_
      refine g_u (z8 rfl rfl rfl rfl rfl Tryd.underlying37 Tryd.underlying37 tS9 zv9 rfl (by decide) by9 (by (try dsimp only); simp only [List.length_append, List.length_cons, List.length_nil, List.length_map, List.length_take, List.length_drop]; omega) (by (try dsimp only); simp only [List.length_append, List.length_cons, List.length_nil, List.length_map, List.length_take, List.length_drop]; omega)) ?_
      refine g_u (zx rfl rfl) ?_
      refine zH ⟨by kernel_rfl, ?_⟩
      refine zA <| yM y6 <| g_u (zs rfl rfl) <| g_u (zG rfl rfl rfl tA24 tS24 rfl rfl) <| g_u (zC rfl rfl) <| g_u (zC rfl rfl) ?_
      refine g_u (zJ rfl rfl rfl Tryd.underlying42 tS47 (by omega) (ixP hi)) ?_
      refine g_u (zN rfl rfl tA47 tS47 rfl rfl) <| g_u (zR (rspanP_c b (nthP (plR 0 b) i) hp) rfl rfl) ?_
      refine g_u (zR (rnzS_c _ hso (by omega)) rfl rfl) ?_
      refine g_u (ze (X0 := z36) rfl Tryd.underlying44 tS36 tZ36 rfl rfl rfl rfl rfl rfl rfl rfl) ?_
      refine g_u (z8 rfl rfl rfl rfl rfl Tryd.underlying44 Tryd.underlying44 tS36 zv36 rfl (by decide) by36 (by (try dsimp only); simp only [List.length_append, List.length_cons, List.length_nil, List.length_map, List.length_take, List.length_drop]; omega) (by (try dsimp only); simp only [List.length_append, List.length_cons, List.length_nil, List.length_map, List.length_take, List.length_drop]; omega)) ?_
      refine g_u (zx rfl rfl) ?_
      refine zH ⟨by kernel_rfl, ?_⟩
      refine zW <| zA <| zB <| g_u (zC rfl rfl) <| g_u (yK rfl rfl rfl) <| g_u (zE rfl rfl) <| zH <| zA ?_
      have e1 : ((((plR 0 b).take (i + 1)).map (rowP b)).map fun x => sv x.1) = ((((plR 0 b).take i).map (rowP b)).map fun x => sv x.1) ++ [sv (yp (nthR b (nthP (plR 0 b) i).1))] := by rw [zu (ye (d := p00) hi), List.map_append, List.map_append]; rfl
      have e2 : ((((plR 0 b).take (i + 1)).map (rowP b)).map fun x => x.2.av) = ((((plR 0 b).take i).map (rowP b)).map fun x => x.2.av) ++ [(nzS (spAt b (nthP (plR 0 b) i))).av] := by rw [zu (ye (d := p00) hi), List.map_append, List.map_append]; rfl
      refine ⟨i + 1, hi, ⟨rfl, rfl, rfl, rfl, rfl, yU rfl e1.symm, yB rfl e1.symm, yU rfl e2.symm, yB rfl e2.symm, zd rfl (by rw [z_ (by omega) (by omega)]; rfl), trivial⟩, by (try dsimp only); omega⟩
    · have hin : i = (plR 0 b).length := by have := of_decide_eq_false hb1; (try simp only [List.length_map] at this); omega
      rw [hin, List.take_length]
      refine zt <| zP <| zP <| zj <| zA <| zD <| zB <| g_u (zs rfl rfl) <| g_u (zs rfl rfl) ?_
      refine g_u (zR ((show zo Tryd.prog Γ0 19 [.sl 1 (((plR 0 b).map (rowP b)).map fun x => sv x.1), .sl 42 (((plR 0 b).map (rowP b)).map fun x => x.2.av)] [yV (nzB b)] from by rw [rows_pl0]; have h := rgroup_c ((yw b).map (·.1)) ((yw b).map (·.2)) (by rw [List.length_map]; omega) (by rw [List.length_map]; omega); rw [zip_fs, List.map_map, List.map_map] at h; exact h)) rfl rfl) ?_
      refine g_u (zX rfl rfl rfl tS24 rfl rfl) <| zH <| zA <| zQ ?_
      exact ⟨⟨_, _, _, _, _, _, _, rfl, rfl, tA24, tS24, rfl, rfl, (rfl : toAV _ = some _).trans (congrArg some (by rfl))⟩, trivial⟩
end Go.Proofs
namespace Go.Proofs
open Go Go.Al
set_option maxRecDepth 10000
set_option maxHeartbeats 8000000 in
theorem nzB0_c (hG : ∀ (ks : List ByteArray) (ss : List GSpan), ks.length ≤ 9000000 → ss.length ≤ 9000000 → zo Tryd.prog Γ0 18 [.sl 1 (ks.map fun x => sv x), .sl 42 (ss.map GSpan.av)] [yV (wU (ks.zip ss))]) (b : List GRes) (ho : okB b) (hw : wtB b ≤ 9000000) (hr : ∀ r ∈ b, risA none r.attrs) : zo Tryd.prog Γ0 13 [yV b] [yV (nzB b)] := by
  have qz := rowsZ_plR b
  have qw : wtB b = zw GRes.wt b := rfl
  have ql := yn GRes.wt (fun e => by unfold GRes.wt; omega) b
  refine zf Tryd.func13 rfl Tryd.ntmps13 (by kernel_rfl) rfl fun w0 I0 G0 => ?_
  refine zD <| zB <| g_uG (zn 1001 rfl rfl rfl rfl) rfl <| g_uG (z0 1002 rfl rfl rfl tZ24) rfl <| zH <| zA <| zD <| zB <| g_u (zE rfl rfl) <| zH <| zA <| zD <| zB <| g_u (zE rfl rfl) <| zH <| zA <| zD <| zD <| xN 3003 3 1 rfl rfl rfl rfl <| xN 3004 4 42 rfl rfl rfl rfl <| zB <| g_u (zF rfl rfl xA rfl) <| g_u (zG rfl rfl rfl tA22 tS22 rfl rfl) <| g_u (zz rfl rfl Tryd.underlying22) <| g_u (zC rfl rfl) <| zH <| zA <| zT ?_
  refine zq (fun i : Nat => [(1, .ptr 1001 0), (1001, .box 24 (.imm (yV b))), (2, .ptr 1002 0), (1002, .box 24 (.imm z24)), (3, .slg 3003 1 (((yw (b.take i))).map fun x => sv x.1)), (3003, .tok 1 (((yw (b.take i))).map fun x => sv x.1)), (4, .slg 3004 42 (((yw (b.take i))).map fun x => x.2.av)), (3004, .tok 42 (((yw (b.take i))).map fun x => x.2.av)), (13, .imm (.sl 2 (b.map GRes.av))), (14, .imm (iv (b.length : Int))), (15, .imm (iv (i : Int)))]) (fun i => i ≤ b.length) (fun i => b.length - i) (0) ?_ ⟨rfl, rfl, rfl, rfl, rfl, rfl, rfl, rfl, rfl, zd rfl (by rw [List.length_map]), rfl, trivial⟩ ?_
  · exact Nat.zero_le _
  · rintro i h1; have h1 : i ≤ b.length := h1
    refine zD <| zB <| g_u (yd rfl rfl rfl) <| zH <| zA <| zD ?_
    refine zV rfl (fun hb1 => ?_) (fun hb1 => ?_)
    · have hi : i < b.length := by have := of_decide_eq_true hb1; (try simp only [List.length_map] at this); omega
      have hro := ho _ (wd hi)
      have hrr := hr _ (wd hi)
      have hrx := y_ GRes.wt (wd hi)
      have hrq : (nthR b i).wt = 1 + wtAs (nthR b i).attrs + zw GScope.wt (nthR b i).scopes := rfl
      have hcl := yn GScope.wt (fun e => by unfold GScope.wt; omega) (nthR b i).scopes
      refine zY <| zA <| zD <| zT <| zD <| zB ?_
      refine g_u (zJ rfl rfl rfl Tryd.underlying22 tS61 (by omega) (ixR hi)) ?_
      refine g_u (zN rfl rfl tA61 tS61 rfl rfl) <| g_uG (z0 1006 rfl rfl rfl tZ61) rfl <| g_u (zX rfl rfl rfl tS61 rfl rfl) <| zH <| zA <| zD <| zB <| g_u (yW rfl rfl rfl tA61 tS61 rfl rfl) ?_
      refine g_u (zR (service_c (nthR b i) hro.1 (by omega) hrr) rfl rfl) ?_
      refine g_u (zE rfl rfl) <| zH <| zA <| zD <| zB <| g_u (zF rfl rfl wX rfl) <| g_u (zG rfl rfl rfl tA59 tS59 rfl rfl) <| g_u (zz rfl rfl Tryd.underlying59) <| g_u (zC rfl rfl) <| zH <| zA <| zT ?_
      refine zq (fun k : Nat => [(1, .ptr 1001 0), (1001, .box 24 (.imm (yV b))), (2, .ptr 1002 0), (1002, .box 24 (.imm z24)), (3, .slg 3003 1 (((yw (b.take i)) ++ (xP (nthR b i) (yG ((nthR b i).scopes.take k)))).map fun x => sv x.1)), (3003, .tok 1 (((yw (b.take i)) ++ (xP (nthR b i) (yG ((nthR b i).scopes.take k)))).map fun x => sv x.1)), (4, .slg 3004 42 (((yw (b.take i)) ++ (xP (nthR b i) (yG ((nthR b i).scopes.take k)))).map fun x => x.2.av)), (3004, .tok 42 (((yw (b.take i)) ++ (xP (nthR b i) (yG ((nthR b i).scopes.take k)))).map fun x => x.2.av)), (13, .imm (.sl 2 (b.map GRes.av))), (14, .imm (iv (b.length : Int))), (15, .imm (iv (i : Int))), (7, .imm (sv (yp (nthR b i)))), (22, .imm (.sl 3 ((nthR b i).scopes.map GScope.av))), (23, .imm (iv ((nthR b i).scopes.length : Int))), (24, .imm (iv (k : Int)))]) (fun k => k ≤ (nthR b i).scopes.length) (fun k => (nthR b i).scopes.length - k) (0) ?_ ⟨rfl, rfl, rfl, rfl, yU rfl (by simp [xP, yG]), yB rfl (by simp [xP, yG]), yU rfl (by simp [xP, yG]), yB rfl (by simp [xP, yG]), rfl, rfl, rfl, rfl, rfl, zd rfl (by rw [List.length_map]), rfl, trivial⟩ ?_
      · exact Nat.zero_le _
      · rintro k h2; have h2 : k ≤ (nthR b i).scopes.length := h2
        refine zD <| zB <| g_u (yd rfl rfl rfl) <| zH <| zA <| zD ?_
        refine zV rfl (fun hb2 => ?_) (fun hb2 => ?_)
        · have hk : k < (nthR b i).scopes.length := by have := of_decide_eq_true hb2; (try simp only [List.length_map] at this); omega
          have hcx := y_ GScope.wt (nthC_mem hk)
          have hco := hro.2 _ (nthC_mem hk)
          have hcq : (nthC (nthR b i).scopes k).wt = 1 + (nthC (nthR b i).scopes k).name.size + (nthC (nthR b i).scopes k).version.size + zw GSpan.wt (nthC (nthR b i).scopes k).spans := rfl
          have hsl := yn GSpan.wt (fun e => by unfold GSpan.wt; omega) (nthC (nthR b i).scopes k).spans
          refine zY <| zA <| zD <| zT <| zD <| zB ?_
          refine g_u (zJ rfl rfl rfl Tryd.underlying59 tS64 (by omega) (ixC hk)) ?_
          refine g_u (zN rfl rfl tA64 tS64 rfl rfl) <| g_uG (z0 1009 rfl rfl rfl tZ64) rfl <| g_u (zX rfl rfl rfl tS64 rfl rfl) <| zH <| zA <| zD <| zB <| g_u (zF rfl rfl fa64_2 rfl) <| g_u (zG rfl rfl rfl tA44 tS44 rfl rfl) <| g_u (zz rfl rfl Tryd.underlying44) <| g_u (zC rfl rfl) <| zH <| zA <| zT ?_
          refine zq (fun m : Nat => [(1, .ptr 1001 0), (1001, .box 24 (.imm (yV b))), (2, .ptr 1002 0), (1002, .box 24 (.imm z24)), (3, .slg 3003 1 (((yw (b.take i)) ++ (xP (nthR b i) (yG ((nthR b i).scopes.take k))) ++ (xP (nthR b i) ((nthC (nthR b i).scopes k).spans.take m))).map fun x => sv x.1)), (3003, .tok 1 (((yw (b.take i)) ++ (xP (nthR b i) (yG ((nthR b i).scopes.take k))) ++ (xP (nthR b i) ((nthC (nthR b i).scopes k).spans.take m))).map fun x => sv x.1)), (4, .slg 3004 42 (((yw (b.take i)) ++ (xP (nthR b i) (yG ((nthR b i).scopes.take k))) ++ (xP (nthR b i) ((nthC (nthR b i).scopes k).spans.take m))).map fun x => x.2.av)), (3004, .tok 42 (((yw (b.take i)) ++ (xP (nthR b i) (yG ((nthR b i).scopes.take k))) ++ (xP (nthR b i) ((nthC (nthR b i).scopes k).spans.take m))).map fun x => x.2.av)), (13, .imm (.sl 2 (b.map GRes.av))), (14, .imm (iv (b.length : Int))), (15, .imm (iv (i : Int))), (7, .imm (sv (yp (nthR b i)))), (22, .imm (.sl 3 ((nthR b i).scopes.map GScope.av))), (23, .imm (iv ((nthR b i).scopes.length : Int))), (24, .imm (iv (k : Int))), (29, .imm (.sl 42 ((nthC (nthR b i).scopes k).spans.map GSpan.av))), (30, .imm (iv ((nthC (nthR b i).scopes k).spans.length : Int))), (31, .imm (iv (m : Int)))]) (fun m => m ≤ (nthC (nthR b i).scopes k).spans.length) (fun m => (nthC (nthR b i).scopes k).spans.length - m) (0) ?_ ⟨rfl, rfl, rfl, rfl, yU rfl (by simp [xP]), yB rfl (by simp [xP]), yU rfl (by simp [xP]), yB rfl (by simp [xP]), rfl, rfl, rfl, rfl, rfl, rfl, rfl, rfl, zd rfl (by rw [List.length_map]), rfl, trivial⟩ ?_
          · exact Nat.zero_le _
          · rintro m h3; have h3 : m ≤ (nthC (nthR b i).scopes k).spans.length := h3
            refine zD <| zB <| g_u (yd rfl rfl rfl) <| zH <| zA <| zD ?_
            refine zV rfl (fun hb3 => ?_) (fun hb3 => ?_)
            · have hm : m < (nthC (nthR b i).scopes k).spans.length := by have := of_decide_eq_true hb3; (try simp only [List.length_map] at this); omega
              have hsx := y_ GSpan.wt (nthS_mem hm)
              have hso := hco.2.2 _ (nthS_mem hm)
              have q1 := rowsZ_part hi hk hm
              refine zY <| zA <| zD <| zT <| zD <| zB ?_
              refine g_u (zJ rfl rfl rfl Tryd.underlying44 tS36 (by omega) (ixS hm)) ?_
              refine g_u (zN rfl rfl tA36 tS36 rfl (by first | exact wG (GSpan.width _) rfl | rfl)) ?_
              refine g_uG (z0 1011 rfl rfl rfl tZ36) rfl ?_
              refine g_u (zX rfl rfl rfl tS36 (by first | exact beqW (GSpan.width _) | rfl) (by first | exact setS_w (z36_w.trans (GSpan.width _).symm) rfl | rfl)) ?_
              refine zH <| zA <| yM y6 <| g_u (zs rfl rfl) <| g_u (zC rfl rfl) <| g_u (ze (X0 := z9) rfl Tryd.underlying37 tS9 tZ9 rfl rfl rfl rfl rfl rfl rfl rfl) ?_
              refine g_u (z8 rfl rfl rfl rfl rfl Tryd.underlying37 Tryd.underlying37 tS9 zv9 rfl (by decide) by9 (by (try dsimp only); simp only [List.length_append, List.length_cons, List.length_nil, List.length_map] at q1 ⊢; omega) (by (try dsimp only); simp only [List.length_append, List.length_cons, List.length_nil, List.length_map] at q1 ⊢; omega)) ?_
              refine g_u (zs rfl rfl) ?_
              refine g_u (zG rfl rfl rfl tA36 tS36 rfl (by first | exact wG (GSpan.width _) rfl | rfl)) ?_
              refine g_u (zR (nzS_c _ hso (by omega)) rfl rfl) ?_
              refine g_u (ze (X0 := z36) rfl Tryd.underlying44 tS36 tZ36 rfl rfl rfl rfl rfl rfl rfl rfl) ?_
              refine g_u (z8 rfl rfl rfl rfl rfl Tryd.underlying44 Tryd.underlying44 tS36 zv36 rfl (by decide) by36 (by (try dsimp only); simp only [List.length_append, List.length_cons, List.length_nil, List.length_map] at q1 ⊢; omega) (by (try dsimp only); simp only [List.length_append, List.length_cons, List.length_nil, List.length_map] at q1 ⊢; omega)) ?_
              refine g_u (zx rfl rfl) <| g_u (zx rfl rfl) ?_
              refine zH ⟨by kernel_rfl, ?_⟩
              refine zW <| zA <| zB <| g_u (yK rfl rfl rfl) <| g_u (zC rfl rfl) <| zH <| zA ?_
              have et : (xP (nthR b i) ((nthC (nthR b i).scopes k).spans.take (m + 1))) = (xP (nthR b i) ((nthC (nthR b i).scopes k).spans.take m)) ++ [(yp (nthR b i), nzS (nthS (nthC (nthR b i).scopes k).spans m))] := by unfold xP; rw [zu (ye (d := gs0) hm), List.map_append]; rfl
              have ek : (((yw (b.take i)) ++ (xP (nthR b i) (yG ((nthR b i).scopes.take k))) ++ (xP (nthR b i) ((nthC (nthR b i).scopes k).spans.take (m + 1)))).map fun x => sv x.1) = (((yw (b.take i)) ++ (xP (nthR b i) (yG ((nthR b i).scopes.take k))) ++ (xP (nthR b i) ((nthC (nthR b i).scopes k).spans.take m))).map fun x => sv x.1) ++ [sv (yp (nthR b i))] := by rw [et, ← List.append_assoc, List.map_append]; rfl
              have es : (((yw (b.take i)) ++ (xP (nthR b i) (yG ((nthR b i).scopes.take k))) ++ (xP (nthR b i) ((nthC (nthR b i).scopes k).spans.take (m + 1)))).map fun x => x.2.av) = (((yw (b.take i)) ++ (xP (nthR b i) (yG ((nthR b i).scopes.take k))) ++ (xP (nthR b i) ((nthC (nthR b i).scopes k).spans.take m))).map fun x => x.2.av) ++ [(nzS (nthS (nthC (nthR b i).scopes k).spans m)).av] := by rw [et, ← List.append_assoc, List.map_append]; rfl
              refine ⟨m + 1, hm, ⟨rfl, rfl, rfl, rfl, yU rfl ek.symm, yB rfl ek.symm, yU rfl es.symm, yB rfl es.symm, rfl, rfl, rfl, rfl, rfl, rfl, rfl, rfl, rfl, zd rfl (by rw [z_ (by omega) (by omega)]; rfl), trivial⟩, by (try dsimp only); omega⟩
            · have hmn : m = (nthC (nthR b i).scopes k).spans.length := by have := of_decide_eq_false hb3; (try simp only [List.length_map] at this); omega
              refine zt <| zP <| zP <| zj <| zW <| zA <| zB <| g_u (yK rfl rfl rfl) <| g_u (zC rfl rfl) <| zH <| zA ?_
              have et : (yw (b.take i)) ++ (xP (nthR b i) (yG ((nthR b i).scopes.take (k + 1)))) = (yw (b.take i)) ++ (xP (nthR b i) (yG ((nthR b i).scopes.take k))) ++ (xP (nthR b i) ((nthC (nthR b i).scopes k).spans.take m)) := by rw [spansOf_take hk, rowsF_app, hmn, List.take_length, List.append_assoc]
              refine ⟨k + 1, hk, ⟨rfl, rfl, rfl, rfl, yU rfl (by rw [et]), yB rfl (by rw [et]), yU rfl (by rw [et]), yB rfl (by rw [et]), rfl, rfl, rfl, rfl, rfl, rfl, zd rfl (by rw [z_ (by omega) (by omega)]; rfl), trivial⟩, by (try dsimp only); omega⟩
        · have hkn : k = (nthR b i).scopes.length := by have := of_decide_eq_false hb2; (try simp only [List.length_map] at this); omega
          refine zt <| zP <| zP <| zj <| zW <| zA <| zB <| g_u (yK rfl rfl rfl) <| g_u (zC rfl rfl) <| zH <| zA ?_
          have et : (yw (b.take (i + 1))) = (yw (b.take i)) ++ (xP (nthR b i) (yG ((nthR b i).scopes.take k))) := by rw [rowsZ_take hi, hkn, List.take_length]
          refine ⟨i + 1, hi, ⟨rfl, rfl, rfl, rfl, yU rfl (by rw [et]), yB rfl (by rw [et]), yU rfl (by rw [et]), yB rfl (by rw [et]), rfl, rfl, zd rfl (by rw [z_ (by omega) (by omega)]; rfl), trivial⟩, by (try dsimp only); omega⟩
    · have hin : i = b.length := by have := of_decide_eq_false hb1; (try simp only [List.length_map] at this); omega
      rw [hin, List.take_length]
      refine zt <| zP <| zP <| zj <| zA <| zD <| zB <| g_u (zs rfl rfl) <| g_u (zs rfl rfl) ?_
      refine g_u (zR ((show zo Tryd.prog Γ0 18 [.sl 1 ((yw b).map fun x => sv x.1), .sl 42 ((yw b).map fun x => x.2.av)] [yV (nzB b)] from by have h := hG ((yw b).map (·.1)) ((yw b).map (·.2)) (by rw [List.length_map]; omega) (by rw [List.length_map]; omega); rw [zip_fs, List.map_map, List.map_map] at h; exact h)) rfl rfl) ?_
      refine g_u (zX rfl rfl rfl tS24 rfl rfl) <| zH <| zA <| zQ ?_
      exact ⟨⟨_, _, _, _, _, _, _, rfl, rfl, tA24, tS24, rfl, rfl, (rfl : toAV _ = some _).trans (congrArg some (by rfl))⟩, trivial⟩
end Go.Proofs
namespace Go.Al
open Go.RowKit
section
variable {C : Cx} {A : Nat → SV} {d : Nat} {ty : TypeId} {pos : String} {af : Array Edge} {gd : Option (Nat × Bool)} {x y : Operand} {T T' : TypeId}
end
end Go.Al
namespace Go.Al
open Go.RowKit
section
variable {C : Cx} {A : Nat → SV} {d : Nat} {ty : TypeId} {pos : String} {af : Array Edge} {gd : Option (Nat × Bool)} {x y : Operand} {T T' : TypeId}
theorem s_lookupYes {g : Nat} {kt vt : TypeId} {l : List ByteArray} {vs : List AV} {s : ByteArray} {v : AV} {i : Nat} (hN : Nat.blt d C.N = true) (hx : opS A x = .mref g) (hg : A g = .mpr (strs l) vs) (hy : opV A y = some (.v (.string s)))
    (hT : C.P.underlying T = some (.map kt vt)) (hk : C.P.underlying kt = some .string) (hm : mfind l s 0 = some i) (hv : vs[i]? = some v) :
    zk C ⟨some d, .lookup T x y true, ty, pos, af, gd⟩ (g :: (opR x ++ opR y)) [] A [(d, .tup [.imm v, .imm (.v (.bool true))])] := by
  refine zk.value rfl hN fun A' G a w hR S => ?_
  have hgA : A' g = .mpr (strs l) vs := (hR g List.mem_cons_self).trans hg
  obtain ⟨c, hc1, hc2⟩ := S.opS ((yZ (fun k hk => hR k (List.mem_cons_of_mem _ (List.mem_append_left _ hk)))).trans hx) rfl
  simp only [RepS] at hc1
  have hev : a.eval x = .map (some (G.blk g)) := by rw [hc2, hc1]; rfl
  rw [← yR (fun k hk => hR k (List.mem_cons_of_mem _ (List.mem_append_right _ hk)))] at hy
  have hys := xb (S.opV hy)
  have hb := S.holds g
  rw [hgA] at hb
  simp only [Holds] at hb
  obtain ⟨how, ⟨es, h1, h2, h3, h4⟩, hni⟩ := hb
  have hkeys : es.toList.map (·.key) = l.map Value.string := repVs_strs h3
  have hlen : es.size = l.length := by have := congrArg List.length hkeys; simpa using this
  have hi := mfind_lt hm
  have hie : i < es.size := by omega
  have hfind := run_findKey (P := C.P) (s := s) hk hkeys w
  have hobj := run_getMap (P := C.P) h1
  have e2 : (es.toList[i]?).map (fun e => (i, e.val)) = some (i, es[i].val) := by rw [Array.getElem?_toList, Array.getElem?_eq_getElem hie]; rfl
  obtain ⟨u, hu1, hu2⟩ := repVs_get h4 hv
  simp only [List.getElem?_map, Array.getElem?_toList, Array.getElem?_eq_getElem hie, Option.map_some, Option.some.injEq] at hu1
  refine ⟨.tuple #[u, .bool true], ?_, ⟨[u, .bool true], rfl, _, _, rfl, yf.2 hu2, _, _, rfl, yf.2 (xl _ _ rfl), rfl⟩⟩
  simp only [execOp, Instr.lookup, Sem.run_bind, zU hT, Result.andThen_ok, hev, hobj, hys, Sem.run_pure, run_checkKey hk, hfind, hm, Option.bind_some, e2, if_true, hu1]
theorem s_lookupNo {g : Nat} {kt vt : TypeId} {l : List ByteArray} {vs : List AV} {s : ByteArray} {z : Value} (hN : Nat.blt d C.N = true) (hx : opS A x = .mref g) (hg : A g = .mpr (strs l) vs) (hy : opV A y = some (.v (.string s)))
    (hT : C.P.underlying T = some (.map kt vt)) (hk : C.P.underlying kt = some .string) (hm : mfind l s 0 = none) (hz : xm C.P vt = some z) (hzp : plain z = true) :
    zk C ⟨some d, .lookup T x y true, ty, pos, af, gd⟩ (g :: (opR x ++ opR y)) [] A [(d, .tup [.imm (.v z), .imm (.v (.bool false))])] := by
  refine zk.value rfl hN fun A' G a w hR S => ?_
  have hgA : A' g = .mpr (strs l) vs := (hR g List.mem_cons_self).trans hg
  obtain ⟨c, hc1, hc2⟩ := S.opS ((yZ (fun k hk => hR k (List.mem_cons_of_mem _ (List.mem_append_left _ hk)))).trans hx) rfl
  simp only [RepS] at hc1
  have hev : a.eval x = .map (some (G.blk g)) := by rw [hc2, hc1]; rfl
  rw [← yR (fun k hk => hR k (List.mem_cons_of_mem _ (List.mem_append_right _ hk)))] at hy
  have hys := xb (S.opV hy)
  have hb := S.holds g
  rw [hgA] at hb
  simp only [Holds] at hb
  obtain ⟨how, ⟨es, h1, h2, h3, h4⟩, hni⟩ := hb
  have hkeys : es.toList.map (·.key) = l.map Value.string := repVs_strs h3
  have hfind := run_findKey (P := C.P) (s := s) hk hkeys w
  have hobj := run_getMap (P := C.P) h1
  refine ⟨.tuple #[z, .bool false], ?_, ⟨[z, .bool false], rfl, _, _, rfl, yf.2 (xl _ _ hzp), _, _, rfl, yf.2 (xl _ _ rfl), rfl⟩⟩
  simp only [execOp, Instr.lookup, Sem.run_bind, zU hT, Result.andThen_ok, hev, hobj, hys, Sem.run_pure, run_checkKey hk, hfind, hm, Option.bind_none, yv hz, if_true]
theorem s_ixRaw {el : TypeId} {b o n cap len : Nat} {i : Int} {k : IntKind} (hN : Nat.blt d C.N = true) (hx : opV A x = some (.v (.slice (some ⟨b, o, none⟩) len cap))) (hy : opV A y = some (.v (.int k i))) (hT : C.P.underlying T = some (.slice el)) (hn : yI C.P el = some n)
    (h : 0 ≤ i ∧ i < len) : zk C ⟨some d, .indexAddr T x y, ty, pos, af, gd⟩ (opR x ++ opR y) [] A [(d, .imm (.v (.pointer (some ⟨b, o + i.toNat * n, none⟩))))] := by
  refine zk.op2 rfl hN hx hy fun w I ρ h1 h2 => ?_
  have hi := yS h2
  have hv := rep_val h1 rfl
  refine ⟨_, ?_, xl w I rfl⟩
  simp only [execOp, Instr.indexAt, hi, hv, asIntOf, Sem.run_bind, Sem.run_pure, Result.andThen_ok, zU hT, h, and_self, if_true, yD hn, xL]
end
end Go.Al
namespace Go.Al
open Go.RowKit
theorem SimG.anew {C : Cx} {A A' : Nat → SV} {G G' : Gh} {a : Act} {w : World} (S : SimG C A G a w) (hI : G'.I = G.I) (hrel : ∀ g, C.K ≤ g → G'.blk g = G.blk g ∧ G'.cur g = G.cur g ∧ G'.len g = G.len g)
    (hh : ∀ k, Holds C.w0 C.E G' a w k (A' k)) (hap : ∀ k j b, k ≠ j → zh G' k b (A' k) → zh G' j b (A' j) → False) : SimG C A' G' a w :=
  ⟨S.os, S.tape, S.output, S.size, S.block, by rw [hI]; exact S.sub, fun g hg => (S.rel g hg).trans ⟨(hrel g hg).1, .inl (hrel g hg).2⟩, by rw [hI]; exact S.glob, by rw [hI]; exact S.new, by rw [hI]; exact S.val, S.nts, S.dfs, hh, hap⟩
def hdrB : Value → List Nat
  | .slice (some a) _ _ => [a.block]
  | _ => []
def ScOk (T : TypeId) (n : Nat) (w : World) (I : Nat → Nat → Prop) (b : Nat) (v : Value) (l : List AV) : Prop :=
  b < w.heap.size ∧ (∃ fr, w.heap[b]? = some (.cells #[.string .empty, .string .empty, v] T fr) ∧ unfrozen fr 3) ∧ (∀ o, ¬ I b o) ∧ TokS w (fun _ => True) I w v n l
theorem TokS.keep {w w' : World} {I I' : Nat → Nat → Prop} {v : Value} {n : Nat} {l : List AV} (h : TokS w (fun _ => True) I w v n l) (hle : Le w I w' I') (ho : ∀ b, b ∈ hdrB v → w'.heap[b]? = w.heap[b]? ∧ ∀ o, I' b o → I b o) : TokS w' (fun _ => True) I' w' v n l := by
  rcases h with h | ⟨b, cap, h1, h2, h3, h4, h5, ⟨cs, T, fr, h6, h7, h8⟩, h9⟩
  · exact .inl h
  · obtain ⟨e4, e5⟩ := ho b (by rw [h1]; exact List.mem_singleton.2 rfl)
    have hb : b < w'.heap.size := by
      have := e4.trans h6
      exact (Array.getElem?_eq_some_iff.1 this).1
    exact .inr ⟨b, cap, h1, h2, h3, RepM.mono hle n l b 0 h4, ⟨.inr trivial, hb⟩, ⟨cs, T, fr, by rw [e4]; exact h6, h7, h8⟩, fun o ho' hi => h9 o ho' (e5 o hi)⟩
theorem ScOk.keep {T : TypeId} {n : Nat} {w w' : World} {I I' : Nat → Nat → Prop} {b : Nat} {v : Value} {l : List AV} (h : ScOk T n w I b v l) (hle : Le w I w' I') (ho : ∀ c, c = b ∨ c ∈ hdrB v → w'.heap[c]? = w.heap[c]? ∧ ∀ o, I' c o → I c o) : ScOk T n w' I' b v l := by
  obtain ⟨h1, ⟨fr, h2, h3⟩, h4, h5⟩ := h
  obtain ⟨e1, e2⟩ := ho b (.inl rfl)
  have h2' := e1.trans h2
  exact ⟨(Array.getElem?_eq_some_iff.1 h2').1, ⟨fr, h2', h3⟩, fun o hi => h4 o (e2 o hi), h5.keep hle fun c hc => ho c (.inr hc)⟩
theorem TokS.kind {w : World} {I : Nat → Nat → Prop} {v : Value} {n : Nat} {l : List AV} (h : TokS w (fun _ => True) I w v n l) {b : Nat} (hb : b ∈ hdrB v) {o : Obj} (ho : w.heap[b]? = some o) : isBook o = false := by
  rcases h with ⟨rfl, _⟩ | ⟨b', cap, h1, _, _, _, _, ⟨cs, T, fr, h6, _⟩, _⟩
  · cases hb
  · rw [h1] at hb
    cases List.mem_singleton.1 hb
    rw [h6] at ho; cases ho; rfl
def tupV : Value → List Value
  | .tuple vs => vs.toList
  | _ => []
def HoleOk (T : TypeId) (w : World) (I : Nat → Nat → Prop) (b : Nat) : Prop := b < w.heap.size ∧ (∃ fr v, w.heap[b]? = some (.cells #[.string .empty, .string .empty, v] T fr) ∧ unfrozen fr 3) ∧ ∀ o, ¬ I b o
theorem HoleOk.keep {T : TypeId} {w w' : World} {I I' : Nat → Nat → Prop} {b : Nat} (h : HoleOk T w I b) (ho : w'.heap[b]? = w.heap[b]? ∧ ∀ o, I' b o → I b o) : HoleOk T w' I' b := by
  obtain ⟨h1, ⟨fr, v, h2, h3⟩, h4⟩ := h
  have h2' := ho.1.trans h2
  exact ⟨(Array.getElem?_eq_some_iff.1 h2').1, ⟨fr, v, h2', h3⟩, fun o hi => h4 o (ho.2 o hi)⟩
def ScF (T : TypeId) (n : Nat) (bs : List Nat) (ls : List (List AV)) (ex : Nat) : Nat → Value → Nat → HRes := fun _ cur _ =>
  { own := fun b => ∃ j c v, bs[j]? = some c ∧ (tupV cur)[j]? = some v ∧ (b = c ∨ (j ≠ ex ∧ b ∈ hdrB v))
    ok := fun w I => (tupV cur).length = bs.length ∧ ls.length = bs.length ∧ (∀ j c v l, j ≠ ex → bs[j]? = some c → (tupV cur)[j]? = some v → ls[j]? = some l → ScOk T n w I c v l) ∧
      (∀ c, bs[ex]? = some c → HoleOk T w I c) ∧
      (∀ j k c c' v v' b, j ≠ k → bs[j]? = some c → bs[k]? = some c' → (tupV cur)[j]? = some v → (tupV cur)[k]? = some v' → (b = c ∨ (j ≠ ex ∧ b ∈ hdrB v)) → (b = c' ∨ (k ≠ ex ∧ b ∈ hdrB v')) → False) ∧
      (∀ j c v, j ≠ ex → bs[j]? = some c → (tupV cur)[j]? = some v → c ∉ hdrB v)
    keep := fun w I w' I' h hle ho => ⟨h.1, h.2.1, fun j c v l hj hc hv hl => (h.2.2.1 j c v l hj hc hv hl).keep hle fun b hb => ho b ⟨j, c, v, hc, hv, hb.imp_right fun hb => ⟨hj, hb⟩⟩,
      fun c hc => (h.2.2.2.1 c hc).keep (by
        have hlt := (List.getElem?_eq_some_iff.1 hc).1
        exact ho c ⟨ex, c, (tupV cur)[ex]'(by rw [h.1]; exact hlt), hc, List.getElem?_eq_getElem _, .inl rfl⟩), h.2.2.2.2⟩
    kind := fun w I b o h hb ho => by
      obtain ⟨j, c, v, hc, hv, hb⟩ := hb
      by_cases hj : j = ex
      · subst hj
        rcases hb with rfl | ⟨hb, _⟩
        · obtain ⟨_, ⟨fr, v', h2, _⟩, _⟩ := h.2.2.2.1 _ hc
          rw [h2] at ho; cases ho; rfl
        · exact absurd rfl hb
      · have hlt : j < ls.length := by rw [h.2.1]; exact (List.getElem?_eq_some_iff.1 hc).1
        have hok := h.2.2.1 j c v ls[j] hj hc hv (List.getElem?_eq_getElem hlt)
        rcases hb with rfl | ⟨_, hb⟩
        · obtain ⟨_, ⟨fr, h2, _⟩, _⟩ := hok
          rw [h2] at ho; cases ho; rfl
        · exact hok.2.2.2.kind hb ho }
end Go.Al
