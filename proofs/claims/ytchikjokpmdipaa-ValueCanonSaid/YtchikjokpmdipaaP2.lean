/- Texts that the proofs of this claim share, part 2: the abstract logic, plain Lean on values and batches, and walks. No condition but those typed in each lemma. -/
import Derived.Laws.Externs
import Derived.Lib.Bytealg
import Derived.Test.YtchikjokpmdipaaP1
set_option linter.unusedSimpArgs false
set_option linter.unusedVariables false
namespace Go.Al
open Go.RowKit

section
variable {C : Cx} {A : Nat → SV} {d : Nat} {ty : TypeId} {pos : String} {af : Array Edge} {gd : Option (Nat × Bool)} {x y : Operand} {T T' : TypeId}

/-! ### Package variables, arrays -/

end

/-! ### A row of one's own that grows from now on, wherever it is named -/

def Fz (g g' n len cap : Nat) (l : List AV) (x y : SV) : Prop :=
  y = x ∨ (x = .osl g 0 len cap ∧ y = .slg g' n l) ∨ ∃ T, x = .box T (.osl g 0 len cap) ∧ y = .box T (.slg g' n l)

theorem SimG.freezeW {C : Cx} {A B : Nat → SV} {G : Gh} {a : Act} {w : World} (S : SimG C A G a w) {g g' n len cap : Nat} {T0 : TypeId} {xs l : List AV} (hgN : C.N ≤ g) (hgN' : C.N ≤ g') (hgK : g' < C.K) (hgg : g ≠ g') (hg : A g = .box T0 (.imm (.agg xs)))
    (hw : ∀ x ∈ xs, x.width = n) (hcap : cap = xs.length) (hlen : len ≤ cap) (hmax : cap ≤ maxLen) (hl : xs.take len = l) (hf : ∀ j, noG [g'] (A j) = true) (hB : ∀ j, j ≠ g' → B j = .dead ∨ Fz g g' n len cap l (A j) (B j)) (hBg : B g = .dead) (hB' : B g' = .tok n l) :
    Sim C B a w := by
  subst hl
  have hb := S.holds g
  rw [hg] at hb
  simp only [Holds] at hb
  obtain ⟨how, ⟨cs, fr, hb2, hb3, hb4⟩, hni⟩ := hb
  simp only [RepS, RepC] at hb3
  have hE := (repCs_E hw).1 hb3
  have hcl := hE.len
  simp only [Array.length_toList] at hcl
  obtain ⟨q1, _⟩ := hE.split len (by omega)
  let I' : Nat → Nat → Prop := fun b o => G.I b o ∨ (b = G.blk g ∧ o < len * n)
  let G' : Gh := { I := I', blk := G.blk, cur := fun j => if j = g' then .slice (some ⟨G.blk g, 0, none⟩) len cap else G.cur j, len := fun j => if j = g' then len else G.len j }
  have hle : Le w G.I w I' := fun b o h => ⟨.inl h, kp_of_block rfl⟩
  have hrel : GRel [g'] G G' := fun j hj => by
    have hjg : j ≠ g' := by simpa using hj
    exact ⟨rfl, .inl ⟨by simp only [G', if_neg hjg], by simp only [G', if_neg hjg]⟩⟩
  have hmul : len * n ≤ cap * n := mul_le_of hlen
  have hcells : CellsAt w I' (G.blk g) 0 (cs.toList.take (len * n)) := by
    intro j hj
    rw [List.length_take, Array.length_toList] at hj
    refine ⟨?_, .inr ⟨rfl, by omega⟩⟩
    rw [cell_at hb2, Nat.zero_add]
    simp only [List.getElem_take]
    rw [Array.getElem?_eq_getElem (by omega)]
    simp
  have hM : RepM w I' n (xs.take len) (G.blk g) 0 := (q1.mono hle).mem hcells
  have htl : (xs.take len).length = len := by rw [List.length_take]; omega
  have hslgc : RepS w G' (.slg g' n (xs.take len)) [.slice (some ⟨G.blk g, 0, none⟩) len cap] := by
    simp only [RepS, RepC]
    refine ⟨_, rfl, ⟨_, rfl, .inr ⟨G.blk g, 0, cap, by rw [htl], by rw [htl]; exact hlen, hmax, hM⟩⟩, by simp only [G', if_true, htl]; omega, fun _ => by simp only [G', if_true]⟩
  have hslg : ∀ v, ValS w G (.osl g 0 len cap) v → ValS w G' (.slg g' n (xs.take len)) v := by
    rintro v ⟨c, h1, h2⟩
    simp only [RepS] at h1
    subst h1
    exact ⟨_, hslgc, h2⟩
  have own' : ∀ j b, ownsB G' j b (B j) → (j = g' ∧ b = G.blk g) ∨ (j ≠ g' ∧ j ≠ g ∧ ownsB G j b (A j)) := by
    intro j b h
    by_cases hj : j = g'
    · subst hj
      rw [hB'] at h
      simp only [ownsB, G', if_true] at h
      obtain ⟨ad, n', c', h1, h2⟩ := h
      simp only [Value.slice.injEq, Option.some.injEq] at h1
      exact .inl ⟨rfl, by rw [← h2, ← h1.1]⟩
    · by_cases hjg : j = g
      · subst hjg; rw [hBg] at h; simp only [ownsB] at h
      · refine .inr ⟨hj, hjg, ?_⟩
        rcases hB j hj with e | e | ⟨_, e⟩ | ⟨T, e1, e⟩
        · rw [e] at h; simp only [ownsB] at h
        · rw [e] at h
          revert h
          generalize A j = y
          cases y <;> simp only [ownsB, G', if_neg hj] <;> exact id
        · rw [e] at h; simp only [ownsB] at h
        · rw [e] at h; rw [e1]; simpa only [ownsB] using h
  refine ⟨G', S.os, S.tape, S.output, S.size, S.block, S.sub.trans hle, fun j hj => (S.rel j hj).trans (hrel j (by simp; omega)), S.glob.mono hle, fun b o h => ?_, fun b o h => ?_, S.nts, S.dfs, fun j => ?_, fun j j' b hj h1 h2 => ?_⟩
  · rcases h with h | ⟨rfl, _⟩
    · exact S.new b o h
    · exact .inr how.1
  · rcases h with h | ⟨rfl, _⟩
    · exact S.val b o h
    · exact how.2
  · by_cases hj : j = g'
    · subst hj
      rw [hB']
      simp only [Holds, G', if_true, htl]
      refine ⟨trivial, .inr ⟨G.blk g, cap, by rw [htl], by rw [htl]; exact hlen, hmax, hM, how, ⟨cs, T0, fr, hb2, by rw [hcl, hcap], hb4⟩, ?_⟩⟩
      intro o ho hi
      rw [htl] at ho
      rcases hi with hi | ⟨_, h2⟩
      · exact hni o hi
      · omega
    · by_cases hjg : j = g
      · subst hjg; rw [hBg]; simp only [Holds]
      · have keep : Holds C.w0 C.E G' a w j (A j) := (S.holds j).keep hle hrel (hf j) (Nat.le_refl _) (fun h => ⟨h, rfl⟩) (fun _ => ⟨rfl, by simp only [G', if_neg hj], by simp only [G', if_neg hj]⟩) (fun b hbk => ⟨rfl, fun o hi => by
          rcases hi with hi | ⟨rfl, _⟩
          · exact hi
          · exact (S.apart j g _ hjg hbk (by rw [hg]; simp [ownsB])).elim⟩)
        rcases hB j hj with e | e | ⟨e1, e⟩ | ⟨T, e1, e⟩
        · rw [e]; simp only [Holds]
        · rw [e]; exact keep
        · rw [e]
          have hk := S.holds j
          rw [e1] at hk
          exact ⟨hk.1, hslg _ hk.2⟩
        · rw [e]
          have hk := S.holds j
          rw [e1] at hk keep
          simp only [Holds] at hk keep ⊢
          obtain ⟨m1, ⟨cs1, fr1, m2, m3, m4⟩, m5⟩ := hk
          refine ⟨keep.1, ⟨cs1, fr1, m2, ?_, m4⟩, keep.2.2⟩
          simp only [RepS] at m3
          show RepS w G' (.slg g' n (xs.take len)) cs1.toList
          rw [m3]; exact hslgc
  · rcases own' j b h1 with ⟨e1, e2⟩ | ⟨e1, e2, e3⟩
    · rcases own' j' b h2 with ⟨e4, e5⟩ | ⟨e4, e5, e6⟩
      · exact hj (e1.trans e4.symm)
      · subst e2; exact S.apart j' g _ e5 e6 (by rw [hg]; simp [ownsB])
    · rcases own' j' b h2 with ⟨e4, e5⟩ | ⟨e4, e5, e6⟩
      · subst e5; exact S.apart j g _ e2 e3 (by rw [hg]; simp [ownsB])
      · exact S.apart j j' b hj e3 e6

end Go.Al

namespace Go.Al
open Go.RowKit

section
variable {C : Cx} {A : Nat → SV} {d : Nat} {ty : TypeId} {pos : String} {af : Array Edge} {gd : Option (Nat × Bool)} {x y : Operand} {T T' : TypeId}

end

/-! ### Widths of elements -/
def W1 (xs : List AV) : Prop := ∀ x ∈ xs, x.width = 1
theorem W1.bytes (l : List UInt8) : W1 (bytesL l) := by
  intro x hx
  simp only [bytesL, List.mem_map] at hx
  obtain ⟨b, _, rfl⟩ := hx
  rfl
theorem W1.nil : W1 [] := fun x hx => by cases hx
theorem W1.cons {n : Int} {b : List AV} (k : W1 b) : W1 (.v (.int .u8 n) :: b) := fun x hx => (List.mem_cons.1 hx).elim (fun h => by rw [h]; rfl) (k x)
/-! ### A nil slice handed to what grows it -/
end Go.Al

namespace Go.Al
open Go.RowKit

/-! ### A row that grows takes the name of a shorter one -/

end Go.Al

namespace Go.Al
open Go.RowKit
section
variable {C : Cx} {A : Nat → SV} {d : Nat} {ty : TypeId} {pos : String} {af : Array Edge} {gd : Option (Nat × Bool)} {x y : Operand} {T T' : TypeId}

end
end Go.Al

namespace Go.Al
open Go.RowKit

mutual
theorem noG_split {g g' : Nat} : ∀ x : SV, noG [g, g'] x = true → noG [g] x = true ∧ noG [g'] x = true
  | .ptr k _, h => by simp only [noG] at h ⊢; simp at h ⊢; exact h
  | .slg k _ _, h => by simp only [noG] at h ⊢; simp at h ⊢; exact h
  | .osl k _ _ _, h => by simp only [noG] at h ⊢; simp at h ⊢; exact h
  | .mref k, h => by simp only [noG] at h ⊢; simp at h ⊢; exact h
  | .itr k _ _, h => by simp only [noG] at h ⊢; simp at h ⊢; exact h
  | .agg fs, h => by simp only [noG] at h ⊢; exact noGs_split fs h
  | .tup fs, h => by simp only [noG] at h ⊢; exact noGs_split fs h
  | .box _ x, h => by simp only [noG] at h ⊢; exact noG_split x h
  | .fnv _ a b, h => by
    simp only [noG, Bool.and_eq_true] at h ⊢
    exact ⟨⟨(noGs_split a h.1).1, (noGs_split b h.2).1⟩, (noGs_split a h.1).2, (noGs_split b h.2).2⟩
  | .imm _, _ => by simp only [noG]; trivial
  | .dead, _ => by simp only [noG]; trivial
  | .undef, _ => by simp only [noG]; trivial
  | .tok _ _, _ => by simp only [noG]; trivial
  | .mpr _ _, _ => by simp only [noG]; trivial
  | .row _, _ => by simp only [noG]; trivial
theorem noGs_split {g g' : Nat} : ∀ xs : List SV, noGs [g, g'] xs = true → noGs [g] xs = true ∧ noGs [g'] xs = true
  | [], _ => ⟨rfl, rfl⟩
  | x :: xs, h => by
    simp only [noGs, Bool.and_eq_true] at h ⊢
    exact ⟨⟨(noG_split x h.1).1, (noGs_split xs h.2).1⟩, (noG_split x h.1).2, (noGs_split xs h.2).2⟩
end

theorem SimG.drop {C : Cx} {A B : Nat → SV} {G : Gh} {a : Act} {w : World} (S : SimG C A G a w) (h : ∀ k, B k = A k ∨ B k = .dead) : SimG C B G a w := by
  refine ⟨S.os, S.tape, S.output, S.size, S.block, S.sub, S.rel, S.glob, S.new, S.val, S.nts, S.dfs, fun k => ?_, fun k j b hkj h1 h2 => ?_⟩
  · rcases h k with e | e
    · rw [e]; exact S.holds k
    · rw [e]; simp only [Holds]
  · rcases h k with e | e
    · rcases h j with e' | e'
      · rw [e] at h1; rw [e'] at h2; exact S.apart k j b hkj h1 h2
      · rw [e'] at h2; simp only [ownsB] at h2
    · rw [e] at h1; simp only [ownsB] at h1

section
variable {C : Cx} {A : Nat → SV} {d : Nat} {ty : TypeId} {pos : String} {af : Array Edge} {gd : Option (Nat × Bool)} {x y : Operand} {T T' : TypeId}

theorem run_buildSlice0 {P : Program} {w : World} {T el : TypeId} {n : Nat} (hT : P.underlying T = some (.slice el)) (hn : tySize P el = some n) :
    (Instr.buildSlice T 0 #[]).run P w = .ok (.slice (some ⟨w.heap.size, 0, none⟩) 0 0) (w.alloc (.cells #[] el)) := by
  simp only [Instr.buildSlice, Sem.run_bind, run_underlying' hT, Result.andThen_ok, run_sizeOf hn, Nat.zero_mul]
  rw [if_neg (by omega)]
  simp only [Sem.run_bind, Sem.run_pure, Result.andThen_ok, if_true]
  simp only [Instr.fill, newRow, run_newObj, Sem.run_bind, Result.andThen_ok, Sem.run_pure]
  rw [show Array.range 0 = #[] from rfl, Array.map_empty]
  rfl

/-- A row of nothing, that grows from now on. -/
theorem s_build0 (g g' : Nat) {el : TypeId} {n : Nat} (hgN : Nat.ble C.N g = true) (hgN' : Nat.ble C.N g' = true) (hgK : Nat.blt g C.K = true) (hgK' : Nat.blt g' C.K = true) (hgg : Nat.beq g g' = false) (hN : Nat.blt d C.N = true) (hT : C.P.underlying T = some (.slice el)) (hn : tySize C.P el = some n) :
    StepU C ⟨some d, .buildSlice T 0 #[], ty, pos, af, gd⟩ [] [g, g'] A [(g', .tok n []), (d, .slg g' n []), (g, .dead)] := by
  intro A' a w hR hF ⟨G, S⟩
  have hN' : d < C.N := by simpa [Nat.blt_eq] using hN
  have hgd : g ≠ d := by have := Nat.le_of_ble_eq_true hgN; omega
  have hgd' : g' ≠ d := by have := Nat.le_of_ble_eq_true hgN'; omega
  have hne : g ≠ g' := by rintro rfl; rw [Nat.beq_refl] at hgg; cases hgg
  have k1 := run_buildSlice0 (w := w) hT hn
  let A0 : Nat → SV := fun k => if k = g' then .dead else A' k
  have S0 : SimG C A0 G a w := S.drop fun k => by by_cases h : k = g' <;> simp [A0, h]
  have hfr : ∀ k, k ≠ g → k ≠ d → noG [g, g'] (A0 k) = true := by
    intro k h1 h2
    by_cases h3 : k = g'
    · simp [A0, h3, noG]
    · have := hF k (by simp only [has, nat_beq_false (Ne.symm h3), nat_beq_false (Ne.symm h2), nat_beq_false (Ne.symm h1)]; rfl)
      simpa [A0, h3] using this
  have hb1 := S0.allocBox (T := el) (cs := #[]) (x := .imm (.agg [])) hgd (by simpa [Nat.blt_eq] using hgK) hN' (by simp only [RepS, RepC, RepCs]) (by simp only [noG]) (fun k hk => by
    simp only [has, Bool.or_eq_false_iff] at hk
    have h1 : k ≠ g := by rintro rfl; rw [Nat.beq_refl] at hk; cases hk.1
    have h2 : k ≠ d := by rintro rfl; rw [Nat.beq_refl] at hk; cases hk.2.1
    exact (noG_split _ (hfr k h1 h2)).1)
  obtain ⟨G1, S1⟩ := hb1
  have hgA : G1.blk g = w.heap.size := by
    have h1 := S1.holds d
    have e : upd A0 [(g, .box el (.imm (.agg []))), (d, .ptr g 0)] d = .ptr g 0 := by simp only [upd]; rw [nat_beq_false hgd]; simp
    rw [e] at h1
    obtain ⟨_, c, h2, h3⟩ := h1
    simp only [RepS] at h2
    rw [h2] at h3
    have e2 : (a.put (some d) (.pointer (some ⟨w.heap.size, 0, none⟩))).tmps.getD d Go.undef = .pointer (some ⟨w.heap.size, 0, none⟩) := by simp [Act.put, S.nts, hN']
    rw [e2] at h3
    simp only [mkS, SV.isAgg, Bool.false_eq_true, if_false, List.headD_cons, Value.pointer.injEq, Option.some.injEq, Addr.mk.injEq] at h3
    exact h3.1.symm
  have S2 := S1.put hN' (x := .osl g 0 0 0) (v := .slice (some ⟨w.heap.size, 0, none⟩) 0 0) ⟨[.slice (some ⟨G1.blk g, 0, none⟩) 0 0], by simp only [RepS], by simp only [mkS, SV.isAgg, hgA]; rfl⟩
  rw [Act.put_put] at S2
  have eu : ∀ k, upd (upd A0 [(g, .box el (.imm (.agg []))), (d, .ptr g 0)]) [(d, .osl g 0 0 0)] k = if k = g then .box el (.imm (.agg [])) else if k = d then .osl g 0 0 0 else A0 k := by
    intro k
    simp only [upd]
    by_cases hkd : d = k
    · subst hkd; rw [if_neg (Ne.symm hgd)]; simp
    · rw [nat_beq_false hkd]
      by_cases hkg : g = k
      · subst hkg; simp
      · rw [nat_beq_false hkg, if_neg (Ne.symm hkg), if_neg (Ne.symm hkd)]; simp
  have S3 := S2.freezeW (B := upd A' [(g', .tok n []), (d, .slg g' n []), (g, .dead)]) (g := g) (g' := g') (n := n) (len := 0) (cap := 0) (T0 := el) (xs := []) (l := []) (Nat.le_of_ble_eq_true hgN) (Nat.le_of_ble_eq_true hgN') (by simpa [Nat.blt_eq] using hgK') hne (by rw [eu, if_pos rfl]) (by simp) rfl (Nat.le_refl _) (Nat.zero_le _) rfl
    (fun j => by
      rw [eu]
      split
      · simp only [noG]
      · split
        · simp only [noG]; simp [hne]
        · rename_i h1 h2; exact (noG_split _ (hfr j h1 h2)).2)
    (fun j hj => by
      rw [eu]
      simp only [upd, nat_beq_false (Ne.symm hj), cond_false]
      by_cases hjd : d = j
      · subst hjd; rw [Nat.beq_refl, if_neg (Ne.symm hgd), if_pos rfl]; exact .inr (.inr (.inl ⟨rfl, rfl⟩))
      · rw [nat_beq_false hjd]
        by_cases hjg : g = j
        · subst hjg; left; simp
        · rw [nat_beq_false hjg, if_neg (Ne.symm hjg), if_neg (Ne.symm hjd)]; right; left; simp [A0, hj])
    (by simp only [upd, nat_beq_false (Ne.symm hne), nat_beq_false (Ne.symm hgd), cond_false, Nat.beq_refl, cond_true]) (by simp only [upd, Nat.beq_refl, cond_true])
  unfold Oper.wp
  simp only [execOp, Sem.run_bind, Array.map_empty, k1, Result.andThen_ok, Sem.run_pure, Oper.upon_value]
  exact S3
end
end Go.Al

namespace Go.Al
open Go.RowKit

/-! ### A field of one's own box that holds no row yet: a row that grows from now on -/

end Go.Al

