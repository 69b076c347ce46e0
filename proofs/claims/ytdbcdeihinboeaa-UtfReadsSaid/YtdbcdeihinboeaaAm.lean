/- An abstract logic for walks through functions (Am): abstract values, what they stand for in memory, states of a frame, steps, regions in whatever order, code, contracts. Without conditions: each lemma bears its own. -/
import Derived.Test.YtdbcdeihinboeaaAl
import Derived.Laws.BytesString
set_option linter.unusedSimpArgs false
set_option linter.unusedVariables false
namespace Go.Al
open Go.RowKit

/-! ### Slices that are made -/

/-- The cells of elements, one behind the other. -/
def RepE (w : World) (I : Nat → Nat → Prop) (n : Nat) : List AV → List Value → Prop
  | [], cs => cs = []
  | p :: ps, cs => ∃ c1 c2, cs = c1 ++ c2 ∧ c1.length = n ∧ RepC w I p c1 ∧ RepE w I n ps c2

theorem RepE.len {w : World} {I : Nat → Nat → Prop} {n : Nat} : ∀ {l : List AV} {cs : List Value}, RepE w I n l cs → cs.length = l.length * n
  | [], _, h => by simp only [RepE] at h; simp [h]
  | p :: ps, cs, h => by
    simp only [RepE] at h
    obtain ⟨c1, c2, rfl, h1, _, h2⟩ := h
    rw [List.length_append, h1, RepE.len h2, List.length_cons, Nat.add_mul]; omega

theorem RepE.mono {w w' : World} {I I' : Nat → Nat → Prop} {n : Nat} (hle : Le w I w' I') : ∀ {l : List AV} {cs : List Value}, RepE w I n l cs → RepE w' I' n l cs
  | [], _, h => by simpa only [RepE] using h
  | p :: ps, cs, h => by
    simp only [RepE] at h ⊢
    obtain ⟨c1, c2, h0, h1, h2, h3⟩ := h
    exact ⟨c1, c2, h0, h1, RepC.mono hle _ _ h2, RepE.mono hle h3⟩

theorem RepE.append {w : World} {I : Nat → Nat → Prop} {n : Nat} : ∀ {l m : List AV} {cs ds : List Value}, RepE w I n l cs → RepE w I n m ds → RepE w I n (l ++ m) (cs ++ ds)
  | [], _, _, _, h, k => by simp only [RepE] at h; subst h; exact k
  | p :: ps, m, cs, ds, h, k => by
    simp only [RepE] at h
    obtain ⟨c1, c2, rfl, h1, h2, h3⟩ := h
    simp only [List.cons_append, RepE]
    exact ⟨c1, c2 ++ ds, by simp, h1, h2, RepE.append h3 k⟩

theorem RepE.plain {w : World} {I : Nat → Nat → Prop} {n : Nat} : ∀ {l : List AV} {cs : List Value}, RepE w I n l cs → cs.all Al.plain = true
  | [], _, h => by simp only [RepE] at h; simp [h]
  | p :: ps, cs, h => by
    simp only [RepE] at h
    obtain ⟨c1, c2, rfl, _, h2, h3⟩ := h
    rw [List.all_append, RepC.plain p c1 h2, RepE.plain h3]; rfl

/-- What lies in memory reads as its cells. -/
theorem RepM.cells {w : World} {I : Nat → Nat → Prop} {n : Nat} : ∀ {l : List AV} {b o : Nat}, RepM w I n l b o → ∃ cs, RepE w I n l cs ∧ CellsAt w I b o cs
  | [], b, o, _ => ⟨[], by simp only [RepE], fun j h => by simp at h⟩
  | p :: ps, b, o, h => by
    simp only [RepM] at h
    obtain ⟨⟨c, h1, h2, h3⟩, h4⟩ := h
    obtain ⟨cs, k1, k2⟩ := RepM.cells h4
    refine ⟨c ++ cs, by simp only [RepE]; exact ⟨c, cs, rfl, h1, h2, k1⟩, fun j hj => ?_⟩
    rw [List.length_append] at hj
    by_cases hjc : j < c.length
    · rw [List.getElem_append_left hjc]; exact h3 j hjc
    · rw [List.getElem_append_right (by omega)]
      have := k2 (j - c.length) (by omega)
      rw [show o + n + (j - c.length) = o + j from by omega] at this
      exact this

theorem RepE.mem {w : World} {I : Nat → Nat → Prop} {n : Nat} : ∀ {l : List AV} {cs : List Value} {b o : Nat}, RepE w I n l cs → CellsAt w I b o cs → RepM w I n l b o
  | [], _, _, _, _, _ => by simp only [RepM]
  | p :: ps, cs, b, o, h, k => by
    simp only [RepE] at h
    obtain ⟨c1, c2, rfl, h1, h2, h3⟩ := h
    simp only [RepM]
    refine ⟨⟨c1, h1, h2, fun j hj => ?_⟩, RepE.mem h3 fun j hj => ?_⟩
    · have := k j (by rw [List.length_append]; omega)
      rw [List.getElem_append_left hj] at this; exact this
    · have := k (n + j) (by rw [List.length_append]; omega)
      rw [List.getElem_append_right (by omega)] at this
      simp only [h1, Nat.add_sub_cancel_left] at this
      rw [show o + n + j = o + (n + j) from by omega]
      exact this

/-- A new block whose first cells nobody will write any more: the state goes on, with more that is immutable. -/
theorem SimG.allocI {C : Cx} {A : Nat → SV} {G : Gh} {a : Act} {w : World} (S : SimG C A G a w) (cs : Array Value) (T : TypeId) (k : Nat) (fr : Nat × Nat := (0, 0)) :
    SimG C A { G with I := fun b o => G.I b o ∨ (b = w.heap.size ∧ o < k) } a (w.alloc (.cells cs T fr)) := by
  have hle : Le w G.I (w.alloc (.cells cs T fr)) (fun b o => G.I b o ∨ (b = w.heap.size ∧ o < k)) := fun b o h => ⟨.inl h, (Le.alloc S.val _ b o h).2⟩
  refine ⟨S.os, S.tape, S.output, by have := S.size; simp; omega, fun j h1 h2 => ?_, fun b o h => .inl (S.sub b o h), fun b o h => ?_, fun b o h => ?_, S.nts, S.dfs, fun j => ?_, fun j j' b hj h1 h2 => ?_⟩
  · rw [alloc_old (Nat.lt_of_lt_of_le h1 S.size)]; exact S.block j h1 h2
  · rcases h with h | ⟨rfl, _⟩
    · exact S.new b o h
    · exact .inr (.inl S.size)
  · rcases h with h | ⟨rfl, _⟩
    · exact Nat.lt_of_lt_of_le (S.val b o h) (by simp)
    · simp
  · refine (S.holds j).keep (Gs := []) hle (fun _ _ => ⟨rfl, .inl ⟨rfl, rfl⟩⟩) (noG_nil.1 _) (by simp) (fun h => ⟨h, rfl⟩) (fun _ => ⟨rfl, rfl, rfl⟩) (fun b hb => ?_)
    have hlt := ownsB_lt S hb
    refine ⟨alloc_old hlt, fun o hi => ?_⟩
    rcases hi with h | ⟨rfl, _⟩
    · exact h
    · omega
  · exact S.apart j j' b hj (by revert h1; generalize A j = y; cases y <;> exact id) (by revert h2; generalize A j' = y; cases y <;> exact id)

theorem cellsAt_alloc {w : World} {I : Nat → Nat → Prop} {cs : Array Value} {T : TypeId} {k : Nat} {fr : Nat × Nat} (h : k ≤ cs.size) :
    CellsAt (w.alloc (.cells cs T fr)) (fun b o => I b o ∨ (b = w.heap.size ∧ o < k)) w.heap.size 0 (cs.toList.take k) := by
  intro j hj
  simp only [List.length_take, Array.length_toList] at hj
  refine ⟨?_, .inr ⟨rfl, by omega⟩⟩
  rw [cell_at alloc_new, Nat.zero_add]
  simp only [List.getElem_take]
  rw [Array.getElem?_eq_getElem (by omega)]
  simp

/-- A slice that a literal makes: the elements, all given. -/
theorem fill_all {w : World} {I : Nat → Nat → Prop} {n : Nat} {ρ : Operand → Value} : ∀ (xs : List Operand) (ys : List AV) (i : Nat) (done : List Value) (cs : Array Value), RepVs w I ys (xs.map ρ) → (∀ y ∈ ys, y.width = n) →
    done.length = i * n → (∃ rest, cs.toList = done ++ rest ∧ rest.length = ys.length * n) →
    ∃ cs', Instr.fill (fun i => some (i * n, n)) cs ((xs.zipIdx i).map fun p => (p.2, ρ p.1)) = some cs' ∧ ∃ es, RepE w I n ys es ∧ cs'.toList = done ++ es
  | [], ys, i, done, cs, h, _, hd, ⟨rest, h1, h2⟩ => by
    cases ys with
    | nil =>
      simp at h2
      exact ⟨cs, rfl, [], by simp only [RepE], by rw [h1, h2]⟩
    | cons y ys => simp only [List.map_nil, RepVs] at h; obtain ⟨_, _, h, _⟩ := h; cases h
  | x :: xs, ys, i, done, cs, h, hw, hd, ⟨rest, h1, h2⟩ => by
    cases ys with
    | nil => simp [RepVs] at h
    | cons y ys =>
      simp only [List.map_cons, RepVs] at h
      obtain ⟨c, r, he, hc, hr⟩ := h
      simp only [List.cons.injEq] at he
      obtain ⟨hx, rfl⟩ := he
      have hcl := RepC.len y c hc
      have hy : y.width = n := hw y List.mem_cons_self
      have hcells : (ρ x).cells.toList = c := by rw [hx, mkV_cells hc]
      have hsz : (ρ x).cells.size = n := by rw [← Array.length_toList, hcells, hcl, hy]
      have hlen : cs.size = done.length + rest.length := by rw [← Array.length_toList, h1, List.length_append]
      simp only [List.length_cons] at h2
      have h2' : rest.length = ys.length * n + n := by rw [h2, Nat.add_mul]; omega
      have e : (ρ x).cells.zipIdx.foldl (fun (cs : Array Value) (p : Value × Nat) => cs.setIfInBounds (i * n + p.2) p.1) cs = splice cs (i * n) (ρ x).cells.toList := by
        rw [← Array.foldl_toList, Array.toList_zipIdx]
        exact fold_splice _ cs (i * n) 0
      have hsp : (splice cs (i * n) c).toList = (done ++ c) ++ rest.drop n := by
        rw [splice_list _ _ _ (by omega), h1, ← hd, List.take_left, List.drop_append, List.drop_of_length_le (l := done) (by omega), List.nil_append,
          show done.length + c.length - done.length = n from by omega]
      obtain ⟨cs', k1, es, k2, k3⟩ := fill_all xs ys (i + 1) (done ++ c) (splice cs (i * n) c) hr (fun y' hy' => hw y' (List.mem_cons_of_mem _ hy'))
        (by rw [List.length_append, hd, hcl, hy, Nat.add_mul]; omega) ⟨rest.drop n, hsp, by rw [List.length_drop]; omega⟩
      refine ⟨cs', ?_, c ++ es, ?_, by rw [k3]; simp⟩
      · simp only [List.zipIdx_cons, List.map_cons, Instr.fill]
        rw [if_neg (by simp; omega), e, hcells]
        exact k1
      · simp only [RepE]; exact ⟨c, es, rfl, by omega, hc, k2⟩

/-- The operands of a literal's parts, in order and none left out. -/
def litOps : Nat → List (Nat × Operand) → Option (List Operand)
  | _, [] => some []
  | i, (j, x) :: r => if i = j then (litOps (i + 1) r).map (x :: ·) else none

theorem litOps_spec : ∀ (ps : List (Nat × Operand)) (i : Nat) (xs : List Operand), litOps i ps = some xs → ps = (xs.zipIdx i).map fun p => (p.2, p.1)
  | [], i, xs, h => by simp only [litOps] at h; cases h; rfl
  | (j, x) :: r, i, xs, h => by
    simp only [litOps] at h
    split at h
    · rename_i hij; subst hij
      cases hr : litOps (i + 1) r with
      | none => rw [hr] at h; cases h
      | some ys =>
        rw [hr] at h; cases h
        simp only [List.zipIdx_cons, List.map_cons]
        rw [← litOps_spec r (i + 1) ys hr]
    · cases h

section
variable {C : Cx} {A : Nat → SV} {d : Nat} {ty : TypeId} {pos : String} {af : Array Edge} {gd : Option (Nat × Bool)} {x y : Operand} {T T' : TypeId}

theorem run_buildSlice {P : Program} {w : World} {I : Nat → Nat → Prop} {ρ : Operand → Value} {T el : TypeId} {len n : Nat} {z : Value} {parts : Array (Nat × Operand)} {xs : List Operand} {ys : List AV}
    (hT : P.underlying T = some (.slice el)) (hn : tySize P el = some n) (hz : tyZero P el = some z) (hzn : z.cells.size = n) (h0 : 0 < n) (hp : litOps 0 parts.toList = some xs) (hl : xs.length = len) (hl0 : 0 < len) (hb : len * n ≤ 16777216)
    (hy : RepVs w I ys (xs.map ρ)) (hw : ∀ y ∈ ys, y.width = n) :
    ∃ cs : Array Value, (Instr.buildSlice T len (parts.map fun (i, x) => (i, ρ x))).run P w = .ok (.slice (some ⟨w.heap.size, 0, none⟩) len len) (w.alloc (.cells cs el)) ∧ RepE w I n ys cs.toList := by
  have hyl := repVs_len hy
  rw [List.length_map] at hyl
  have hcs : ((Array.range (len * n)).map (z.cells[· % z.cells.size]!)).size = len * n := by simp
  obtain ⟨cs', k1, es, k2, k3⟩ := fill_all (n := n) xs ys 0 [] ((Array.range (len * n)).map (z.cells[· % z.cells.size]!)) hy hw (by simp) ⟨_, rfl, by rw [Array.length_toList, hcs, ← hyl, hl]⟩
  refine ⟨cs', ?_, by rw [k3]; simpa using k2⟩
  have hne : ¬ (len * n = 0) := by
    have := Nat.mul_pos hl0 h0
    omega
  have hpl : (parts.map fun (p : Nat × Operand) => (p.1, ρ p.2)).toList = (xs.zipIdx 0).map fun p => (p.2, ρ p.1) := by
    rw [Array.toList_map, litOps_spec _ _ _ hp, List.map_map]; rfl
  simp only [Instr.buildSlice, Sem.run_bind, run_underlying' hT, Result.andThen_ok, run_sizeOf hn]
  rw [if_neg (by omega)]
  simp only [Sem.run_bind, Sem.run_pure, Result.andThen_ok, hne, if_false, run_zeroValue hz]
  simp only [hpl, k1]
  simp only [Sem.run_bind, newRow, run_newObj, Result.andThen_ok, Sem.run_pure]
  rfl

theorem s_buildSlice {el : TypeId} {len n : Nat} {X0 : AV} {parts : Array (Nat × Operand)} {xs : List Operand} {ys : List AV} (hN : Nat.blt d C.N = true) (hT : C.P.underlying T = some (.slice el)) (hn : tySize C.P el = some n) (hz : IsZero C.P el X0) (hX : Nat.beq X0.width n = true)
    (h0 : Nat.blt 0 n = true) (hp : litOps 0 parts.toList = some xs) (hl : Nat.beq xs.length len = true) (hl0 : Nat.blt 0 len = true) (hb : Nat.ble (len * n) 16777216 = true) (hy : opVs A xs = some ys) (hw : ys.all (fun y => Nat.beq y.width n) = true) :
    StepU C ⟨some d, .buildSlice T len parts, ty, pos, af, gd⟩ (opRs xs) [] A [(d, .imm (.sl n ys))] := by
  intro A' a w hR hF ⟨G, S⟩
  rw [← opVs_congr hR] at hy
  obtain ⟨z, hz1, hz2⟩ := hz
  have hzl : z.cells.size = n := by
    have := RepC.len X0 _ (flatC_spec (w := w) (I := G.I) X0 _ hz2)
    rw [← Array.length_toList, this]; exact Nat.eq_of_beq_eq_true hX
  have hlen := Nat.eq_of_beq_eq_true hl
  obtain ⟨cs, k1, k2⟩ := run_buildSlice (ρ := a.eval) hT hn hz1 hzl (by simpa [Nat.blt_eq] using h0) hp hlen (by simpa [Nat.blt_eq] using hl0) (Nat.le_of_ble_eq_true hb) (S.opVs hy)
    (fun y hy' => Nat.eq_of_beq_eq_true (List.all_eq_true.1 hw y hy'))
  have hsz : cs.size = ys.length * n := by rw [← Array.length_toList]; exact k2.len
  have hyl : ys.length = len := by
    have := repVs_len (S.opVs hy)
    rw [List.length_map] at this; omega
  unfold Oper.wp
  simp only [execOp, Sem.run_bind, k1, Result.andThen_ok, Sem.run_pure, Oper.upon_value]
  have S' := S.allocI cs el cs.size
  have hle : Le w G.I (w.alloc (.cells cs el)) (fun b o => G.I b o ∨ (b = w.heap.size ∧ o < cs.size)) := fun b o h => ⟨.inl h, (Le.alloc S.val _ b o h).2⟩
  have hcell := cellsAt_alloc (w := w) (I := G.I) (T := el) (fr := (0, 0)) (Nat.le_refl cs.size)
  rw [List.take_of_length_le (by simp)] at hcell
  refine ⟨_, S'.put (by simpa [Nat.blt_eq] using hN) (valS_imm.2 ⟨[_], ?_, rfl⟩)⟩
  simp only [RepC]
  refine ⟨_, rfl, .inr ⟨w.heap.size, 0, len, by rw [hyl], by omega, ?_, (k2.mono hle).mem hcell⟩⟩
  have h0' : 0 < n := by simpa [Nat.blt_eq] using h0
  have := Nat.le_of_ble_eq_true hb
  have : len ≤ len * n := Nat.le_mul_of_pos_right _ h0'
  unfold maxLen; omega

end
end Go.Al
namespace Go.Al
open Go.RowKit

/-! ### append -/

theorem RepE.cellsLe {w : World} {I : Nat → Nat → Prop} {n : Nat} {l : List AV} {cs : List Value} (h : RepE w I n l cs) : cs.length = l.length * n := h.len

theorem upd_one (A : Nat → SV) (g : Nat) (x : SV) (k : Nat) : upd A [(g, x)] k = if k = g then x else A k := by
  simp only [upd]
  by_cases h1 : k = g
  · subst h1; simp
  · rw [nat_beq_false (Ne.symm h1), if_neg h1]; rfl

theorem mul_le_of {a b n : Nat} (h : a ≤ b) : a * n ≤ b * n := Nat.mul_le_mul_right n h

/-- In place. -/
theorem SimG.appendFit {C : Cx} {A : Nat → SV} {G : Gh} {a : Act} {w : World} (S : SimG C A G a w) {g n b cap : Nat} {l m : List AV} {es : List Value} {cs : Array Value} {T : TypeId} {fr : Nat × Nat}
    (hA : A g = .tok n l) (hc : G.cur g = .slice (some ⟨b, 0, none⟩) l.length cap) (hcap : cap ≤ maxLen) (hb : w.heap[b]? = some (.cells cs T fr)) (hsz : cs.size = cap * n) (hfit : l.length + m.length ≤ cap) (hes : RepE w G.I n m es) :
    ∃ G', SimG C (upd A [(g, .tok n (l ++ m))]) G' a (setBlk w b (.cells (splice cs (l.length * n) es) T fr)) ∧
      ValS (setBlk w b (.cells (splice cs (l.length * n) es) T fr)) G' (.slg g n (l ++ m)) (.slice (some ⟨b, 0, none⟩) (l.length + m.length) cap) := by
  have ht := S.holds g
  rw [hA] at ht
  simp only [Holds] at ht
  obtain ⟨hlen, ht⟩ := ht
  rcases ht with ⟨e, _⟩ | ⟨b', cap', e, h2, h3, h4, h5, ⟨cs', T', fr', h6, h7, h8⟩, h9⟩
  · rw [e] at hc; cases hc
  · rw [e] at hc
    simp only [Value.slice.injEq, Option.some.injEq, Addr.mk.injEq, true_and, and_true] at hc
    obtain ⟨rfl, rfl⟩ := hc
    rw [h6] at hb
    simp only [Option.some.injEq, Obj.cells.injEq] at hb
    obtain ⟨rfl, rfl, rfl⟩ := hb
    have hel := hes.len
    have hmul : (l.length + m.length) * n = l.length * n + m.length * n := Nat.add_mul _ _ _
    have hle1 : (l.length + m.length) * n ≤ cap' * n := mul_le_of hfit
    have hlt : b' < w.heap.size := h5.2
    let I' : Nat → Nat → Prop := fun c o => G.I c o ∨ (c = b' ∧ l.length * n ≤ o ∧ o < (l.length + m.length) * n)
    let w' := setBlk w b' (.cells (splice cs' (l.length * n) es) T' fr')
    let G' : Gh := { I := I', blk := G.blk, cur := fun k => if k = g then .slice (some ⟨b', 0, none⟩) (l.length + m.length) cap' else G.cur k, len := fun k => if k = g then l.length + m.length else G.len k }
    have hspl : (splice cs' (l.length * n) es).toList = cs'.toList.take (l.length * n) ++ es ++ cs'.toList.drop (l.length * n + es.length) := splice_list _ _ _ (by omega)
    have hcell : ∀ o : Nat, (splice cs' (l.length * n) es)[o]? = (cs'.toList.take (l.length * n) ++ es ++ cs'.toList.drop (l.length * n + es.length))[o]? := by intro o; rw [← hspl]; simp
    have htk : (cs'.toList.take (l.length * n)).length = l.length * n := by
      have : cs'.toList.length = cap' * n := h7
      rw [List.length_take, this]; omega
    have hle : Le w G.I w' I' := by
      intro c o hi
      refine ⟨.inl hi, ?_⟩
      by_cases hcb : c = b'
      · subst hcb
        have ho : o < l.length * n := by
          rcases Nat.lt_or_ge o (l.length * n) with h | h
          · exact h
          · exact absurd hi (h9 o h)
        show (setBlk w c (.cells (splice cs' (l.length * n) es) T' fr')).cell? ⟨c, o, none⟩ = w.cell? ⟨c, o, none⟩
        rw [cell_at (setBlk_get hlt), cell_at h6, hcell, List.append_assoc, List.getElem?_append_left (by omega), List.getElem?_take, if_pos ho]
        simp
      · exact World.cell?_of_block (w := w) (setBlk_ne hcb)
    have hg : GRel [] G G' := by
      intro k _
      refine ⟨rfl, ?_⟩
      by_cases hk : k = g
      · subst hk
        rcases Nat.eq_zero_or_pos m.length with h0 | h0
        · refine .inl ⟨?_, ?_⟩
          · simp only [G', if_true, h0, Nat.add_zero]; exact e.symm
          · simp only [G', if_true, h0, Nat.add_zero]; exact hlen.symm
        · right; simp only [G', if_true]; omega
      · left; simp only [G', if_neg hk]; exact ⟨trivial, trivial⟩
    have hesAt : CellsAt w' I' b' (l.length * n) es := by
      intro j hj
      refine ⟨?_, .inr ⟨rfl, by omega, by omega⟩⟩
      show (setBlk w b' (.cells (splice cs' (l.length * n) es) T' fr')).cell? ⟨b', l.length * n + j, none⟩ = _
      rw [cell_at (setBlk_get hlt), hcell, List.append_assoc, List.getElem?_append_right (by omega), htk, Nat.add_sub_cancel_left, List.getElem?_append_left hj]
      simp
    have hM : RepM w' I' n (l ++ m) b' 0 := by
      obtain ⟨ds, k1, k2⟩ := (RepM.mono hle n l b' 0 h4).cells
      refine (k1.append (hes.mono hle)).mem ?_
      have hdl := k1.len
      intro j hj
      rw [List.length_append] at hj
      by_cases hjd : j < ds.length
      · rw [List.getElem_append_left hjd]; exact k2 j hjd
      · rw [List.getElem_append_right (by omega)]
        have := hesAt (j - ds.length) (by omega)
        rw [show l.length * n + (j - ds.length) = 0 + j from by omega] at this
        exact this
    have own' : ∀ k c, ownsB G' k c (upd A [(g, .tok n (l ++ m))] k) → ownsB G k c (A k) := by
      intro k c h
      rw [upd_one] at h
      split at h
      · rename_i hk; subst hk
        simp only [ownsB, G', if_true] at h
        obtain ⟨ad, n', c', h1, h2⟩ := h
        simp only [Value.slice.injEq, Option.some.injEq] at h1
        rw [hA]
        exact ⟨⟨b', 0, none⟩, _, _, e, by rw [← h2, ← h1.1]⟩
      · rename_i hk
        revert h
        generalize A k = y
        cases y <;> simp only [ownsB, G', if_neg hk] <;> exact id
    refine ⟨G', ⟨S.os, S.tape, S.output, by show C.w0.heap.size ≤ (setBlk w b' _).heap.size; rw [setBlk_size]; exact S.size, fun k h1 h2' => ?_, fun c o h => .inl (S.sub c o h), fun c o h => ?_, fun c o h => ?_, S.nts, S.dfs, fun k => ?_, fun k j c hkj h1 h2' => S.apart k j c hkj (own' k c h1) (own' j c h2')⟩, ?_⟩
    · have : k ≠ b' := by
        rintro rfl
        rcases h5.1 with h | h
        · omega
        · exact h2' h
      show (setBlk w b' _).heap[k]? = _
      rw [setBlk_ne this]; exact S.block k h1 h2'
    · rcases h with h | ⟨rfl, _, _⟩
      · exact S.new c o h
      · exact .inr h5.1
    · show c < (setBlk w b' _).heap.size
      rw [setBlk_size]
      rcases h with h | ⟨rfl, _, _⟩
      · exact S.val c o h
      · exact hlt
    · rw [upd_one]
      split
      · rename_i hk; subst hk
        simp only [Holds, G', if_true, List.length_append]
        refine ⟨trivial, .inr ⟨b', cap', by rw [List.length_append], by rw [List.length_append]; exact hfit, h3, hM, ⟨h5.1, by show b' < (setBlk w b' _).heap.size; rw [setBlk_size]; exact hlt⟩, ⟨splice cs' (l.length * n) es, T', fr', setBlk_get hlt, by rw [splice_size]; exact h7, by rw [splice_size]; exact h8⟩, ?_⟩⟩
        intro o ho hi
        rw [List.length_append] at ho
        rcases hi with hi | ⟨_, h1, h2'⟩
        · exact h9 o (by rw [hmul] at ho; omega) hi
        · omega
      · rename_i hk
        refine (S.holds k).keep hle hg (noG_nil.1 _) (by show w.heap.size ≤ (setBlk w b' _).heap.size; rw [setBlk_size]; exact Nat.le_refl _) (fun h => ⟨h, rfl⟩) (fun _ => ⟨rfl, by simp only [G', if_neg hk], by simp only [G', if_neg hk]⟩) (fun c hc => ?_)
        have hcb : c ≠ b' := by
          rintro rfl
          exact S.apart k g c hk hc (by rw [hA]; exact ⟨⟨c, 0, none⟩, _, _, e, rfl⟩)
        refine ⟨setBlk_ne hcb, fun o hi => ?_⟩
        rcases hi with hi | ⟨h1, _, _⟩
        · exact hi
        · exact absurd h1 hcb
    · refine ⟨[.slice (some ⟨b', 0, none⟩) (l.length + m.length) cap'], ?_, rfl⟩
      simp only [RepS, RepC]
      refine ⟨_, rfl, ⟨_, rfl, .inr ⟨b', 0, cap', by rw [List.length_append], by rw [List.length_append]; exact hfit, h3, hM⟩⟩, by simp only [G', if_true, List.length_append]; omega, fun _ => by simp only [G', if_true]⟩

/-- Into a new block. -/
theorem SimG.appendNew {C : Cx} {A : Nat → SV} {G : Gh} {a : Act} {w : World} (S : SimG C A G a w) {g n cap : Nat} {l m : List AV} {es : List Value} {cs : Array Value} {T : TypeId}
    (hfr : ∀ k, k ≠ g → noG [g] (A k) = true ∨ (∃ l0, A g = .tok n l0 ∧ l0.length < (l ++ m).length)) (hcap : cap ≤ maxLen) (hfit : (l ++ m).length ≤ cap) (hes : RepE w G.I n (l ++ m) es) (hcs : cs.toList.take ((l ++ m).length * n) = es) (hsz : cs.size = cap * n)
    (hne : (l ++ m) ≠ [] ∨ ∀ k, k ≠ g → noG [g] (A k) = true) :
    ∃ G', SimG C (upd A [(g, .tok n (l ++ m))]) G' a (w.alloc (.cells cs T)) ∧ ValS (w.alloc (.cells cs T)) G' (.slg g n (l ++ m)) (.slice (some ⟨w.heap.size, 0, none⟩) (l ++ m).length cap) := by
  generalize l ++ m = q at *
  let I' : Nat → Nat → Prop := fun b o => G.I b o ∨ (b = w.heap.size ∧ o < q.length * n)
  let G' : Gh := { I := I', blk := G.blk, cur := fun k => if k = g then .slice (some ⟨w.heap.size, 0, none⟩) q.length cap else G.cur k, len := fun k => if k = g then q.length else G.len k }
  have hle : Le w G.I (w.alloc (.cells cs T)) I' := fun b o h => ⟨.inl h, (Le.alloc S.val _ b o h).2⟩
  have hmul : q.length * n ≤ cap * n := mul_le_of hfit
  have hcell := cellsAt_alloc (w := w) (I := G.I) (T := T) (cs := cs) (k := q.length * n) (fr := (0, 0)) (by omega)
  rw [hcs] at hcell
  have hM : RepM (w.alloc (.cells cs T)) I' n q w.heap.size 0 := (hes.mono hle).mem hcell
  have own' : ∀ k c, ownsB G' k c (upd A [(g, .tok n q)] k) → (k = g ∧ c = w.heap.size) ∨ (k ≠ g ∧ ownsB G k c (A k)) := by
    intro k c h
    rw [upd_one] at h
    split at h
    · rename_i hk; subst hk
      simp only [ownsB, G', if_true] at h
      obtain ⟨ad, n', c', h1, h2⟩ := h
      simp only [Value.slice.injEq, Option.some.injEq] at h1
      exact .inl ⟨rfl, by rw [← h2, ← h1.1]⟩
    · rename_i hk
      refine .inr ⟨hk, ?_⟩
      revert h
      generalize A k = y
      cases y <;> simp only [ownsB, G', if_neg hk] <;> exact id
  refine ⟨G', ⟨S.os, S.tape, S.output, by have := S.size; simp; omega, fun k h1 h2 => ?_, fun b o h => .inl (S.sub b o h), fun b o h => ?_, fun b o h => ?_, S.nts, S.dfs, fun k => ?_, fun k j b hkj h1 h2 => ?_⟩, ?_⟩
  · rw [alloc_old (Nat.lt_of_lt_of_le h1 S.size)]; exact S.block k h1 h2
  · rcases h with h | ⟨rfl, _⟩
    · exact S.new b o h
    · exact .inr (.inl S.size)
  · rcases h with h | ⟨rfl, _⟩
    · exact Nat.lt_of_lt_of_le (S.val b o h) (by simp)
    · simp
  · rw [upd_one]
    split
    · rename_i hk; subst hk
      simp only [Holds, G', if_true]
      refine ⟨trivial, .inr ⟨w.heap.size, cap, rfl, hfit, hcap, hM, ⟨.inl S.size, by simp⟩, ⟨cs, T, (0, 0), alloc_new, hsz, fun o _ => by simp⟩, ?_⟩⟩
      intro o ho hi
      rcases hi with hi | ⟨_, h2⟩
      · have := S.val _ _ hi; omega
      · omega
    · rename_i hk
      have hrel : ∃ Gs, GRel Gs G G' ∧ noG Gs (A k) = true := by
        rcases hfr k hk with h | ⟨l0, h1, h2⟩
        · refine ⟨[g], fun j hj => ⟨rfl, ?_⟩, h⟩
          have hjg : j ≠ g := by simpa using hj
          left; simp only [G', if_neg hjg]; exact ⟨trivial, trivial⟩
        · refine ⟨[], fun j _ => ⟨rfl, ?_⟩, noG_nil.1 _⟩
          by_cases hj : j = g
          · subst hj
            have hh := S.holds j
            rw [h1] at hh
            simp only [Holds] at hh
            right; simp only [G', if_true]; rw [hh.1]; exact h2
          · left; simp only [G', if_neg hj]; exact ⟨trivial, trivial⟩
      obtain ⟨Gs, hg, hn⟩ := hrel
      refine (S.holds k).keep hle hg hn (by simp) (fun h => ⟨h, rfl⟩) (fun _ => ⟨rfl, by simp only [G', if_neg hk], by simp only [G', if_neg hk]⟩) (fun c hc => ?_)
      have hlt := ownsB_lt S hc
      refine ⟨alloc_old hlt, fun o hi => ?_⟩
      rcases hi with hi | ⟨rfl, _⟩
      · exact hi
      · omega
  · rcases own' k b h1 with ⟨e1, e2⟩ | ⟨e1, e2⟩
    · rcases own' j b h2 with ⟨e3, e4⟩ | ⟨e3, e4⟩
      · exact hkj (e1.trans e3.symm)
      · have := ownsB_lt S e4; omega
    · rcases own' j b h2 with ⟨e3, e4⟩ | ⟨e3, e4⟩
      · have := ownsB_lt S e2; omega
      · exact S.apart k j b hkj e2 e4
  · refine ⟨[.slice (some ⟨w.heap.size, 0, none⟩) q.length cap], ?_, rfl⟩
    simp only [RepS, RepC]
    exact ⟨_, rfl, ⟨_, rfl, .inr ⟨w.heap.size, 0, cap, rfl, hfit, hcap, hM⟩⟩, by simp only [G', if_true]; omega, fun _ => by simp only [G', if_true]⟩

/-- What append's second slice brings, whatever has been drawn since. -/
theorem run_firstCells {P : Program} {w : World} {I : Nat → Nat → Prop} {n : Nat} {m : List AV} {v : Value} (h : Rep w I (.sl n m) v) :
    ∃ es, RepE w I n m es ∧ ∀ w0 : World, w0.heap = w.heap → (Builtin.lenOf v).run P w0 = .ok m.length w0 ∧ (Builtin.firstCells n m.length v).run P w0 = .ok es.toArray w0 := by
  rcases rep_sl h with ⟨rfl, rfl⟩ | ⟨b, o, cap, rfl, h2, h3, h4⟩
  · exact ⟨[], by simp only [RepE], fun _ _ => ⟨rfl, rfl⟩⟩
  · obtain ⟨cs, k1, k2⟩ := h4.cells
    refine ⟨cs, k1, fun w0 hw0 => ⟨rfl, ?_⟩⟩
    simp only [Builtin.firstCells]
    rw [← k1.len]
    exact run_loadCells cs fun j hj => (World.cell?_of_block (w := w) (by rw [hw0])).trans (k2 j hj).1

theorem growBy_le (need : Nat) : ∀ (r c : Nat), Builtin.growBy need r c ≤ c + r * (need + 192) + 0 ∨ True := fun _ _ => .inr trivial

theorem growBy_bound (need : Nat) : ∀ (r c B : Nat), c ≤ B → need ≤ B → Builtin.growBy need r c ≤ 2 * B + 192
  | 0, c, B, h, _ => by simp only [Builtin.growBy]; omega
  | r + 1, c, B, h, hn => by
    simp only [Builtin.growBy]
    split
    · omega
    · rename_i hc
      by_cases h2 : c + (c + 768) / 4 ≤ B
      · exact growBy_bound need r _ B h2 hn
      · -- the next one is at least 'need' soon: bound by cases
        have hle : c + (c + 768) / 4 ≤ 2 * B + 192 := by omega
        cases r with
        | zero => simp only [Builtin.growBy]; exact hle
        | succ r =>
          simp only [Builtin.growBy]
          rw [if_pos (by omega)]
          exact hle

theorem nextslicecap_bound {need old : Nat} (h : old ≤ need) : Builtin.nextslicecap need old ≤ 2 * need + 192 := by
  unfold Builtin.nextslicecap
  split
  · omega
  · split
    · omega
    · exact growBy_bound need 4 old need h (Nat.le_refl _)

section
variable {C : Cx} {A : Nat → SV} {d : Nat} {ty : TypeId} {pos : String} {af : Array Edge} {gd : Option (Nat × Bool)} {x y : Operand} {T T' : TypeId}

theorem run_resolve_append {P : Program} {ρ : Operand → Value} {x y : Operand} {T T' ty : TypeId} {d : Option Tmp} {pos : String} {af : Array Edge} {gd : Option (Nat × Bool)} {w w' : World} {v : Value}
    (h : (Builtin.append_ #[T, T'] ty #[ρ x, ρ y]).run P w = .ok v w') :
    (execOp ρ ⟨d, .call { callee := .builtin .append, args := #[x, y], argTypes := #[T, T'] }, ty, pos, af, gd⟩).run P w = .ok (.value v) w' := by
  simp only [execOp, resolve, Sem.run_bind, Sem.run_pure, Result.andThen_ok, invoke, builtin]
  have : (#[x, y].map ρ) = #[ρ x, ρ y] := by simp
  rw [this, h]
  rfl

/-- append onto a slice of one's own. -/
theorem s_append {g n by_ : Nat} {l m : List AV} {el : TypeId} {T1 : TypeId} {z : Value} (hgN : Nat.ble C.N g = true) (hN : Nat.blt d C.N = true) (hx : opS A x = .slg g n l) (hg : A g = .tok n l) (hy : opV A y = some (.sl n m)) (hT : C.P.underlying T = some (.slice el)) (hT' : C.P.underlying T' = some (.slice T1))
    (hn : tySize C.P el = some n) (hz : tyZero C.P el = some z) (hzn : z.cells.size = n) (h0 : 0 < n) (hb : (C.P.info? el).map (·.bytes) = some by_) (hB : (2 * (l.length + m.length) + 192) * by_ ≤ 281474976710656) (hL : l.length + m.length < 9223372036854775808) :
    StepU C ⟨some d, .call { callee := .builtin .append, args := #[x, y], argTypes := #[T, T'] }, ty, pos, af, gd⟩ (g :: (opR x ++ opR y)) [] A [(g, .tok n (l ++ m)), (d, .slg g n (l ++ m))] := by
  intro A' a w hR hF ⟨G, S⟩
  have hgA : A' g = .tok n l := (hR g List.mem_cons_self).trans hg
  have hgd : g ≠ d := by
    have h1 := Nat.le_of_ble_eq_true hgN
    have h2 : d < C.N := by simpa [Nat.blt_eq] using hN
    omega
  obtain ⟨c, hc1, hc2⟩ := S.opS ((opS_congr (fun k hk => hR k (List.mem_cons_of_mem _ (List.mem_append_left _ hk)))).trans hx) (by simp) (by simp)
  simp only [RepS] at hc1
  obtain ⟨v, rfl, hv1, hv2, hv3⟩ := hc1
  have hx' : a.eval x = v := hc2
  rw [← opV_congr (fun k hk => hR k (List.mem_cons_of_mem _ (List.mem_append_right _ hk)))] at hy
  have hyR := S.opV hy
  have ht := S.holds g
  rw [hgA] at ht
  simp only [Holds] at ht
  obtain ⟨hlen, ht⟩ := ht
  have hcur : v = G.cur g := hv3 hlen.symm
  obtain ⟨es, k1, k23⟩ := run_firstCells (P := C.P) hyR
  have k2 := (k23 w rfl).1
  obtain ⟨inf, hi, hib⟩ : ∃ inf, C.P.info? el = some inf ∧ inf.bytes = by_ := by
    cases hi : C.P.info? el with
    | none => rw [hi] at hb; cases hb
    | some inf => rw [hi] at hb; exact ⟨inf, rfl, by simpa using hb⟩
  have hu2 : ∀ (G' : Gh) (w' : World) (v' : Value), SimG C (upd A' [(g, .tok n (l ++ m))]) G' a w' → ValS w' G' (.slg g n (l ++ m)) v' → Sim C (upd A' [(g, .tok n (l ++ m)), (d, .slg g n (l ++ m))]) (a.put (some d) v') w' := by
    intro G' w' v' S' hv
    have := S'.put (d := d) (by simpa [Nat.blt_eq] using hN) (x := .slg g n (l ++ m)) (v := v') hv
    have e : upd (upd A' [(g, .tok n (l ++ m))]) [(d, .slg g n (l ++ m))] = upd A' [(g, .tok n (l ++ m)), (d, .slg g n (l ++ m))] := by
      funext k
      simp only [upd]
      by_cases hkd : d = k
      · subst hkd; rw [nat_beq_false hgd]; simp
      · rw [nat_beq_false hkd]; simp
    rw [e] at this
    exact ⟨G', this⟩
  -- what append does where it must grow
  have grow : ∀ (base : Option Addr) (sCap : Nat) (old : List Value), a.eval x = .slice base l.length sCap → sCap < l.length + m.length → l.length ≤ sCap ∨ l.length = 0 → (∀ w0 : World, w0.heap = w.heap → (Builtin.firstCells n l.length (.slice base l.length sCap)).run C.P w0 = .ok old.toArray w0) → RepE w G.I n l old →
      ∃ v' w' G', (Builtin.append_ #[T, T'] ty #[a.eval x, a.eval y]).run C.P w = .ok v' w' ∧ SimG C (upd A' [(g, .tok n (l ++ m))]) G' a w' ∧ ValS w' G' (.slg g n (l ++ m)) v' := by
    intro base sCap old hev hlt hle' hold hrep
    obtain ⟨need, hneed⟩ : ∃ k, k = l.length + m.length := ⟨_, rfl⟩
    obtain ⟨newCap, hnew⟩ : ∃ k, k = Question.cut (.appendCap need sCap el) (w.tape w.drawn (.appendCap need sCap el)) := ⟨_, rfl⟩
    rw [← hneed] at hB hL hlt
    have hnc : need ≤ newCap ∧ newCap ≤ maxLen := by
      have h63 : (0 : Nat) < 2 ^ 63 - need := by omega
      rw [hnew]
      constructor
      · simp only [Question.cut]; omega
      · simp only [Question.cut]
        have := Nat.mod_lt (w.tape w.drawn (.appendCap need sCap el)) h63
        unfold maxLen
        omega
    let w1 : World := { w with drawn := w.drawn + 1 }
    have S1 : SimG C A' G a w1 := S.heap rfl rfl rfl rfl
    have hle1 : Le w G.I w1 G.I := Le.drawn w G.I _
    let cs : Array Value := old.toArray ++ es.toArray ++ Builtin.zeroCells z.cells (newCap - need)
    have hes1 : RepE w1 G.I n (l ++ m) (old ++ es) := (hrep.mono hle1).append (k1.mono hle1)
    have hol := hrep.len
    have hel := k1.len
    have hmul : need * n = l.length * n + m.length * n := by rw [hneed]; exact Nat.add_mul _ _ _
    have hcs : cs.toList.take ((l ++ m).length * n) = old ++ es := by
      have : cs.toList = (old ++ es) ++ (Builtin.zeroCells z.cells (newCap - need)).toList := by simp [cs]
      rw [this, List.take_append_of_le_length (by rw [List.length_append, List.length_append, Nat.add_mul]; omega), List.take_of_length_le (by rw [List.length_append, List.length_append, Nat.add_mul]; omega)]
    have hcsz : cs.size = newCap * n := by
      have hzc : (Builtin.zeroCells z.cells (newCap - need)).size = (newCap - need) * n := by simp [Builtin.zeroCells, hzn]
      have h1 : cs.size = old.length + es.length + (newCap - need) * n := by
        simp only [cs, Array.size_append, hzc]; simp
      rw [h1, hol, hel, ← hmul, ← Nat.add_mul]
      rw [Nat.add_sub_of_le hnc.1]
    obtain ⟨G', S', hv'⟩ := S1.appendNew (g := g) (n := n) (l := l) (m := m) (cap := newCap) (es := old ++ es) (cs := cs) (T := el)
      (fun k _ => .inr ⟨l, hgA, by rw [List.length_append]; omega⟩) hnc.2 (by rw [List.length_append, ← hneed]; exact hnc.1) hes1 hcs hcsz (.inl (by intro h; have := congrArg List.length h; rw [List.length_append, List.length_nil] at this; omega))
    refine ⟨_, _, G', ?_, S', hv'⟩
    have hbd := nextslicecap_bound (need := need) (old := sCap) (by omega)
    have hnb : ¬ (Builtin.nextslicecap need sCap * inf.bytes > 281474976710656) := by
      rw [hib]
      have := Nat.mul_le_mul_right by_ hbd
      omega
    have hi1 : ¬ ((need : Int) > IntKind.i64.max) := by
      have : IntKind.i64.max = 9223372036854775807 := by decide
      rw [this]; omega
    have hnb' : ¬ (Builtin.nextslicecap need sCap * inf.bytes > 2 ^ 48) := by
      have : (2 : Nat) ^ 48 = 281474976710656 := rfl
      omega
    have hfc1 := hold ⟨w.heap, w.tape, w.drawn + 1, w.os, w.output⟩ rfl
    have hfc2 : (Builtin.firstCells n m.length (a.eval y)).run C.P ⟨w.heap, w.tape, w.drawn + 1, w.os, w.output⟩ = .ok es.toArray ⟨w.heap, w.tape, w.drawn + 1, w.os, w.output⟩ := (k23 ⟨w.heap, w.tape, w.drawn + 1, w.os, w.output⟩ rfl).2
    have hnf : (Question.appendCap need sCap el).forced = false := rfl
    have e1 : (#[T, T'] : Array TypeId)[0]? = some T := rfl
    have e2 : (#[T, T'] : Array TypeId)[1]? = some T' := rfl
    have e3 : (#[a.eval x, a.eval y] : Array Value)[0]? = some (a.eval x) := rfl
    have e4 : (#[a.eval x, a.eval y] : Array Value)[1]? = some (a.eval y) := rfl
    have hne : ¬ (need ≤ sCap) := by omega
    simp only [Builtin.append_, e1, e2, e3, e4]
    simp only [hev, Sem.run_bind, run_underlying' hT, run_underlying' hT', Result.andThen_ok, run_sizeOf hn, Sem.run_pure, Bool.false_eq_true, if_false, k2, ← hneed, hne, run_typeInfo' hi, Sem.run_ite, false_or]
    simp only [hi1, false_and, if_false, Bool.not_false, if_true, Sem.run_bind, run_choose, hnf, Bool.false_eq_true, hnb', Result.andThen_ok, ← hnew, run_askRoom, hfc1, hfc2, run_zeroValue hz, newRow, run_newObj, Sem.run_pure]
    rw [List.length_append, ← hneed]
    rfl
  have e1 : (#[T, T'] : Array TypeId)[0]? = some T := rfl
  have e2 : (#[T, T'] : Array TypeId)[1]? = some T' := rfl
  have e3 : (#[a.eval x, a.eval y] : Array Value)[0]? = some (a.eval x) := rfl
  have e4 : (#[a.eval x, a.eval y] : Array Value)[1]? = some (a.eval y) := rfl
  have key : ∃ v' w' G', (Builtin.append_ #[T, T'] ty #[a.eval x, a.eval y]).run C.P w = .ok v' w' ∧ SimG C (upd A' [(g, .tok n (l ++ m))]) G' a w' ∧ ValS w' G' (.slg g n (l ++ m)) v' := by
    rcases ht with ⟨e, rfl⟩ | ⟨b, cap, e, h2, h3, h4, h5, ⟨cs, T0, fr, h6, h7, h8⟩, h9⟩
    · have hev : a.eval x = .slice none 0 0 := by rw [hx', hcur, e]
      rcases Nat.eq_zero_or_pos m.length with h0m | h0m
      · have hm : m = [] := List.eq_nil_of_length_eq_zero h0m
        subst hm
        refine ⟨.slice none 0 0, w, G, ?_, ?_, ?_⟩
        · simp only [Builtin.append_, e1, e2, e3, e4]
          simp only [hev, Sem.run_bind, run_underlying' hT, run_underlying' hT', Result.andThen_ok, run_sizeOf hn, Sem.run_pure, Bool.false_eq_true, if_false, k2]
          simp only [List.length_nil, Nat.add_zero, Nat.le_refl, if_true, Bool.not_false, Sem.run_bind]
          have hfc2 := (k23 w rfl).2
          simp only [List.length_nil] at hfc2
          simp only [hfc2, Result.andThen_ok, Sem.run_pure]
        · have : upd A' [(g, .tok n ([] ++ []))] = A' := by
            funext k
            rw [upd_one]
            split
            · rename_i hk; subst hk; rw [hgA]; rfl
            · rfl
          rw [this]; exact S
        · refine ⟨[.slice none 0 0], ?_, rfl⟩
          simp only [RepS, RepC]
          exact ⟨_, rfl, ⟨_, rfl, .inl ⟨rfl, rfl⟩⟩, by simp, fun _ => e.symm⟩
      · exact grow none 0 [] (by rw [hev]; rfl) (by simpa using h0m) (.inr rfl) (fun w0 _ => rfl) (by simp only [RepE])
    · have hev : a.eval x = .slice (some ⟨b, 0, none⟩) l.length cap := by rw [hx', hcur, e]
      by_cases hfit : l.length + m.length ≤ cap
      · obtain ⟨G', S', hv'⟩ := S.appendFit hgA e h3 h6 h7 hfit k1
        refine ⟨_, _, G', ?_, S', hv'⟩
        have hfc2 := (k23 w rfl).2
        have hst := run_storeCells (P := C.P) (b := b) (o := l.length * n) es 0 w cs h6 h8 (by rw [k1.len, h7]; have := mul_le_of (n := n) hfit; rw [Nat.add_mul] at this; omega) k1.plain
        simp only [Builtin.append_, e1, e2, e3, e4]
        simp only [hev, Sem.run_bind, run_underlying' hT, run_underlying' hT', Result.andThen_ok, run_sizeOf hn, Sem.run_pure, Bool.false_eq_true, if_false, k2]
        simp only [hfit, if_true, Bool.not_false, Sem.run_bind, hfc2, Result.andThen_ok, addr_add, Nat.zero_add, Sem.run_pure]
        rw [hst]
        cases es with
        | nil =>
          simp only [Result.andThen_ok, splice]
          congr 1
          unfold setBlk
          have : w.heap.setIfInBounds b (.cells cs T0 fr) = w.heap := by
            apply Array.ext
            · simp
            · intro i h1 h2
              by_cases hi : b = i
              · subst hi; simp; exact (Array.getElem?_eq_some_iff.1 h6).2.symm
              · rw [Array.getElem_setIfInBounds_ne _ hi]
          rw [this]
        | cons v vs => simp only [Result.andThen_ok, Nat.add_zero]
      · obtain ⟨ds, q1, q2⟩ := h4.cells
        refine grow (some ⟨b, 0, none⟩) cap ds hev (by omega) (.inl h2) (fun w0 hw0 => ?_) q1
        simp only [Builtin.firstCells]
        rw [← q1.len]
        exact run_loadCells ds fun j hj => (World.cell?_of_block (w := w) (by rw [hw0])).trans (q2 j hj).1
  obtain ⟨v', w', G', r1, r2, r3⟩ := key
  unfold Oper.wp
  rw [run_resolve_append r1, Oper.upon_value]
  exact hu2 G' w' v' r2 r3

end
end Go.Al
namespace Go.Al
open Go.RowKit

/-! ### A nil slice that is going to grow -/

theorem SimG.newtok {C : Cx} {A : Nat → SV} {G : Gh} {a : Act} {w : World} (S : SimG C A G a w) {g k n : Nat} (hgN : C.N ≤ g) (hk : A k = .imm (.v (.slice none 0 0))) (hf : ∀ j, noG [g] (A j) = true) :
    Sim C (upd A [(g, .tok n []), (k, .slg g n [])]) a w := by
  let G' : Gh := { G with cur := fun j => if j = g then .slice none 0 0 else G.cur j, len := fun j => if j = g then 0 else G.len j }
  have hg : GRel [g] G G' := fun j hj => by
    have hjg : j ≠ g := by simpa using hj
    exact ⟨rfl, .inl ⟨by simp only [G', if_neg hjg], by simp only [G', if_neg hjg]⟩⟩
  have hle := Le.refl w G.I
  have hkN : k < C.N := by
    have := S.holds k
    rw [hk] at this
    have h1 := this.1
    rw [S.nts] at h1; exact h1
  have hkg : g ≠ k := by omega
  have hu : ∀ j, upd A [(g, .tok n []), (k, .slg g n [])] j = if j = g then .tok n [] else if j = k then .slg g n [] else A j := by
    intro j
    simp only [upd]
    by_cases h1 : j = g
    · subst h1; simp
    · rw [nat_beq_false (Ne.symm h1), if_neg h1]
      by_cases h2 : j = k
      · subst h2; simp
      · rw [nat_beq_false (Ne.symm h2), if_neg h2]; rfl
  have own' : ∀ j b, ownsB G' j b (upd A [(g, .tok n []), (k, .slg g n [])] j) → j ≠ g ∧ ownsB G j b (A j) := by
    intro j b h
    rw [hu] at h
    split at h
    · rename_i hj
      simp only [ownsB, G', hj, if_true] at h
      obtain ⟨_, _, _, h1, _⟩ := h
      cases h1
    · rename_i hj
      refine ⟨hj, ?_⟩
      split at h
      · simp only [ownsB] at h
      · revert h
        generalize A j = y
        cases y <;> simp only [ownsB, G', if_neg hj] <;> exact id
  refine ⟨G', S.os, S.tape, S.output, S.size, S.block, S.sub, S.new, S.val, S.nts, S.dfs, fun j => ?_, fun j j' b hj h1 h2 => S.apart j j' b hj (own' j b h1).2 (own' j' b h2).2⟩
  rw [hu]
  split
  · rename_i hj; subst hj
    simp only [Holds, G', if_true]
    exact ⟨rfl, .inl ⟨rfl, rfl⟩⟩
  · rename_i hj
    split
    · rename_i hjk; subst hjk
      have hh := S.holds j
      rw [hk] at hh
      refine ⟨hh.1, ⟨[.slice none 0 0], ?_, ?_⟩⟩
      · simp only [RepS, RepC]
        exact ⟨_, rfl, ⟨_, rfl, .inl ⟨rfl, trivial⟩⟩, by simp, fun _ => by simp only [G', if_true]⟩
      · exact rep_val (S.imm hk) rfl
    · exact (S.holds j).keep hle hg (hf j) (Nat.le_refl _) (fun h => ⟨h, rfl⟩) (fun _ => ⟨rfl, by simp only [G', if_neg hj], by simp only [G', if_neg hj]⟩) (fun b _ => ⟨rfl, fun _ h => h⟩)

theorem aw_newtok {C : Cx} {c : Code} {st : St} {Q : Exit → St → Prop} (g k n : Nat) (hgN : Nat.ble C.N g = true) (hk : look st k = .imm (.v (.slice none 0 0))) (hf : freshB [g] st = true)
    (h : AW C c ((g, .tok n []) :: (k, .slg g n []) :: st) Q) : AW C c st Q := by
  intro a w ⟨G, S⟩
  have := S.newtok (n := n) (Nat.le_of_ble_eq_true hgN) hk (freshB_spec st hf)
  rw [upd_look] at this
  exact h a w this

/-! ### Strings and bytes -/

def bytesL (l : List UInt8) : List AV := l.map fun b => .v (byteV b)

theorem repE_bytes {w : World} {I : Nat → Nat → Prop} : ∀ (l : List UInt8), RepE w I 1 (bytesL l) (l.map byteV)
  | [] => by simp only [bytesL, List.map_nil, RepE]
  | b :: l => by
    have ih := repE_bytes (w := w) (I := I) l
    simp only [bytesL, List.map_cons, RepE] at ih ⊢
    exact ⟨[byteV b], _, rfl, rfl, by simp [RepC, byteV, Value.cells, plain], ih⟩

theorem repE_bytes_inv {w : World} {I : Nat → Nat → Prop} : ∀ (l : List UInt8) (cs : List Value), RepE w I 1 (bytesL l) cs → cs = l.map byteV
  | [], cs, h => by simpa only [bytesL, List.map_nil, RepE] using h
  | b :: l, cs, h => by
    simp only [bytesL, List.map_cons, RepE] at h
    obtain ⟨c1, c2, rfl, _, h1, h2⟩ := h
    simp only [RepC] at h1
    have := repE_bytes_inv l c2 h2
    rw [h1.1, this]
    simp [byteV, Value.cells]

/-- The bytes of a string. -/
def strOf (l : List UInt8) : ByteArray := ⟨l.toArray⟩
theorem strOf_list (l : List UInt8) : (strOf l).data.toList = l := by simp [strOf]
theorem strOf_size (l : List UInt8) : (strOf l).size = l.length := by simp [strOf, ByteArray.size]
theorem strOf_data (s : ByteArray) : strOf s.data.toList = s := by cases s; simp [strOf]

theorem foldl_push : ∀ (l : List UInt8) (s : ByteArray), (l.map fun b => (b.toNat : Int)).foldl (fun r n => r.push (UInt8.ofNat n.toNat)) s = strOf (s.data.toList ++ l)
  | [], s => by simp [strOf_data]
  | b :: l, s => by
    simp only [List.map_cons, List.foldl_cons]
    rw [foldl_push l]
    congr 1
    simp

section
variable {C : Cx} {A : Nat → SV} {d : Nat} {ty : TypeId} {pos : String} {af : Array Edge} {gd : Option (Nat × Bool)} {x y : Operand} {T T' : TypeId}

theorem freeze_alloc (w : World) (cs : Array Value) (el : TypeId) : (w.alloc (.cells cs el)).freeze ⟨w.heap.size, cs.size, none⟩ 1 = w.alloc (.cells cs el (cs.size, cs.size + 1)) := by
  unfold World.freeze
  rw [if_neg (by omega)]
  unfold World.alloc
  dsimp only
  congr 1
  apply Array.ext
  · simp
  · intro i h1 h2
    simp only [Array.getElem_modify]
    by_cases hi : w.heap.size = i
    · subst hi; simp
    · have hlt : i < w.heap.size := by simp at h2; omega
      simp only [hi, if_false]
      rw [Array.getElem_push_lt hlt, Array.getElem_push_lt hlt]

/-- string(b) -/
theorem s_cvBS {el : TypeId} {l : List UInt8} (hN : Nat.blt d C.N = true) (hx : opV A x = some (.sl 1 (bytesL l))) (hT : C.P.underlying T = some (.slice el)) (hT' : C.P.underlying T' = some .string) (he : C.P.underlying el = some (.int .u8)) :
    StepU C ⟨some d, .convert T T' x, ty, pos, af, gd⟩ (opR x) [] A [(d, .imm (.v (.string (strOf l))))] :=
  StepU.op1 rfl hN hx fun w I ρ h1 => ⟨.string (strOf l), by
    have hlen : (bytesL l).length = l.length := by simp [bytesL]
    rcases rep_sl h1 with ⟨e, hl⟩ | ⟨b, o, cap, e, h2, h3, h4⟩
    · have : l = [] := by cases l with
        | nil => rfl
        | cons a l => simp [bytesL] at hl
      subst this
      simp only [execOp, Sem.run_bind, e, run_convert_bytes_string w T T' el none 0 0 hT he hT', Conv.bytesToString, Sem.run_pure, Result.andThen_ok]
      rfl
    · obtain ⟨cs, k1, k2⟩ := h4.cells
      have hcs := repE_bytes_inv l cs k1
      have hb : cs = (l.map fun b => (b.toNat : Int)).map (Value.int .u8) := by rw [hcs, List.map_map]; rfl
      have hld : (loadCells ⟨b, o, none⟩ (bytesL l).length).run C.P w = .ok ((l.map fun b => (b.toNat : Int)).map (Value.int .u8)).toArray w := by
        rw [← hb, hlen, show l.length = cs.length from by rw [hcs, List.length_map]]
        exact run_loadCells cs fun j hj => (k2 j hj).1
      simp only [execOp, Sem.run_bind, e, run_convert_bytes_string w T T' el _ _ _ hT he hT', run_bytesToString w _ _ _ _ hld, Result.andThen_ok, Sem.run_pure]
      rw [foldl_push]
      rfl, rep_p w I rfl⟩

/-- []byte(s), of which nobody will append to the result. -/
theorem s_cvSB {el : TypeId} {s : ByteArray} (hN : Nat.blt d C.N = true) (hx : opV A x = some (.v (.string s))) (hT : C.P.underlying T = some .string) (hT' : C.P.underlying T' = some (.slice el)) (he : C.P.underlying el = some (.int .u8)) (hs : s.size ≤ maxLen) :
    StepU C ⟨some d, .convert T T' x, ty, pos, af, gd⟩ (opR x) [] A [(d, .imm (.sl 1 (bytesL s.data.toList)))] := by
  intro A' a w hR hF ⟨G, S⟩
  rw [← opV_congr hR] at hx
  have hev := rep_str (S.opV hx)
  obtain ⟨cap, hcap⟩ : ∃ k, k = Question.cut (.appendCap s.size 0 el) (w.tape w.drawn (.appendCap s.size 0 el)) := ⟨_, rfl⟩
  have hnc : s.size ≤ cap ∧ cap ≤ maxLen := by
    unfold maxLen at hs
    have h63 : (0 : Nat) < 2 ^ 63 - s.size := by omega
    rw [hcap]
    constructor
    · simp only [Question.cut]; omega
    · simp only [Question.cut]
      have := Nat.mod_lt (w.tape w.drawn (.appendCap s.size 0 el)) h63
      unfold maxLen
      omega
  let w1 : World := { w with drawn := w.drawn + 1 }
  have S1 : SimG C A' G a w1 := S.heap rfl rfl rfl rfl
  let cs : Array Value := (s.data.map fun b => Value.int .u8 b.toNat) ++ Array.replicate (cap - s.size) (.int .u8 0)
  have hsd : s.data.size = s.size := rfl
  have hcsz : cs.size = cap := by simp only [cs, Array.size_append, Array.size_map, Array.size_replicate, hsd]; omega
  have S2 := S1.allocI cs el s.size (cs.size, cs.size + 1)
  have hcell := cellsAt_alloc (w := w1) (I := G.I) (T := el) (cs := cs) (k := s.size) (fr := (cs.size, cs.size + 1)) (by omega)
  have htk : cs.toList.take s.size = s.data.toList.map byteV := by
    have : cs.toList = s.data.toList.map byteV ++ List.replicate (cap - s.size) (.int .u8 0) := by simp [cs, byteV]
    rw [this, List.take_append_of_le_length (by simp [hsd]), List.take_of_length_le (by simp [hsd])]
  rw [htk] at hcell
  have hrun : (convert T T' (a.eval x)).run C.P w = .ok (.slice (some ⟨w1.heap.size, 0, none⟩) s.size cap) (w1.alloc (.cells cs el (cs.size, cs.size + 1))) := by
    have hnf : (Question.appendCap s.size 0 el).forced = false := rfl
    have hsh : (w1.alloc (.cells cs el)).shape? w1.heap.size = some (el, cs.size) := by unfold World.shape?; rw [alloc_new]
    have hms : (markStringish ⟨w1.heap.size, 0, none⟩).run C.P (w1.alloc (.cells cs el)) = .ok () (w1.alloc (.cells cs el (cs.size, cs.size + 1))) := by
      simp only [markStringish, Sem.run_bind, run_shape, Result.andThen_ok, hsh, run_freeze, freeze_alloc]
    simp only [convert, Sem.run_bind, run_underlying' hT, run_underlying' hT', run_underlying' he, Result.andThen_ok, hev, Conv.stringToBytes, run_choose, hnf, Bool.false_eq_true, if_false, ← hcap, newRow, run_newObj, Sem.run_pure]
    exact (congrArg (fun r => Result.andThen r fun _ w' => Result.ok (Value.slice (some ⟨w1.heap.size, 0, none⟩) s.size cap) w') hms)
  have hle : Le w1 G.I (w1.alloc (.cells cs el (cs.size, cs.size + 1))) (fun b o => G.I b o ∨ (b = w1.heap.size ∧ o < s.size)) := fun b o h => ⟨.inl h, (Le.alloc S1.val _ b o h).2⟩
  unfold Oper.wp
  simp only [execOp, Sem.run_bind, hrun, Result.andThen_ok, Sem.run_pure, Oper.upon_value]
  refine ⟨_, S2.put (by simpa [Nat.blt_eq] using hN) (valS_imm.2 ⟨[_], ?_, rfl⟩)⟩
  simp only [RepC]
  exact ⟨_, rfl, .inr ⟨w1.heap.size, 0, cap, by simp [bytesL, hsd], by simp [bytesL, hsd]; exact hnc.1, hnc.2, (repE_bytes _).mem hcell⟩⟩

end
end Go.Al
namespace Go.Al
open Go.RowKit

/-! ### make, copy: a row of one's own that is written before it is handed on -/

theorem repCs_E {w : World} {I : Nat → Nat → Prop} {n : Nat} : ∀ {xs : List AV} {cs : List Value}, (∀ x ∈ xs, x.width = n) → (RepCs w I xs cs ↔ RepE w I n xs cs)
  | [], cs, _ => by simp only [RepCs, RepE]
  | x :: xs, cs, h => by
    simp only [RepCs, RepE]
    have ih : ∀ {cs}, RepCs w I xs cs ↔ RepE w I n xs cs := repCs_E fun y hy => h y (List.mem_cons_of_mem _ hy)
    constructor
    · rintro ⟨c1, c2, h1, h2, h3⟩
      exact ⟨c1, c2, h1, by rw [RepC.len x c1 h2]; exact h x List.mem_cons_self, h2, ih.1 h3⟩
    · rintro ⟨c1, c2, h1, _, h2, h3⟩
      exact ⟨c1, c2, h1, h2, ih.2 h3⟩

theorem RepE.split {w : World} {I : Nat → Nat → Prop} {n : Nat} : ∀ (k : Nat) {xs : List AV} {cs : List Value}, RepE w I n xs cs → k ≤ xs.length → RepE w I n (xs.take k) (cs.take (k * n)) ∧ RepE w I n (xs.drop k) (cs.drop (k * n))
  | 0, xs, cs, h, _ => by simp only [List.take_zero, Nat.zero_mul, List.drop_zero]; exact ⟨by simp only [RepE], h⟩
  | k + 1, [], cs, _, hk => by simp at hk
  | k + 1, x :: xs, cs, h, hk => by
    simp only [RepE] at h
    obtain ⟨c1, c2, rfl, h1, h2, h3⟩ := h
    obtain ⟨k1, k2⟩ := RepE.split k h3 (by simpa using hk)
    have e : (k + 1) * n = n + k * n := by rw [Nat.add_mul]; omega
    simp only [List.take_succ_cons, List.drop_succ_cons, e]
    constructor
    · simp only [RepE]
      exact ⟨c1, c2.take (k * n), by rw [List.take_append, List.take_of_length_le (by omega), h1, Nat.add_sub_cancel_left], h1, h2, k1⟩
    · have e2 : (c1 ++ c2).drop (n + k * n) = c2.drop (k * n) := by rw [List.drop_append, List.drop_of_length_le (by omega), List.nil_append, h1, Nat.add_sub_cancel_left]
      rw [e2]; exact k2

theorem zeroRow {w : World} {I : Nat → Nat → Prop} {X0 : AV} {zc : Array Value} {n : Nat} (hz : RepC w I X0 zc.toList) (hn : zc.size = n) (h0 : 0 < n) : ∀ k : Nat, RepE w I n (List.replicate k X0) ((List.range (k * n)).map fun i => zc[i % zc.size]!)
  | 0 => by simp [RepE]
  | k + 1 => by
    have ih := zeroRow hz hn h0 k
    have e : (k + 1) * n = k * n + n := by rw [Nat.add_mul]; omega
    rw [e, List.range_add, List.map_append, List.replicate_succ']
    refine ih.append ?_
    simp only [RepE]
    refine ⟨zc.toList, [], ?_, by simpa using hn, hz, rfl⟩
    rw [List.append_nil, List.map_map]
    apply List.ext_getElem
    · simp [hn]
    · intro i h1 h2
      have hi : i < n := by simpa using h1
      simp only [List.getElem_map, List.getElem_range, Function.comp]
      have : (k * n + i) % zc.size = i := by rw [hn, Nat.mul_comm, Nat.mul_add_mod]; exact Nat.mod_eq_of_lt hi
      rw [this, getElem!_pos zc i (by omega)]
      simp

theorem setBlk_same {w : World} {b : Nat} {o : Obj} (h : w.heap[b]? = some o) : setBlk w b o = w := by
  unfold setBlk
  have : w.heap.setIfInBounds b o = w.heap := by
    apply Array.ext
    · simp
    · intro i h1 h2
      by_cases hi : b = i
      · subst hi; simp; exact (Array.getElem?_eq_some_iff.1 h).2.symm
      · rw [Array.getElem_setIfInBounds_ne _ hi]
  rw [this]

theorem run_storeCells' {P : Program} {b o : Nat} {T : TypeId} {fr : Nat × Nat} (vs : List Value) (w : World) (cs : Array Value) (hb : w.heap[b]? = some (.cells cs T fr))
    (hf : unfrozen fr cs.size) (hl : o + vs.length ≤ cs.size) (hp : vs.all plain = true) :
    (storeCells ⟨b, o, none⟩ vs).run P w = .ok () (setBlk w b (.cells (splice cs o vs) T fr)) := by
  have := run_storeCells (P := P) vs 0 w cs hb hf (by omega) hp
  rw [this]
  cases vs with
  | nil => simp only [splice, setBlk_same hb]
  | cons v vs => rfl

theorem Act.put_put (a : Act) (d : Nat) (u v : Value) : (a.put (some d) u).put (some d) v = a.put (some d) v := by simp [Act.put]

section
variable {C : Cx} {A : Nat → SV} {d : Nat} {ty : TypeId} {pos : String} {af : Array Edge} {gd : Option (Nat × Bool)} {x y : Operand} {T T' : TypeId}

theorem s_makeSlice (g : Nat) {el : TypeId} {n by_ : Nat} {X0 : AV} {len cap : Nat} {il ic : Int} {k1 k2 : IntKind} (hgN : Nat.ble C.N g = true) (hN : Nat.blt d C.N = true) (hx : opV A x = some (.v (.int k1 il))) (hy : opV A y = some (.v (.int k2 ic))) (hil : il = len) (hic : ic = cap)
    (hT : C.P.underlying T = some (.slice el)) (hn : tySize C.P el = some n) (hz : IsZero C.P el X0) (hX : Nat.beq X0.width n = true) (h0 : Nat.blt 0 n = true) (hb : (C.P.info? el).map (·.bytes) = some by_) (hlc : len ≤ cap) (hB : by_ * cap ≤ 281474976710656) (hL : cap < 9223372036854775808) :
    StepU C ⟨some d, .makeSlice T x y, ty, pos, af, gd⟩ (opR x ++ opR y) [g] A [(g, .box el (.imm (.agg (List.replicate cap X0)))), (d, .osl g len cap)] := by
  intro A' a w hR hF ⟨G, S⟩
  rw [← opV_congr (fun k hk => hR k (List.mem_append_left _ hk))] at hx
  rw [← opV_congr (fun k hk => hR k (List.mem_append_right _ hk))] at hy
  have hev1 := rep_int (S.opV hx)
  have hev2 := rep_int (S.opV hy)
  have hN' : d < C.N := by simpa [Nat.blt_eq] using hN
  have hgd : g ≠ d := by have := Nat.le_of_ble_eq_true hgN; omega
  obtain ⟨z, hz1, hz2⟩ := hz
  have hn0 : 0 < n := by simpa [Nat.blt_eq] using h0
  have hzl : z.cells.size = n := by
    have := RepC.len X0 _ (flatC_spec (w := w) (I := G.I) X0 _ hz2)
    rw [← Array.length_toList, this]; exact Nat.eq_of_beq_eq_true hX
  obtain ⟨inf, hi, hib⟩ : ∃ inf, C.P.info? el = some inf ∧ inf.bytes = by_ := by
    cases hi : C.P.info? el with
    | none => rw [hi] at hb; cases hb
    | some inf => rw [hi] at hb; exact ⟨inf, rfl, by simpa using hb⟩
  let cs : Array Value := (Array.range (cap * n)).map fun i => z.cells[i % z.cells.size]!
  have hrow : RepE w G.I n (List.replicate cap X0) cs.toList := by
    have := zeroRow (w := w) (I := G.I) (flatC_spec X0 _ hz2) hzl hn0 cap
    simpa [cs] using this
  have hxw : X0.width = n := Nat.eq_of_beq_eq_true hX
  have hcont : RepS w G (.imm (.agg (List.replicate cap X0))) cs.toList := by
    simp only [RepS, RepC]
    exact (repCs_E (n := n) (fun y hy => by rw [List.eq_of_mem_replicate hy]; exact hxw)).2 hrow
  have hb1 := S.allocBox (T := el) (cs := cs) hgd hN' hcont (by simp only [noG]) (fun k hk => hF k (by simpa only [has] using hk))
  obtain ⟨G1, S1⟩ := hb1
  have hgA : G1.blk g = w.heap.size := by
    have h1 := S1.holds d
    have e : upd A' [(g, .box el (.imm (.agg (List.replicate cap X0)))), (d, .ptr g 0)] d = .ptr g 0 := by simp only [upd]; rw [nat_beq_false hgd]; simp
    rw [e] at h1
    obtain ⟨_, c, h2, h3⟩ := h1
    simp only [RepS] at h2
    rw [h2] at h3
    have e2 : (a.put (some d) (.pointer (some ⟨w.heap.size, 0, none⟩))).tmps.getD d Go.undef = .pointer (some ⟨w.heap.size, 0, none⟩) := by simp [Act.put, S.nts, hN']
    rw [e2] at h3
    simp only [mkS, SV.isAgg, Bool.false_eq_true, if_false, List.headD_cons, Value.pointer.injEq, Option.some.injEq, Addr.mk.injEq] at h3
    exact h3.1.symm
  have S2 := S1.put hN' (x := .osl g len cap) (v := .slice (some ⟨w.heap.size, 0, none⟩) len cap) ⟨[.slice (some ⟨G1.blk g, 0, none⟩) len cap], by simp only [RepS], by simp only [mkS, SV.isAgg, hgA]; rfl⟩
  rw [Act.put_put] at S2
  have eu : upd (upd A' [(g, .box el (.imm (.agg (List.replicate cap X0)))), (d, .ptr g 0)]) [(d, .osl g len cap)] = upd A' [(g, .box el (.imm (.agg (List.replicate cap X0)))), (d, .osl g len cap)] := by
    funext k
    simp only [upd]
    by_cases hkd : d = k
    · subst hkd; rw [nat_beq_false hgd]; simp
    · rw [nat_beq_false hkd]; simp
  rw [eu] at S2
  unfold Oper.wp
  have hw1 : IntKind.i64.wrap il = len := by rw [hil]; exact wrap64 (by omega) (by omega)
  have hw2 : IntKind.i64.wrap ic = cap := by rw [hic]; exact wrap64 (by omega) (by omega)
  have hrun : (Instr.makeSlice T (a.eval x) (a.eval y)).run C.P w = .ok (.slice (some ⟨w.heap.size, 0, none⟩) len cap) (w.alloc (.cells cs el)) := by
    have hcn : ¬ (cap * n = 0 ∧ cap ≠ 0) := by
      rintro ⟨h1, h2⟩
      have := Nat.mul_pos (Nat.pos_of_ne_zero h2) hn0
      omega
    have hbig : decide ((by_ : Int) * (cap : Int) > 2 ^ 48) = false := by
      refine decide_eq_false ?_
      have : ((by_ * cap : Nat) : Int) ≤ 281474976710656 := Int.ofNat_le.2 hB
      rw [Int.natCast_mul] at this
      have h48 : (2 : Int) ^ 48 = 281474976710656 := by decide
      rw [h48]; omega
    have hc0 : ((cap : Int) < 0) = False := by simp
    have hl0 : ((len : Int) < 0) = False := by simp
    have hlc' : ((len : Int) > (cap : Int)) = False := by simp; omega
    simp only [Instr.makeSlice, Sem.run_bind, run_underlying' hT, Result.andThen_ok, hev1, hev2, asInt, asIntOf, Sem.run_pure, run_typeInfo' hi, hw1, hw2, hib, hc0, hl0, hlc', hbig, decide_false, Bool.or_false, Bool.false_eq_true, if_false, run_askRoom, run_sizeOf hn, Int.toNat_natCast]
    by_cases h : cap * n = 0
    · have hcs0 : ∀ f : Nat → Value, (Array.range 0).map f = #[] := by intro f; simp
      simp only [h, if_true, Sem.run_pure, Result.andThen_ok, newRow, Sem.run_bind, run_newObj]
      simp only [cs, h, hcs0]
      rfl
    · simp only [h, if_false, Sem.run_bind, run_zeroValue hz1, Result.andThen_ok, Sem.run_pure, newRow, run_newObj]
      rfl
  simp only [execOp, Sem.run_bind, hrun, Result.andThen_ok, Sem.run_pure, Oper.upon_value]
  exact ⟨G1, S2⟩

theorem width_all {n : Nat} {xs : List AV} (h : xs.all (fun x => Nat.beq x.width n) = true) : ∀ x ∈ xs, x.width = n := fun x hx => Nat.eq_of_beq_eq_true (List.all_eq_true.1 h x hx)

/-- copy(own, src). -/
theorem s_copy_in {g len cap n : Nat} {xs m : List AV} {el el' : TypeId} {T0 T1 : TypeId} (hN : Nat.blt d C.N = true) (hgN : Nat.ble C.N g = true) (hx : opS A x = .osl g len cap) (hg : A g = .box T0 (.imm (.agg xs))) (hy : opV A y = some (.sl n m)) (hT : C.P.underlying T = some (.slice el)) (hn : tySize C.P el = some n)
    (hw : ∀ x ∈ xs, x.width = n) (hlen : len ≤ xs.length) :
    StepU C ⟨some d, .call { callee := .builtin .copy, args := #[x, y], argTypes := #[T, T'] }, ty, pos, af, gd⟩ (g :: (opR x ++ opR y)) [] A
      [(g, .box T0 (.imm (.agg (m.take (min m.length len) ++ xs.drop (min m.length len))))), (d, .imm (.v (.int .i64 (min m.length len : Nat))))] := by
  intro A' a w hR hF ⟨G, S⟩
  have hgA : A' g = .box T0 (.imm (.agg xs)) := (hR g List.mem_cons_self).trans hg
  have hN' : d < C.N := by simpa [Nat.blt_eq] using hN
  have hgd : g ≠ d := by have := Nat.le_of_ble_eq_true hgN; omega
  obtain ⟨c, hc1, hc2⟩ := S.opS ((opS_congr (fun k hk => hR k (List.mem_cons_of_mem _ (List.mem_append_left _ hk)))).trans hx) (by simp) (by simp)
  simp only [RepS] at hc1
  have hev : a.eval x = .slice (some ⟨G.blk g, 0, none⟩) len cap := by rw [hc2, hc1]; rfl
  rw [← opV_congr (fun k hk => hR k (List.mem_cons_of_mem _ (List.mem_append_right _ hk)))] at hy
  have hyR := S.opV hy
  have hb := S.holds g
  rw [hgA] at hb
  simp only [Holds] at hb
  obtain ⟨how, ⟨cs, fr, hb2, hb3, hb4⟩, hni⟩ := hb
  simp only [RepS, RepC] at hb3
  have hE := (repCs_E hw).1 hb3
  obtain ⟨k, hk⟩ : ∃ k, k = min m.length len := ⟨_, rfl⟩
  rw [← hk]
  have hkm : k ≤ m.length := by omega
  have hkx : k ≤ xs.length := by omega
  -- the cells that come
  obtain ⟨es, e1, e2, e3⟩ : ∃ es, RepE w G.I n (m.take k) es ∧ (Builtin.lenOf (a.eval y)).run C.P w = .ok m.length w ∧ (Builtin.firstCells n k (a.eval y)).run C.P w = .ok es.toArray w := by
    rcases rep_sl hyR with ⟨h1, rfl⟩ | ⟨b, o, cap', h1, h2, h3, h4⟩
    · have hk0 : k = 0 := by rw [hk]; simp
      refine ⟨[], ?_, by rw [h1]; rfl, by rw [h1]; rfl⟩
      simp [RepE]
    · obtain ⟨ds, q1, q2⟩ := h4.cells
      obtain ⟨q3, _⟩ := q1.split k hkm
      refine ⟨ds.take (k * n), q3, by rw [h1]; rfl, ?_⟩
      rw [h1]
      simp only [Builtin.firstCells]
      have hdl := q1.len
      have : (ds.take (k * n)).length = k * n := by
        have := mul_le_of (n := n) hkm
        rw [List.length_take]; omega
      have hld := run_loadCells (P := C.P) (w := w) (b := b) (o := o) (ds.take (k * n)) (fun j hj => by
        rw [this] at hj
        have := (q2 j (by have := mul_le_of (n := n) hkm; omega)).1
        simp only [List.getElem_take]
        exact this)
      rw [this] at hld
      exact hld
  have hel := e1.len
  rw [List.length_take, Nat.min_eq_left hkm] at hel
  have hcl := hE.len
  simp only [Array.length_toList] at hcl
  have hfit : es.length ≤ cs.size := by rw [hel, hcl]; exact mul_le_of hkx
  have hst := run_storeCells' (P := C.P) (b := G.blk g) (o := 0) es w cs hb2 hb4 (by omega) e1.plain
  obtain ⟨_, q4⟩ := hE.split k hkx
  have hnew : RepS w G (.imm (.agg (m.take k ++ xs.drop k))) (splice cs 0 es).toList := by
    simp only [RepS, RepC]
    refine (repCs_E (n := n) ?_).2 ?_
    · intro z hz
      rcases List.mem_append.1 hz with hz | hz
      · -- each element that came has its width: by its cells
        have : ∀ (l : List AV) (c : List Value), RepE w G.I n l c → ∀ z ∈ l, z.width = n := by
          intro l
          induction l with
          | nil => intro c _ z hz; cases hz
          | cons p l ih =>
            intro c h z hz
            simp only [RepE] at h
            obtain ⟨c1, c2, _, h1, h2, h3⟩ := h
            rcases List.mem_cons.1 hz with rfl | hz
            · rw [← RepC.len _ _ h2]; exact h1
            · exact ih c2 h3 z hz
        exact this _ _ e1 z hz
      · exact hw z (List.mem_of_mem_drop hz)
    · rw [splice_list _ _ _ (by omega), List.take_zero, List.nil_append, Nat.zero_add, hel]
      exact e1.append q4
  have S1 := S.storeBox hgA hb2 (splice_size _ _ _) hnew
  obtain ⟨G1, S1⟩ := S1
  have S2 := S1.put hN' (x := .imm (.v (.int .i64 (k : Nat)))) (v := .int .i64 k) (valS_imm.2 (rep_p _ _ rfl))
  have eu : upd (upd A' [(g, .box T0 (.imm (.agg (m.take k ++ xs.drop k))))]) [(d, .imm (.v (.int .i64 (k : Nat))))] = upd A' [(g, .box T0 (.imm (.agg (m.take k ++ xs.drop k)))), (d, .imm (.v (.int .i64 (k : Nat))))] := by
    funext j
    simp only [upd]
    by_cases hkd : d = j
    · subst hkd; rw [nat_beq_false hgd]; simp
    · rw [nat_beq_false hkd]; simp
  rw [eu] at S2
  unfold Oper.wp
  have hrun : (execOp a.eval ⟨some d, .call { callee := .builtin .copy, args := #[x, y], argTypes := #[T, T'] }, ty, pos, af, gd⟩).run C.P w = .ok (.value (.int .i64 k)) (setBlk w (G.blk g) (.cells (splice cs 0 es) T0 fr)) := by
    simp only [execOp, resolve, Sem.run_bind, Sem.run_pure, Result.andThen_ok, invoke, builtin]
    have e0 : (#[x, y].map a.eval) = #[a.eval x, a.eval y] := by simp
    have f1 : (#[T, T'] : Array TypeId)[0]? = some T := rfl
    have f3 : (#[a.eval x, a.eval y] : Array Value)[0]? = some (a.eval x) := rfl
    have f4 : (#[a.eval x, a.eval y] : Array Value)[1]? = some (a.eval y) := rfl
    rw [e0]
    simp only [Builtin.copy_, f1, f3, f4]
    simp only [hev, Sem.run_bind, run_underlying' hT, Result.andThen_ok, e2, run_sizeOf hn]
    have : Nat.min m.length len = k := hk.symm
    simp only [this, e3, Result.andThen_ok, hst, Sem.run_pure, goInt]
  rw [hrun, Oper.upon_value]
  exact ⟨G1, S2⟩

end

/-- From now on the row is only read, and appended to. -/
theorem SimG.freeze {C : Cx} {A : Nat → SV} {G : Gh} {a : Act} {w : World} (S : SimG C A G a w) {g g' k n len cap : Nat} {T0 : TypeId} {xs : List AV} (hgN : C.N ≤ g) (hgN' : C.N ≤ g') (hgg : g ≠ g') (hg : A g = .box T0 (.imm (.agg xs))) (hk : A k = .osl g len cap)
    (hw : ∀ x ∈ xs, x.width = n) (hcap : cap = xs.length) (hlen : len ≤ cap) (hmax : cap ≤ maxLen) (hf : ∀ j, noG [g'] (A j) = true) :
    Sim C (upd A [(g', .tok n (xs.take len)), (g, .dead), (k, .slg g' n (xs.take len))]) a w := by
  have hb := S.holds g
  rw [hg] at hb
  simp only [Holds] at hb
  obtain ⟨how, ⟨cs, fr, hb2, hb3, hb4⟩, hni⟩ := hb
  simp only [RepS, RepC] at hb3
  have hE := (repCs_E hw).1 hb3
  have hcl := hE.len
  simp only [Array.length_toList] at hcl
  obtain ⟨q1, _⟩ := hE.split len (by omega)
  have hkk := S.holds k
  rw [hk] at hkk
  obtain ⟨hkN, c, hc1, hc2⟩ := hkk
  simp only [RepS] at hc1
  have hev : a.tmps.getD k Go.undef = .slice (some ⟨G.blk g, 0, none⟩) len cap := by rw [hc2, hc1]; rfl
  rw [S.nts] at hkN
  let I' : Nat → Nat → Prop := fun b o => G.I b o ∨ (b = G.blk g ∧ o < len * n)
  let G' : Gh := { I := I', blk := G.blk, cur := fun j => if j = g' then .slice (some ⟨G.blk g, 0, none⟩) len cap else G.cur j, len := fun j => if j = g' then len else G.len j }
  have hle : Le w G.I w I' := fun b o h => ⟨.inl h, rfl⟩
  have hrel : GRel [g'] G G' := fun j hj => by
    have hjg : j ≠ g' := by simpa using hj
    exact ⟨rfl, .inl ⟨by simp only [G', if_neg hjg], by simp only [G', if_neg hjg]⟩⟩
  have hmul : len * n ≤ cap * n := mul_le_of hlen
  have hcells : CellsAt w I' (G.blk g) 0 (cs.toList.take (len * n)) := by
    intro j hj
    rw [List.length_take, Array.length_toList] at hj
    refine ⟨?_, .inr ⟨rfl, by omega⟩⟩
    rw [cell_at hb2, Nat.zero_add]
    simp only [List.getElem_take]
    rw [Array.getElem?_eq_getElem (by omega)]
    simp
  have hM : RepM w I' n (xs.take len) (G.blk g) 0 := (q1.mono hle).mem hcells
  have htl : (xs.take len).length = len := by rw [List.length_take]; omega
  have hu : ∀ j, upd A [(g', .tok n (xs.take len)), (g, .dead), (k, .slg g' n (xs.take len))] j = if j = g' then .tok n (xs.take len) else if j = g then .dead else if j = k then .slg g' n (xs.take len) else A j := by
    intro j
    simp only [upd]
    by_cases h1 : j = g'
    · subst h1; simp
    · rw [nat_beq_false (Ne.symm h1), if_neg h1]
      by_cases h2 : j = g
      · subst h2; simp
      · rw [nat_beq_false (Ne.symm h2), if_neg h2]
        by_cases h3 : j = k
        · subst h3; simp
        · rw [nat_beq_false (Ne.symm h3), if_neg h3]; rfl
  have own' : ∀ j b, ownsB G' j b (upd A [(g', .tok n (xs.take len)), (g, .dead), (k, .slg g' n (xs.take len))] j) → (j = g' ∧ b = G.blk g) ∨ (j ≠ g' ∧ j ≠ g ∧ ownsB G j b (A j)) := by
    intro j b h
    rw [hu] at h
    split at h
    · rename_i hj; subst hj
      simp only [ownsB, G', if_true] at h
      obtain ⟨ad, n', c', h1, h2⟩ := h
      simp only [Value.slice.injEq, Option.some.injEq] at h1
      exact .inl ⟨rfl, by rw [← h2, ← h1.1]⟩
    · rename_i hj
      split at h
      · simp only [ownsB] at h
      · rename_i hjg
        split at h
        · simp only [ownsB] at h
        · refine .inr ⟨hj, hjg, ?_⟩
          revert h
          generalize A j = y
          cases y <;> simp only [ownsB, G', if_neg hj] <;> exact id
  refine ⟨G', S.os, S.tape, S.output, S.size, S.block, fun b o h => .inl (S.sub b o h), fun b o h => ?_, fun b o h => ?_, S.nts, S.dfs, fun j => ?_, fun j j' b hj h1 h2 => ?_⟩
  · rcases h with h | ⟨rfl, _⟩
    · exact S.new b o h
    · exact .inr how.1
  · rcases h with h | ⟨rfl, _⟩
    · exact S.val b o h
    · exact how.2
  · rw [hu]
    split
    · rename_i hj; subst hj
      simp only [Holds, G', if_true, htl]
      refine ⟨trivial, .inr ⟨G.blk g, cap, by rw [htl], by rw [htl]; exact hlen, hmax, hM, how, ⟨cs, T0, fr, hb2, by rw [hcl, hcap], hb4⟩, ?_⟩⟩
      intro o ho hi
      rw [htl] at ho
      rcases hi with hi | ⟨_, h2⟩
      · exact hni o hi
      · omega
    · rename_i hj
      split
      · simp only [Holds]
      · rename_i hjg
        split
        · rename_i hjk; subst hjk
          refine ⟨by rw [S.nts]; exact hkN, ⟨[.slice (some ⟨G.blk g, 0, none⟩) len cap], ?_, hev⟩⟩
          simp only [RepS, RepC]
          refine ⟨_, rfl, ⟨_, rfl, .inr ⟨G.blk g, 0, cap, by rw [htl], by rw [htl]; exact hlen, hmax, hM⟩⟩, by simp only [G', if_true, htl]; omega, fun _ => by simp only [G', if_true]⟩
        · refine (S.holds j).keep hle hrel (hf j) (Nat.le_refl _) (fun h => ⟨h, rfl⟩) (fun _ => ⟨rfl, by simp only [G', if_neg hj], by simp only [G', if_neg hj]⟩) (fun b hbk => ⟨rfl, fun o hi => ?_⟩)
          rcases hi with hi | ⟨rfl, _⟩
          · exact hi
          · exact (S.apart j g _ hjg hbk (by rw [hg]; simp [ownsB])).elim
  · rcases own' j b h1 with ⟨e1, e2⟩ | ⟨e1, e2, e3⟩
    · rcases own' j' b h2 with ⟨e4, e5⟩ | ⟨e4, e5, e6⟩
      · exact hj (e1.trans e4.symm)
      · subst e2; exact S.apart j' g _ e5 e6 (by rw [hg]; simp [ownsB])
    · rcases own' j' b h2 with ⟨e4, e5⟩ | ⟨e4, e5, e6⟩
      · subst e5; exact S.apart j g _ e2 e3 (by rw [hg]; simp [ownsB])
      · exact S.apart j j' b hj e3 e6

theorem aw_freeze {C : Cx} {c : Code} {st : St} {Q : Exit → St → Prop} (g g' k n : Nat) {len cap : Nat} {T0 : TypeId} {xs : List AV} (hgN : Nat.ble C.N g = true) (hgN' : Nat.ble C.N g' = true) (hgg : Nat.beq g g' = false) (hg : look st g = .box T0 (.imm (.agg xs))) (hk : look st k = .osl g len cap)
    (hw : ∀ x ∈ xs, x.width = n) (hcap : cap = xs.length) (hlen : len ≤ cap) (hmax : cap ≤ maxLen) (hf : freshB [g'] st = true)
    (h : AW C c ((g', .tok n (xs.take len)) :: (g, .dead) :: (k, .slg g' n (xs.take len)) :: st) Q) : AW C c st Q := by
  intro a w ⟨G, S⟩
  have := S.freeze (Nat.le_of_ble_eq_true hgN) (Nat.le_of_ble_eq_true hgN') (by rintro rfl; rw [Nat.beq_refl] at hgg; cases hgg) hg hk hw hcap hlen hmax (freshB_spec st hf)
  rw [upd_look] at this
  exact h a w this

end Go.Al
namespace Go.Al
open Go.RowKit

/-! ### Pieces; least and greatest -/

section
variable {C : Cx} {A : Nat → SV} {d : Nat} {ty : TypeId} {pos : String} {af : Array Edge} {gd : Option (Nat × Bool)} {x y z : Operand} {T T' : TypeId}

theorem run_bound {P : Program} {w : World} {k : IntKind} {i : Int} {j y : Nat} (hi : i = j) (h : j ≤ y) (c : BoundsCode) : (Instr.sliceBound (.int k i) y c).run P w = .ok j w := by
  have : 0 ≤ i ∧ i ≤ (y : Int) := by omega
  simp only [Instr.sliceBound, asIntOf, Sem.run_bind, Sem.run_pure, Result.andThen_ok, this, and_self, if_true]
  congr 1
  omega

/-- s[:h] -/
theorem s_slS_h {s : ByteArray} {k : IntKind} {i : Int} (h : Nat) (hN : Nat.blt d C.N = true) (hx : opV A x = some (.v (.string s))) (hy : opV A y = some (.v (.int k i))) (hT : C.P.underlying T = some .string) (hi : i = h) (hh : h ≤ s.size) :
    StepU C ⟨some d, .slice T x none (some y) none, ty, pos, af, gd⟩ (opR x ++ opR y) [] A [(d, .imm (.v (.string (s.extract 0 h))))] :=
  StepU.op2 rfl hN hx hy fun w I ρ h1 h2 => ⟨_, by
    simp only [execOp, Instr.sliceAt, Sem.run_bind, run_underlying' hT, Result.andThen_ok, rep_str h1, rep_int h2, Option.map_none, Option.map_some, Instr.slice, Option.isSome_none, Bool.false_eq_true, if_false, Sem.run_pure, Instr.sliceBounds, run_bound hi hh], rep_p w I rfl⟩

/-- s[l:] -/
theorem s_slS_l {s : ByteArray} {k : IntKind} {i : Int} (l : Nat) (hN : Nat.blt d C.N = true) (hx : opV A x = some (.v (.string s))) (hy : opV A y = some (.v (.int k i))) (hT : C.P.underlying T = some .string) (hi : i = l) (hh : l ≤ s.size) :
    StepU C ⟨some d, .slice T x (some y) none none, ty, pos, af, gd⟩ (opR x ++ opR y) [] A [(d, .imm (.v (.string (s.extract l s.size))))] :=
  StepU.op2 rfl hN hx hy fun w I ρ h1 h2 => ⟨_, by
    simp only [execOp, Instr.sliceAt, Sem.run_bind, run_underlying' hT, Result.andThen_ok, rep_str h1, rep_int h2, Option.map_none, Option.map_some, Instr.slice, Option.isSome_none, Bool.false_eq_true, if_false, Sem.run_pure, Instr.sliceBounds, run_bound hi hh], rep_p w I rfl⟩

/-- s[l:h] -/
theorem s_slS_lh {s : ByteArray} {k k' : IntKind} {i j : Int} (l h : Nat) (hN : Nat.blt d C.N = true) (hx : opV A x = some (.v (.string s))) (hy : opV A y = some (.v (.int k i))) (hz : opV A z = some (.v (.int k' j))) (hT : C.P.underlying T = some .string) (hi : i = l) (hj : j = h) (hl : l ≤ h) (hh : h ≤ s.size) :
    StepU C ⟨some d, .slice T x (some y) (some z) none, ty, pos, af, gd⟩ (opR x ++ (opR y ++ opR z)) [] A [(d, .imm (.v (.string (s.extract l h))))] := by
  refine StepU.value rfl hN fun A' G a w hR S => ?_
  rw [← opV_congr (fun k hk => hR k (List.mem_append_left _ hk))] at hx
  rw [← opV_congr (fun k hk => hR k (List.mem_append_right _ (List.mem_append_left _ hk)))] at hy
  rw [← opV_congr (fun k hk => hR k (List.mem_append_right _ (List.mem_append_right _ hk)))] at hz
  refine ⟨_, ?_, valS_imm.2 (rep_p w G.I rfl)⟩
  simp only [execOp, Instr.sliceAt, Sem.run_bind, run_underlying' hT, Result.andThen_ok, rep_str (S.opV hx), rep_int (S.opV hy), rep_int (S.opV hz), Option.map_none, Option.map_some, Instr.slice, Option.isSome_none, Bool.false_eq_true, if_false, Sem.run_pure, Instr.sliceBounds, run_bound hj hh, run_bound hi hl]

theorem RepM.drop {w : World} {I : Nat → Nat → Prop} {n : Nat} : ∀ (k : Nat) {l : List AV} {b o : Nat}, RepM w I n l b o → RepM w I n (l.drop k) b (o + k * n)
  | 0, l, b, o, h => by simpa using h
  | k + 1, [], b, o, _ => by simp [RepM]
  | k + 1, x :: l, b, o, h => by
    simp only [RepM] at h
    have := RepM.drop k h.2
    simp only [List.drop_succ_cons]
    rw [show o + (k + 1) * n = o + n + k * n from by rw [Nat.add_mul]; omega]
    exact this
theorem RepM.take {w : World} {I : Nat → Nat → Prop} {n : Nat} : ∀ (k : Nat) {l : List AV} {b o : Nat}, RepM w I n l b o → RepM w I n (l.take k) b o
  | 0, l, b, o, _ => by simp [RepM]
  | k + 1, [], b, o, _ => by simp [RepM]
  | k + 1, x :: l, b, o, h => by
    simp only [RepM] at h
    simp only [List.take_succ_cons, RepM]
    exact ⟨h.1, RepM.take k h.2⟩

/-- l[lo:hi] of a slice that is read, as its values. -/
theorem run_sliceL {P : Program} {w : World} {I : Nat → Nat → Prop} {n : Nat} {l : List AV} {v : Value} {el : TypeId} {lo hi : Nat} (hv : Rep w I (.sl n l) v) (hT : P.underlying T = some (.slice el)) (hn : tySize P el = some n) (hl : lo ≤ hi) (hh : hi ≤ l.length)
    {ylo yhi : Option Value} (h1 : (match yhi with | some v => ∃ k i, v = .int k i ∧ i = (hi : Int) | none => hi = l.length)) (h2 : (match ylo with | some v => ∃ k i, v = .int k i ∧ i = (lo : Int) | none => lo = 0)) :
    ∃ u, (Instr.sliceAt T v ylo yhi none).run P w = .ok u w ∧ Rep w I (.sl n ((l.take hi).drop lo)) u := by
  have key : ∀ (a : Option Addr) (cap : Nat), hi ≤ cap → (Instr.sliceAt T (.slice a l.length cap) ylo yhi none).run P w = .ok (.slice (if cap = lo then a else a.map (·.add (lo * n))) (hi - lo) (cap - lo)) w := by
    intro a cap hc
    have e3 : (Instr.sliceBounds true l.length cap ylo yhi none).run P w = .ok (lo, hi, cap) w := by
      cases yhi with
      | none =>
        cases ylo with
        | none =>
          simp only [] at h1 h2
          subst h1; subst h2
          simp only [Instr.sliceBounds, Sem.run_bind, Sem.run_pure, Result.andThen_ok]
        | some v =>
          simp only [] at h1 h2
          subst h1
          obtain ⟨k, i, rfl, hi'⟩ := h2
          simp only [Instr.sliceBounds, Sem.run_bind, Sem.run_pure, Result.andThen_ok, Option.isSome_none, Bool.false_eq_true, if_false, if_true, run_bound hi' hl]
      | some u =>
        obtain ⟨k, i, rfl, hi'⟩ := h1
        cases ylo with
        | none =>
          simp only [] at h2
          subst h2
          simp only [Instr.sliceBounds, Sem.run_bind, Sem.run_pure, Result.andThen_ok, Option.isSome_none, Bool.false_eq_true, if_false, if_true, run_bound hi' hc]
        | some v =>
          obtain ⟨k', i', rfl, hi2⟩ := h2
          simp only [Instr.sliceBounds, Sem.run_bind, Sem.run_pure, Result.andThen_ok, Option.isSome_none, Bool.false_eq_true, if_false, if_true, run_bound hi' hc, run_bound hi2 hl]
    simp only [Instr.sliceAt, Sem.run_bind, run_underlying' hT, Result.andThen_ok, Instr.slice, e3, run_sizeOf hn, Sem.run_pure]
  rcases rep_sl hv with ⟨rfl, rfl⟩ | ⟨b, o, cap, rfl, k2, k3, k4⟩
  · have h0 : hi = 0 ∧ lo = 0 := by simp at hh; omega
    refine ⟨_, key none 0 (by omega), ?_⟩
    rw [h0.1, h0.2]
    refine ⟨[.slice none 0 0], ?_, rfl⟩
    simp only [RepC]
    exact ⟨_, rfl, .inl ⟨rfl, by simp⟩⟩
  · refine ⟨_, key (some ⟨b, o, none⟩) cap (by omega), ?_⟩
    have hlen : ((l.take hi).drop lo).length = hi - lo := by rw [List.length_drop, List.length_take]; omega
    refine ⟨[_], ?_, rfl⟩
    simp only [RepC]
    refine ⟨_, rfl, .inr ?_⟩
    by_cases hc : cap = lo
    · rw [if_pos hc]
      refine ⟨b, o, cap - lo, by rw [hlen], by rw [hlen]; omega, by omega, ?_⟩
      have : (l.take hi).drop lo = [] := List.eq_nil_of_length_eq_zero (by rw [hlen]; omega)
      rw [this]; simp only [RepM]
    · rw [if_neg hc]
      exact ⟨b, o + lo * n, cap - lo, by rw [hlen, Option.map_some, addr_add], by rw [hlen]; omega, by omega, RepM.drop lo (RepM.take hi k4)⟩

theorem s_slL_h {el : TypeId} {n : Nat} {l : List AV} {k : IntKind} {i : Int} (h : Nat) (hN : Nat.blt d C.N = true) (hx : opV A x = some (.sl n l)) (hy : opV A y = some (.v (.int k i))) (hT : C.P.underlying T = some (.slice el)) (hn : tySize C.P el = some n) (hi : i = h) (hh : h ≤ l.length) :
    StepU C ⟨some d, .slice T x none (some y) none, ty, pos, af, gd⟩ (opR x ++ opR y) [] A [(d, .imm (.sl n ((l.take h).drop 0)))] :=
  StepU.op2 rfl hN hx hy fun w I ρ h1 h2 => by
    obtain ⟨u, k1, k2⟩ := run_sliceL (ylo := none) (yhi := some (ρ y)) (lo := 0) h1 hT hn (Nat.zero_le _) hh ⟨k, i, rep_int h2, hi⟩ rfl
    exact ⟨u, by simp only [execOp, Option.map_none, Option.map_some, Sem.run_bind, k1, Result.andThen_ok, Sem.run_pure], k2⟩
theorem s_slL_l {el : TypeId} {n : Nat} {l : List AV} {k : IntKind} {i : Int} (h : Nat) (hN : Nat.blt d C.N = true) (hx : opV A x = some (.sl n l)) (hy : opV A y = some (.v (.int k i))) (hT : C.P.underlying T = some (.slice el)) (hn : tySize C.P el = some n) (hi : i = h) (hh : h ≤ l.length) :
    StepU C ⟨some d, .slice T x (some y) none none, ty, pos, af, gd⟩ (opR x ++ opR y) [] A [(d, .imm (.sl n ((l.take l.length).drop h)))] :=
  StepU.op2 rfl hN hx hy fun w I ρ h1 h2 => by
    obtain ⟨u, k1, k2⟩ := run_sliceL (ylo := some (ρ y)) (yhi := none) (hi := l.length) h1 hT hn hh (Nat.le_refl _) rfl ⟨k, i, rep_int h2, hi⟩
    exact ⟨u, by simp only [execOp, Option.map_none, Option.map_some, Sem.run_bind, k1, Result.andThen_ok, Sem.run_pure], k2⟩

theorem s_max {k : IntKind} {a b : Int} (hN : Nat.blt d C.N = true) (hx : opV A x = some (.v (.int k a))) (hy : opV A y = some (.v (.int k b))) {ts : Array TypeId} :
    StepU C ⟨some d, .call { callee := .builtin .max, args := #[x, y], argTypes := ts }, ty, pos, af, gd⟩ (opR x ++ opR y) [] A [(d, .imm (.v (.int k (if b > a then b else a))))] :=
  StepU.op2 rfl hN hx hy fun w I ρ h1 h2 => ⟨_, by
    simp [execOp, resolve, invoke, builtin, Builtin.max_, Builtin.max2, rep_int h1, rep_int h2], rep_p w I rfl⟩
theorem s_min {k : IntKind} {a b : Int} (hN : Nat.blt d C.N = true) (hx : opV A x = some (.v (.int k a))) (hy : opV A y = some (.v (.int k b))) {ts : Array TypeId} :
    StepU C ⟨some d, .call { callee := .builtin .min, args := #[x, y], argTypes := ts }, ty, pos, af, gd⟩ (opR x ++ opR y) [] A [(d, .imm (.v (.int k (if b < a then b else a))))] :=
  StepU.op2 rfl hN hx hy fun w I ρ h1 h2 => ⟨_, by
    simp [execOp, resolve, invoke, builtin, Builtin.min_, Builtin.min2, rep_int h1, rep_int h2], rep_p w I rfl⟩

end
end Go.Al
namespace Go.Al
open Go.RowKit

section
variable {C : Cx} {A : Nat → SV} {d : Nat} {ty : TypeId} {pos : String} {af : Array Edge} {gd : Option (Nat × Bool)} {x y z : Operand} {T T' : TypeId}

theorem s_mv_osl {g a b : Nat} (hN : Nat.blt d C.N = true) (h : opS A x = .osl g a b) : StepU C ⟨some d, .move x, ty, pos, af, gd⟩ (opR x) [] A [(d, .osl g a b)] := s_copy (.inl rfl) hN h rfl
theorem s_as_osl {g a b : Nat} (hN : Nat.blt d C.N = true) (h : opS A x = .osl g a b) : StepU C ⟨some d, .assign x, ty, pos, af, gd⟩ (opR x) [] A [(d, .osl g a b)] := s_copy (.inr rfl) hN h rfl

theorem si_h {s : ByteArray} {k : IntKind} {i : Int} (hN : Nat.blt d C.N = true) (hx : opV A x = some (.v (.string s))) (hy : opV A y = some (.v (.int k i))) (hT : C.P.underlying T = some .string) (h : 0 ≤ i ∧ i ≤ s.size) :
    StepU C ⟨some d, .slice T x none (some y) none, ty, pos, af, gd⟩ (opR x ++ opR y) [] A [(d, .imm (.v (.string (s.extract 0 i.toNat))))] :=
  s_slS_h i.toNat hN hx hy hT (by omega) (by omega)
theorem si_l {s : ByteArray} {k : IntKind} {i : Int} (hN : Nat.blt d C.N = true) (hx : opV A x = some (.v (.string s))) (hy : opV A y = some (.v (.int k i))) (hT : C.P.underlying T = some .string) (h : 0 ≤ i ∧ i ≤ s.size) :
    StepU C ⟨some d, .slice T x (some y) none none, ty, pos, af, gd⟩ (opR x ++ opR y) [] A [(d, .imm (.v (.string (s.extract i.toNat s.size))))] :=
  s_slS_l i.toNat hN hx hy hT (by omega) (by omega)
theorem si_lh {s : ByteArray} {k k' : IntKind} {i j : Int} (hN : Nat.blt d C.N = true) (hx : opV A x = some (.v (.string s))) (hy : opV A y = some (.v (.int k i))) (hz : opV A z = some (.v (.int k' j))) (hT : C.P.underlying T = some .string) (h : 0 ≤ i ∧ i ≤ j ∧ j ≤ s.size) :
    StepU C ⟨some d, .slice T x (some y) (some z) none, ty, pos, af, gd⟩ (opR x ++ (opR y ++ opR z)) [] A [(d, .imm (.v (.string (s.extract i.toNat j.toNat))))] :=
  s_slS_lh i.toNat j.toNat hN hx hy hz hT (by omega) (by omega) (by omega) (by omega)
end

theorem byteV_ofInt {n : Int} (h : 0 ≤ n ∧ n < 256) : AV.v (byteV (UInt8.ofNat n.toNat)) = .v (.int .u8 n) := by
  have e : ((UInt8.ofNat n.toNat).toNat : Int) = n := by
    rw [UInt8.toNat_ofNat']; omega
  simp only [byteV, e]

theorem bytesL_snoc {l : List UInt8} {n : Int} (h : 0 ≤ n ∧ n < 256) : bytesL l ++ [.v (.int .u8 n)] = bytesL (l ++ [UInt8.ofNat n.toNat]) := by
  simp only [bytesL, List.map_append, List.map_cons, List.map_nil, byteV_ofInt h]

end Go.Al
namespace Go.Al
theorem toList_loop (s : ByteArray) : ∀ (k i : Nat) (r : List UInt8), s.size - i = k → ByteArray.toList.loop s i r = r.reverse ++ s.data.toList.drop i
  | 0, i, r, h => by
    rw [ByteArray.toList.loop, if_neg (by omega)]
    rw [List.drop_eq_nil_of_le (by have : s.data.toList.length = s.size := by simp
                                   omega)]
    simp
  | k + 1, i, r, h => by
    have hi : i < s.size := by omega
    have hi' : i < s.data.toList.length := by simpa using hi
    rw [ByteArray.toList.loop, if_pos hi, toList_loop s k (i + 1) _ (by omega), List.drop_eq_getElem_cons hi']
    have e : s.get! i = s.data.toList[i] := by
      have h2 : i < s.data.size := hi
      show s.data[i]! = s.data.toList[i]
      rw [Array.getElem_toList]
      exact getElem!_pos s.data i h2
    simp [e]
theorem strList (s : ByteArray) : s.toList = s.data.toList := by
  rw [ByteArray.toList, toList_loop s _ 0 [] rfl]; simp
theorem str_ext {s t : ByteArray} (h : s.data.toList = t.data.toList) : s = t := by
  cases s; cases t; congr 1; exact Array.toList_inj.1 h
theorem str_beq (s t : ByteArray) : (s.toList == t.toList) = decide (s = t) := by
  rw [strList, strList]
  by_cases h : s = t
  · subst h; simp
  · simp only [h, decide_false]
    exact beq_eq_false_iff_ne.2 fun e => h (str_ext e)
end Go.Al
namespace Go.Al
open Go.RowKit

abbrev iv (n : Int) : AV := .v (.int .i64 n)
abbrev uv (n : Int) : AV := .v (.int .u64 n)
abbrev rv (n : Int) : AV := .v (.int .i32 n)
abbrev cv (n : Int) : AV := .v (.int .u8 n)
abbrev bv (b : Bool) : AV := .v (.bool b)
abbrev sv (s : ByteArray) : AV := .v (.string s)
def bAt (s : ByteArray) (i : Int) : Int := (s.data.toList.getD i.toNat 0).toNat
def ofI (n : Int) : UInt8 := UInt8.ofNat n.toNat

section
variable {C : Cx} {A : Nat → SV} {d : Nat} {ty : TypeId} {pos : String} {af : Array Edge} {gd : Option (Nat × Bool)} {x y z : Operand} {T T' : TypeId}

theorem si_ix {s : ByteArray} {i : Int} {k : IntKind} (hN : Nat.blt d C.N = true) (hx : opV A x = some (.v (.string s))) (hy : opV A y = some (.v (.int k i))) (hT : C.P.underlying T = some .string) (h : 0 ≤ i ∧ i < s.size) :
    StepU C ⟨some d, .index T x y, ty, pos, af, gd⟩ (opR x ++ opR y) [] A [(d, .imm (.v (.int .u8 (bAt s i))))] := s_ixS hN hx hy hT h.1 h.2

theorem s_cvBS' {el : TypeId} {l : List UInt8} {ys : List AV} (hl : ys = bytesL l) (hN : Nat.blt d C.N = true) (hx : opV A x = some (.sl 1 ys)) (hT : C.P.underlying T = some (.slice el)) (hT' : C.P.underlying T' = some .string) (he : C.P.underlying el = some (.int .u8)) :
    StepU C ⟨some d, .convert T T' x, ty, pos, af, gd⟩ (opR x) [] A [(d, .imm (.v (.string (strOf l))))] := by subst hl; exact s_cvBS hN hx hT hT' he
end

theorem bAt_lt (s : ByteArray) (i : Int) : 0 ≤ bAt s i ∧ bAt s i < 256 := by
  unfold bAt
  have := UInt8.toNat_lt (s.data.toList.getD i.toNat 0)
  omega
theorem wrap8_lt (n : Int) : 0 ≤ IntKind.u8.wrap n ∧ IntKind.u8.wrap n < 256 := by
  simp only [IntKind.wrap, IntKind.bits, IntKind.signed, Bool.false_and, Bool.false_eq_true, if_false]
  omega
theorem bl_nil : ([] : List AV) = bytesL [] := rfl
theorem bl_cons {n : Int} {ys : List AV} {l : List UInt8} (h : ys = bytesL l) : AV.v (.int .u8 (IntKind.u8.wrap n)) :: ys = bytesL (ofI (IntKind.u8.wrap n) :: l) := by
  rw [h, ← byteV_ofInt (wrap8_lt n)]; rfl
theorem ofI_toNat {n : Int} (h : 0 ≤ n ∧ n < 256) : ((ofI n).toNat : Int) = n := by
  unfold ofI; rw [UInt8.toNat_ofNat']; omega

end Go.Al
namespace Go.Al
open Go.RowKit

theorem upd_dead (A : Nat → SV) (g : Nat) (j : Nat) : upd A [(g, .dead)] j = if j = g then .dead else A j := upd_one A g .dead j

/-- What was owned is shared from now on, and never written again. -/
theorem SimG.giveUp {C : Cx} {A : Nat → SV} {G : Gh} {a : Act} {w : World} (S : SimG C A G a w) {g : Nat} {T0 : TypeId} {X : SV} {cs : Array Value} {fr : Nat × Nat} (fr' : Nat × Nat)
    (hg : A g = .box T0 X) (hb : w.heap[G.blk g]? = some (.cells cs T0 fr)) :
    SimG C (upd A [(g, .dead)]) { G with I := fun b o => G.I b o ∨ (b = G.blk g ∧ o < cs.size) } a (setBlk w (G.blk g) (.cells cs T0 fr')) ∧
    Le w G.I (setBlk w (G.blk g) (.cells cs T0 fr')) (fun b o => G.I b o ∨ (b = G.blk g ∧ o < cs.size)) ∧
    CellsAt (setBlk w (G.blk g) (.cells cs T0 fr')) (fun b o => G.I b o ∨ (b = G.blk g ∧ o < cs.size)) (G.blk g) 0 cs.toList := by
  have hbx := S.holds g
  rw [hg] at hbx
  simp only [Holds] at hbx
  obtain ⟨how, ⟨cs0, fr0, hb0, hb3, huf⟩, hni⟩ := hbx
  have hlt : G.blk g < w.heap.size := how.2
  let I' : Nat → Nat → Prop := fun b o => G.I b o ∨ (b = G.blk g ∧ o < cs.size)
  let G' : Gh := { G with I := I' }
  let w' := setBlk w (G.blk g) (.cells cs T0 fr')
  have hle : Le w G.I w' I' := fun b o h => ⟨.inl h, by
    have : b ≠ G.blk g := by rintro rfl; exact hni o h
    exact World.cell?_of_block (w := w) (setBlk_ne this)⟩
  have hcells : CellsAt w' I' (G.blk g) 0 cs.toList := by
    intro j hj
    rw [Array.length_toList] at hj
    refine ⟨?_, .inr ⟨rfl, by omega⟩⟩
    rw [cell_at (setBlk_get hlt), Nat.zero_add]
    rw [Array.getElem?_eq_getElem hj]
    simp
  have hrel : GRel [] G G' := fun j hj => ⟨rfl, .inl ⟨rfl, rfl⟩⟩
  have conv : ∀ j b, ownsB G' j b (upd A [(g, .dead)] j) → j ≠ g ∧ ownsB G j b (A j) := by
    intro j b h
    rw [upd_dead] at h
    split at h
    · simp only [ownsB] at h
    · rename_i hj
      refine ⟨hj, ?_⟩
      revert h
      generalize A j = y
      cases y <;> simp only [ownsB, G'] <;> exact id
  refine ⟨⟨S.os, S.tape, S.output, by show C.w0.heap.size ≤ (setBlk w _ _).heap.size; rw [setBlk_size]; exact S.size, fun j h1 h2 => ?_, fun b o h => .inl (S.sub b o h), fun b o h => ?_, fun b o h => ?_, S.nts, S.dfs, fun j => ?_, fun j j' b hj h1 h2 => ?_⟩, hle, hcells⟩
  · have : j ≠ G.blk g := by
      rintro rfl
      rcases how.1 with h | h
      · omega
      · exact h2 h
    show (setBlk w _ _).heap[j]? = _
    rw [setBlk_ne this]; exact S.block j h1 h2
  · rcases h with h | ⟨rfl, _⟩
    · exact S.new b o h
    · exact .inr how.1
  · show b < (setBlk w _ _).heap.size
    rw [setBlk_size]
    rcases h with h | ⟨rfl, _⟩
    · exact S.val b o h
    · exact hlt
  · rw [upd_dead]
    split
    · simp only [Holds]
    · rename_i hj
      refine (S.holds j).keep hle hrel (noG_nil.1 _) (by show w.heap.size ≤ (setBlk w _ _).heap.size; rw [setBlk_size]; exact Nat.le_refl _) (fun h => ⟨h, rfl⟩) (fun _ => ⟨rfl, rfl, rfl⟩) (fun b hbk => ?_)
      have hne : b ≠ G.blk g := by rintro rfl; exact S.apart j g _ hj hbk (by rw [hg]; simp [ownsB])
      refine ⟨setBlk_ne hne, fun o hi => ?_⟩
      rcases hi with hi | ⟨rfl, _⟩
      · exact hi
      · exact absurd rfl hne
  · obtain ⟨e1, e2⟩ := conv j b h1
    obtain ⟨e3, e4⟩ := conv j' b h2
    exact S.apart j j' b hj e2 e4

end Go.Al
namespace Go.Al
open Go.RowKit
section
variable {C : Cx} {A : Nat → SV} {d : Nat} {ty : TypeId} {pos : String} {af : Array Edge} {gd : Option (Nat × Bool)} {x y z : Operand} {T T' : TypeId}

/-- A literal row that is one's own. -/
theorem s_buildOwn (g : Nat) {el : TypeId} {len n : Nat} {X0 : AV} {parts : Array (Nat × Operand)} {xs : List Operand} {ys : List AV} (hgN : Nat.ble C.N g = true) (hN : Nat.blt d C.N = true) (hT : C.P.underlying T = some (.slice el)) (hn : tySize C.P el = some n) (hz : IsZero C.P el X0) (hX : Nat.beq X0.width n = true)
    (h0 : Nat.blt 0 n = true) (hp : litOps 0 parts.toList = some xs) (hl : Nat.beq xs.length len = true) (hl0 : Nat.blt 0 len = true) (hb : Nat.ble (len * n) 16777216 = true) (hy : opVs A xs = some ys) (hw : ys.all (fun y => Nat.beq y.width n) = true) :
    StepU C ⟨some d, .buildSlice T len parts, ty, pos, af, gd⟩ (opRs xs) [g] A [(g, .box el (.imm (.agg ys))), (d, .osl g len len)] := by
  intro A' a w hR hF ⟨G, S⟩
  rw [← opVs_congr hR] at hy
  have hN' : d < C.N := by simpa [Nat.blt_eq] using hN
  have hgd : g ≠ d := by have := Nat.le_of_ble_eq_true hgN; omega
  obtain ⟨z, hz1, hz2⟩ := hz
  have hzl : z.cells.size = n := by
    have := RepC.len X0 _ (flatC_spec (w := w) (I := G.I) X0 _ hz2)
    rw [← Array.length_toList, this]; exact Nat.eq_of_beq_eq_true hX
  have hlen := Nat.eq_of_beq_eq_true hl
  have hws : ∀ y ∈ ys, y.width = n := fun y hy' => Nat.eq_of_beq_eq_true (List.all_eq_true.1 hw y hy')
  obtain ⟨cs, k1, k2⟩ := run_buildSlice (ρ := a.eval) hT hn hz1 hzl (by simpa [Nat.blt_eq] using h0) hp hlen (by simpa [Nat.blt_eq] using hl0) (Nat.le_of_ble_eq_true hb) (S.opVs hy) hws
  have hcont : RepS w G (.imm (.agg ys)) cs.toList := by
    simp only [RepS, RepC]
    exact (repCs_E (n := n) hws).2 k2
  have hb1 := S.allocBox (T := el) (cs := cs) hgd hN' hcont (by simp only [noG]) (fun k hk => hF k (by simpa only [has] using hk))
  obtain ⟨G1, S1⟩ := hb1
  have hgA : G1.blk g = w.heap.size := by
    have h1 := S1.holds d
    have e : upd A' [(g, .box el (.imm (.agg ys))), (d, .ptr g 0)] d = .ptr g 0 := by simp only [upd]; rw [nat_beq_false hgd]; simp
    rw [e] at h1
    obtain ⟨_, c, h2, h3⟩ := h1
    simp only [RepS] at h2
    rw [h2] at h3
    have e2 : (a.put (some d) (.pointer (some ⟨w.heap.size, 0, none⟩))).tmps.getD d Go.undef = .pointer (some ⟨w.heap.size, 0, none⟩) := by simp [Act.put, S.nts, hN']
    rw [e2] at h3
    simp only [mkS, SV.isAgg, Bool.false_eq_true, if_false, List.headD_cons, Value.pointer.injEq, Option.some.injEq, Addr.mk.injEq] at h3
    exact h3.1.symm
  have S2 := S1.put hN' (x := .osl g len len) (v := .slice (some ⟨w.heap.size, 0, none⟩) len len) ⟨[.slice (some ⟨G1.blk g, 0, none⟩) len len], by simp only [RepS], by simp only [mkS, SV.isAgg, hgA]; rfl⟩
  rw [Act.put_put] at S2
  have eu : upd (upd A' [(g, .box el (.imm (.agg ys))), (d, .ptr g 0)]) [(d, .osl g len len)] = upd A' [(g, .box el (.imm (.agg ys))), (d, .osl g len len)] := by
    funext k
    simp only [upd]
    by_cases hkd : d = k
    · subst hkd; rw [nat_beq_false hgd]; simp
    · rw [nat_beq_false hkd]; simp
  rw [eu] at S2
  unfold Oper.wp
  simp only [execOp, Sem.run_bind, k1, Result.andThen_ok, Sem.run_pure, Oper.upon_value]
  exact ⟨G1, S2⟩

theorem freeze_setBlk {w : World} {b k : Nat} {cs : Array Value} {T : TypeId} {fr : Nat × Nat} (h : w.heap[b]? = some (.cells cs T fr)) :
    w.freeze ⟨b, k, none⟩ 1 = setBlk w b (.cells cs T (if fr.1 == fr.2 then (k, k + 1) else (min fr.1 k, max fr.2 (k + 1)))) := by
  obtain ⟨hb1, hb2⟩ := Array.getElem?_eq_some_iff.1 h
  unfold World.freeze setBlk
  rw [if_neg (by omega)]
  congr 1
  apply Array.ext
  · simp
  · intro i h1 h2
    by_cases hi : b = i
    · subst hi
      simp [Array.getElem_modify, hb2]
    · have hi' : i < w.heap.size := by simpa using h2
      rw [Array.getElem_setIfInBounds_ne (hj := hi') (h := hi)]
      simp [Array.getElem_modify, hi]

/-- A conversion between types of rows of bytes: nobody writes to them any more. -/
theorem s_cvOwn {g len n : Nat} {el el' : TypeId} {xs : List AV} (hN : Nat.blt d C.N = true) (hgN : Nat.ble C.N g = true) (hx : opS A x = .osl g len len) (hg : A g = .box el (.imm (.agg xs))) (hT : C.P.underlying T = some (.slice el')) (he : C.P.underlying el' = some (.int .u8))
    (hlen : Nat.beq xs.length len = true) (hn : Nat.ble 1 n = true) (hw : xs.all (fun y => Nat.beq y.width n) = true) (hmax : len ≤ maxLen) :
    StepU C ⟨some d, .convert T T x, ty, pos, af, gd⟩ (g :: opR x) [] A [(g, .dead), (d, .imm (.sl n xs))] := by
  intro A' a w hR hF ⟨G, S⟩
  have hgA : A' g = .box el (.imm (.agg xs)) := (hR g List.mem_cons_self).trans hg
  rw [← opS_congr (fun k hk => hR k (List.mem_cons_of_mem _ hk))] at hx
  have hN' : d < C.N := by simpa [Nat.blt_eq] using hN
  have hgd : g ≠ d := by have := Nat.le_of_ble_eq_true hgN; omega
  have hlen' := Nat.eq_of_beq_eq_true hlen
  have hws : ∀ y ∈ xs, y.width = n := fun y hy' => Nat.eq_of_beq_eq_true (List.all_eq_true.1 hw y hy')
  have hbx := S.holds g
  rw [hgA] at hbx
  simp only [Holds] at hbx
  obtain ⟨how, ⟨cs, fr, hb2, hb3, hb4⟩, hni⟩ := hbx
  simp only [RepS, RepC] at hb3
  have hE := (repCs_E hws).1 hb3
  have hev : a.eval x = .slice (some ⟨G.blk g, 0, none⟩) len len := by
    obtain ⟨c, hc1, hc2⟩ := S.opS hx (by simp) (by simp)
    simp only [RepS] at hc1
    rw [hc2, hc1]; rfl
  obtain ⟨S1, hle, hcell⟩ := S.giveUp (if fr.1 == fr.2 then (cs.size, cs.size + 1) else (min fr.1 cs.size, max fr.2 (cs.size + 1))) hgA hb2
  have hM := (hE.mono hle).mem hcell
  have S2 := S1.put hN' (x := .imm (.sl n xs)) (v := .slice (some ⟨G.blk g, 0, none⟩) len len) (valS_imm.2 ⟨[_], by
    simp only [RepC]
    exact ⟨_, rfl, .inr ⟨G.blk g, 0, len, by rw [hlen'], by omega, hmax, hM⟩⟩, rfl⟩)
  have eu : upd (upd A' [(g, .dead)]) [(d, .imm (.sl n xs))] = upd A' [(g, .dead), (d, .imm (.sl n xs))] := by
    funext k
    simp only [upd]
    by_cases hkd : d = k
    · subst hkd; rw [nat_beq_false hgd]; simp
    · rw [nat_beq_false hkd]; simp
  rw [eu] at S2
  unfold Oper.wp
  have hsh : w.shape? (G.blk g) = some (el, cs.size) := by unfold World.shape?; rw [hb2]
  have hms : (markStringish ⟨G.blk g, 0, none⟩).run C.P w = .ok () (setBlk w (G.blk g) (.cells cs el (if fr.1 == fr.2 then (cs.size, cs.size + 1) else (min fr.1 cs.size, max fr.2 (cs.size + 1))))) := by
    simp only [markStringish, Sem.run_bind, run_shape, Result.andThen_ok, hsh, run_freeze, freeze_setBlk hb2]
  have hrun : (convert T T (a.eval x)).run C.P w = .ok (.slice (some ⟨G.blk g, 0, none⟩) len len) (setBlk w (G.blk g) (.cells cs el (if fr.1 == fr.2 then (cs.size, cs.size + 1) else (min fr.1 cs.size, max fr.2 (cs.size + 1))))) := by
    have hTT : (T == T) = true := by simp
    simp only [convert, Sem.run_bind, run_underlying' hT, run_underlying' he, Result.andThen_ok, hev, hTT, hms, Sem.run_pure]
  simp only [execOp, Sem.run_bind, hrun, Result.andThen_ok, Sem.run_pure, Oper.upon_value]
  exact ⟨_, S2⟩
end
end Go.Al
