/- Texts that the proofs of this claim share, part 6: the abstract logic, plain Lean on values and batches, and walks. No condition but those typed in each lemma. -/
import Derived.Sort.OwnSorted
import Derived.Maps.RangeRun
import Derived.Shelf.Sort.Plain
import Derived.Shelf.Slices.In.SortNone
import Derived.Scope
import Derived.Test.YtchikjokpmdipaaDoorP5
set_option linter.unusedSimpArgs false
set_option linter.unusedVariables false
namespace Go.Al
open Go.RowKit

/-! ### A row of texts of one's own, which the library's sort turns -/

/-- So many things of no width. -/
def units (n : Nat) : List AV := List.replicate n (.agg [])
@[simp] theorem units_length (n : Nat) : (units n).length = n := List.length_replicate

theorem repM_units {w : World} {I : Nat → Nat → Prop} : ∀ (n b o : Nat), RepM w I 0 (units n) b o
  | 0, _, _ => by simp only [units, List.replicate_zero, RepM]
  | n + 1, b, o => by
    have := repM_units (w := w) (I := I) n b (o + 0)
    simp only [units] at this
    simp only [units, List.replicate_succ, RepM]
    exact ⟨⟨[], rfl, by simp only [RepC, RepCs], fun j hj => by simp at hj⟩, this⟩

theorem repS_units {w : World} {G : Gh} {g n b cap : Nat} (h : n = G.len g) (hc : G.cur g = .slice (some ⟨b, 0, none⟩) n cap) (h1 : n ≤ cap) (h2 : cap ≤ maxLen) : RepS w G (.slg g 0 (units n)) [.slice (some ⟨b, 0, none⟩) n cap] := by
  simp only [RepS, RepC]
  exact ⟨_, rfl, ⟨_, rfl, .inr ⟨b, 0, cap, by simp, by simpa using h1, h2, repM_units n b 0⟩⟩, by simp [h], fun _ => hc.symm⟩

/-- Whose block a row of texts is in. -/
def inRow (G : Gh) (g k : Nat) : Prop := ∃ a n c, G.cur g = .slice (some a) n c ∧ a.block = k

theorem SimG.turnR {C : Cx} {A : Nat → SV} {G : Gh} {a : Act} {w w' : World} (S : SimG C A G a w) {g : Nat} {l l' : List ByteArray} {v' : Value} (hA : A g = .row l)
    (hos : w'.os = w.os) (htape : w'.tape = w.tape) (hout : w'.output = w.output) (hsz : w.heap.size ≤ w'.heap.size) (hblk : ∀ k, k < w.heap.size → ¬ inRow G g k → w'.heap[k]? = w.heap[k]?)
    (hlt : l.length < l'.length) (hrow : RowS C.w0 C.E G.I w' v' l') (hnew : ∀ ad n c, v' = .slice (some ad) n c → inRow G g ad.block ∨ w.heap.size ≤ ad.block) :
    SimG C (upd A [(g, .row l')]) { G with cur := fun j => if j = g then v' else G.cur j, len := fun j => if j = g then l'.length else G.len j } a w' := by
  let G' : Gh := { G with cur := fun j => if j = g then v' else G.cur j, len := fun j => if j = g then l'.length else G.len j }
  have hh := S.holds g
  rw [hA] at hh
  simp only [Holds] at hh
  obtain ⟨hlen, hr⟩ := hh
  have hown : ∀ k, inRow G g k → ownsB G g k (A g) := fun k hk => by rw [hA]; simp only [ownsB]; exact hk
  have hni : ∀ k o, inRow G g k → ¬ G.I k o := by
    rintro k o ⟨ad, n, c, e1, rfl⟩
    rcases hr with ⟨e, _⟩ | ⟨b, cap, e, _, _, _, _, h8⟩
    · rw [e] at e1; cases e1
    · rw [e] at e1; cases e1; exact h8 o
  have hle : Le w G.I w' G'.I := fun b o h => ⟨h, kp_of_block (hblk b (S.val b o h) fun hk => hni b o hk h)⟩
  have hg : GRel [] G G' := fun j _ => by
    refine ⟨rfl, ?_⟩
    by_cases hj : j = g
    · right; simp only [G', hj, if_true]; omega
    · left; simp only [G', if_neg hj]; exact ⟨trivial, trivial⟩
  have conv : ∀ k b, ownsB G' k b (upd A [(g, .row l')] k) → (k = g ∧ (inRow G g b ∨ w.heap.size ≤ b)) ∨ (k ≠ g ∧ ownsB G k b (A k)) := by
    intro k b h
    rw [upd_one] at h
    split at h
    · rename_i hk
      simp only [ownsB, G', hk, if_true] at h
      obtain ⟨ad, n, c, e1, rfl⟩ := h
      exact .inl ⟨hk, hnew ad n c e1⟩
    · rename_i hk
      refine .inr ⟨hk, ?_⟩
      revert h
      generalize A k = y
      cases y <;> simp only [ownsB, G', if_neg hk] <;> exact id
  refine ⟨hos.trans S.os, htape.trans S.tape, hout.trans S.output, Nat.le_trans S.size hsz, fun k h1 h2 => ?_, S.sub.trans hle, fun j hj => (S.rel j hj).trans (hg j (by simp)), S.glob.mono hle, S.new, fun b o h => Nat.lt_of_lt_of_le (S.val b o h) hsz, S.nts, S.dfs, fun k => ?_, ?_⟩
  · rw [hblk k (Nat.lt_of_lt_of_le h1 S.size) ?_]
    · exact S.block k h1 h2
    · rintro ⟨ad, n, c, e1, rfl⟩
      rcases hr with ⟨e, _⟩ | ⟨b, cap, e, _, _, h4, _⟩
      · rw [e] at e1; cases e1
      · rw [e] at e1; cases e1
        rcases h4.1 with h | h
        · simp only at h1; omega
        · exact h2 h
  · rw [upd_one]
    split
    · rename_i hk; subst hk
      simp only [Holds, G', if_true]
      exact ⟨trivial, hrow⟩
    · rename_i hk
      refine (S.holds k).keep hle hg (noG_nil.1 _) hsz (fun h => ⟨h, rfl⟩) (fun _ => ⟨rfl, by simp only [G', if_neg hk], by simp only [G', if_neg hk]⟩) (fun b hb => ⟨hblk b (ownsB_lt S hb) fun hin => S.apart k g b hk hb (hown b hin), fun _ h => h⟩)
  · intro k j b hkj h1 h2
    rcases conv k b h1 with ⟨e1, e2⟩ | ⟨e1, e2⟩ <;> rcases conv j b h2 with ⟨e3, e4⟩ | ⟨e3, e4⟩
    · exact hkj (e1.trans e3.symm)
    · rcases e2 with e2 | e2
      · exact S.apart j g b e3 e4 (hown b e2)
      · have := ownsB_lt S e4; omega
    · rcases e4 with e4 | e4
      · exact S.apart k g b e1 e2 (hown b e4)
      · have := ownsB_lt S e2; omega
    · exact S.apart k j b hkj e2 e4

theorem SimG.newrow {C : Cx} {A : Nat → SV} {G : Gh} {a : Act} {w : World} (S : SimG C A G a w) {g k : Nat} (hgN : C.N ≤ g) (hgK : g < C.K) (hk : A k = .imm (.v (.slice none 0 0))) (hf : ∀ j, noG [g] (A j) = true) :
    Sim C (upd A [(g, .row []), (k, .slg g 0 (units 0))]) a w := by
  let G' : Gh := { G with cur := fun j => if j = g then .slice none 0 0 else G.cur j, len := fun j => if j = g then 0 else G.len j }
  have hg : GRel [g] G G' := fun j hj => by
    have hjg : j ≠ g := by simpa using hj
    exact ⟨rfl, .inl ⟨by simp only [G', if_neg hjg], by simp only [G', if_neg hjg]⟩⟩
  have hle := Le.refl w G.I
  have hkN : k < C.N := by
    have := S.holds k
    rw [hk] at this
    have h1 := this.1
    rw [S.nts] at h1; exact h1
  have hkg : g ≠ k := by omega
  have hu : ∀ j, upd A [(g, .row []), (k, .slg g 0 (units 0))] j = if j = g then .row [] else if j = k then .slg g 0 (units 0) else A j := by
    intro j
    simp only [upd]
    by_cases h1 : j = g
    · subst h1; simp
    · rw [nat_beq_false (Ne.symm h1), if_neg h1]
      by_cases h2 : j = k
      · subst h2; simp
      · rw [nat_beq_false (Ne.symm h2), if_neg h2]; rfl
  have own' : ∀ j b, ownsB G' j b (upd A [(g, .row []), (k, .slg g 0 (units 0))] j) → j ≠ g ∧ ownsB G j b (A j) := by
    intro j b h
    rw [hu] at h
    split at h
    · rename_i hj
      simp only [ownsB, G', hj, if_true] at h
      obtain ⟨_, _, _, h1, _⟩ := h
      cases h1
    · rename_i hj
      refine ⟨hj, ?_⟩
      split at h
      · simp only [ownsB] at h
      · revert h
        generalize A j = y
        cases y <;> simp only [ownsB, G', if_neg hj] <;> exact id
  refine ⟨G', S.os, S.tape, S.output, S.size, S.block, S.sub.trans hle, fun j hj => (S.rel j hj).trans (hg j (by simp; omega)), S.glob, S.new, S.val, S.nts, S.dfs, fun j => ?_, fun j j' b hj h1 h2 => S.apart j j' b hj (own' j b h1).2 (own' j' b h2).2⟩
  rw [hu]
  split
  · rename_i hj; subst hj
    simp only [Holds, G', if_true]
    exact ⟨rfl, .inl ⟨rfl, rfl⟩⟩
  · rename_i hj
    split
    · rename_i hjk; subst hjk
      have hh := S.holds j
      rw [hk] at hh
      refine ⟨hh.1, ⟨[.slice none 0 0], ?_, ?_⟩⟩
      · simp only [RepS, RepC]
        exact ⟨_, rfl, ⟨_, rfl, .inl (by simpa [units] using nil_sl 0)⟩, by simp [units], fun _ => by simp only [G', if_true]⟩
      · exact rep_val (S.imm hk) rfl
    · exact (S.holds j).keep hle hg (hf j) (Nat.le_refl _) (fun h => ⟨h, rfl⟩) (fun _ => ⟨rfl, by simp only [G', if_neg hj], by simp only [G', if_neg hj]⟩) (fun b _ => ⟨rfl, fun _ h => h⟩)

theorem aw_newrow {C : Cx} {c : Code} {st : St} {Q : Exit → St → Prop} (g k : Nat) (hgN : Nat.ble C.N g = true) (hgK : Nat.blt g C.K = true) (hk : look st k = .imm (.v (.slice none 0 0))) (hf : freshB [g] st = true)
    (h : AW C c ((g, .row []) :: (k, .slg g 0 (units 0)) :: st) Q) : AW C c st Q := by
  intro a w ⟨G, S⟩
  have := S.newrow (Nat.le_of_ble_eq_true hgN) (by simpa [Nat.blt_eq] using hgK) hk (freshB_spec st hf)
  rw [upd_look] at this
  exact h a w this

theorem run_append_fit {P : Program} {w : World} {T T' ty el T1 : TypeId} {b len cap n : Nat} {cs : Array Value} {T0 : TypeId} {fr : Nat × Nat} {y : Value} {e : Value} (hT : P.underlying T = some (.slice el)) (hT' : P.underlying T' = some (.slice T1)) (hn : tySize P el = some 1)
    (hfit : len + 1 ≤ cap) (hb : w.heap[b]? = some (.cells cs T0 fr)) (hsz : cs.size = cap) (huf : unfrozen fr cs.size) (hp : plain e = true)
    (k2 : (Builtin.lenOf y).run P w = .ok 1 w) (k3 : (Builtin.firstCells 1 1 y).run P w = .ok #[e] w) :
    (Builtin.append_ #[T, T'] ty #[.slice (some ⟨b, 0, none⟩) len cap, y]).run P w = .ok (.slice (some ⟨b, 0, none⟩) (len + 1) cap) (setBlk w b (.cells (splice cs len [e]) T0 fr)) := by
  have e1 : (#[T, T'] : Array TypeId)[0]? = some T := rfl
  have e2 : (#[T, T'] : Array TypeId)[1]? = some T' := rfl
  have e3 : (#[Value.slice (some ⟨b, 0, none⟩) len cap, y] : Array Value)[0]? = some (Value.slice (some ⟨b, 0, none⟩) len cap) := rfl
  have e4 : (#[Value.slice (some ⟨b, 0, none⟩) len cap, y] : Array Value)[1]? = some y := rfl
  have hst := run_storeCells (P := P) (b := b) (o := len * 1) [e] 0 w cs hb huf (by simp; omega) (by simp [hp])
  simp only [Builtin.append_, e1, e2, e3, e4]
  simp only [Sem.run_bind, run_underlying' hT, run_underlying' hT', Result.andThen_ok, run_sizeOf hn, Sem.run_pure, Bool.false_eq_true, if_false, k2]
  simp only [hfit, if_true, Bool.not_false, Sem.run_bind, k3, Result.andThen_ok, addr_add, Nat.zero_add, Sem.run_pure]
  rw [hst]
  simp only [Result.andThen_ok, Nat.mul_one, Nat.add_zero]

theorem run_append_grow {P : Program} {w : World} {T T' ty el T1 : TypeId} {base : Option Addr} {len sCap by_ : Nat} {old : List Value} {y : Value} {e z : Value} {inf : TypeInfo} (hT : P.underlying T = some (.slice el)) (hT' : P.underlying T' = some (.slice T1)) (hn : tySize P el = some 1)
    (hz : tyZero P el = some z) (hzn : z.cells.size = 1) (hi : P.info? el = some inf) (hib : inf.bytes = by_) (hB : (2 * (len + 1) + 192) * by_ ≤ 281474976710656) (hL : len + 1 < 9223372036854775808) (hlt : sCap < len + 1) (hsl : sCap ≤ len + 1)
    (hol : old.length = len) (k2 : ∀ w0 : World, w0.heap = w.heap → (Builtin.lenOf y).run P w0 = .ok 1 w0 ∧ (Builtin.firstCells 1 1 y).run P w0 = .ok #[e] w0)
    (hold : ∀ w0 : World, w0.heap = w.heap → (Builtin.firstCells 1 len (.slice base len sCap)).run P w0 = .ok old.toArray w0) :
    ∃ newCap cs n, len + 1 ≤ newCap ∧ newCap ≤ maxLen ∧ cs.size = newCap ∧ cs.toList.take (len + 1) = old ++ [e] ∧
      (Builtin.append_ #[T, T'] ty #[.slice base len sCap, y]).run P w = .ok (.slice (some ⟨w.heap.size, 0, none⟩) (len + 1) newCap) (World.alloc { w with drawn := n } (.cells cs el)) := by
  obtain ⟨newCap, hnew⟩ : ∃ k, k = Question.cut (.appendCap (len + 1) sCap el) (w.tape w.drawn (.appendCap (len + 1) sCap el)) := ⟨_, rfl⟩
  have hnc : len + 1 ≤ newCap ∧ newCap ≤ maxLen := by
    have h63 : (0 : Nat) < 2 ^ 63 - (len + 1) := by omega
    rw [hnew]
    constructor
    · simp only [Question.cut]; omega
    · simp only [Question.cut]
      have := Nat.mod_lt (w.tape w.drawn (.appendCap (len + 1) sCap el)) h63
      unfold maxLen
      omega
  let cs : Array Value := old.toArray ++ #[e] ++ Builtin.zeroCells z.cells (newCap - (len + 1))
  have hcs : cs.toList.take (len + 1) = old ++ [e] := by
    have : cs.toList = (old ++ [e]) ++ (Builtin.zeroCells z.cells (newCap - (len + 1))).toList := by simp [cs]
    rw [this, List.take_append_of_le_length (by simp [hol]), List.take_of_length_le (by simp [hol])]
  have hcsz : cs.size = newCap := by
    have hzc : (Builtin.zeroCells z.cells (newCap - (len + 1))).size = (newCap - (len + 1)) := by simp [Builtin.zeroCells, hzn]
    simp only [cs, Array.size_append, hzc]
    simp [hol]; omega
  refine ⟨newCap, cs, w.drawn + 1, hnc.1, hnc.2, hcsz, hcs, ?_⟩
  have hbd := nextslicecap_bound (need := len + 1) (old := sCap) hsl
  have hnb : ¬ (Builtin.nextslicecap (len + 1) sCap * inf.bytes > 2 ^ 48) := by
    rw [hib]
    have := Nat.mul_le_mul_right by_ hbd
    have : (2 : Nat) ^ 48 = 281474976710656 := rfl
    omega
  have hi1 : ¬ (((len + 1 : Nat) : Int) > IntKind.i64.max) := by
    have : IntKind.i64.max = 9223372036854775807 := by decide
    rw [this]; omega
  have hfc1 := hold ⟨w.heap, w.tape, w.drawn + 1, w.os, w.output⟩ rfl
  have hfc2 : (Builtin.firstCells 1 1 y).run P ⟨w.heap, w.tape, w.drawn + 1, w.os, w.output⟩ = .ok #[e] ⟨w.heap, w.tape, w.drawn + 1, w.os, w.output⟩ := (k2 ⟨w.heap, w.tape, w.drawn + 1, w.os, w.output⟩ rfl).2
  have hnf : (Question.appendCap (len + 1) sCap el).forced = false := rfl
  have e1 : (#[T, T'] : Array TypeId)[0]? = some T := rfl
  have e2 : (#[T, T'] : Array TypeId)[1]? = some T' := rfl
  have e3 : (#[Value.slice base len sCap, y] : Array Value)[0]? = some (Value.slice base len sCap) := rfl
  have e4 : (#[Value.slice base len sCap, y] : Array Value)[1]? = some y := rfl
  have hne : ¬ (len + 1 ≤ sCap) := by omega
  have k2' := (k2 w rfl).1
  simp only [Builtin.append_, e1, e2, e3, e4]
  simp only [Sem.run_bind, run_underlying' hT, run_underlying' hT', Result.andThen_ok, run_sizeOf hn, Sem.run_pure, Bool.false_eq_true, if_false, k2', hne, run_typeInfo' hi, Sem.run_ite, false_or]
  simp only [hi1, false_and, if_false, Bool.not_false, if_true, Sem.run_bind, run_choose, hnf, Bool.false_eq_true, hnb, Result.andThen_ok, ← hnew, run_askRoom, hfc1, hfc2, run_zeroValue hz, newRow, run_newObj, Sem.run_pure]
  rfl

section
variable {C : Cx} {A : Nat → SV} {d : Nat} {ty : TypeId} {pos : String} {af : Array Edge} {gd : Option (Nat × Bool)} {x y z : Operand} {T T' : TypeId}

/-- One text more at the end of a row of texts. -/
theorem s_appendR {g by_ : Nat} {l : List ByteArray} {s : ByteArray} {el : TypeId} {T1 : TypeId} {z : Value} (hgN : Nat.ble C.N g = true) (hN : Nat.blt d C.N = true) (hx : opS A x = .slg g 0 (units l.length)) (hg : A g = .row l) (hy : opV A y = some (.sl 1 [.v (.string s)])) (hT : C.P.underlying T = some (.slice el)) (hT' : C.P.underlying T' = some (.slice T1))
    (hn : tySize C.P el = some 1) (hz : tyZero C.P el = some z) (hzn : z.cells.size = 1) (hb : (C.P.info? el).map (·.bytes) = some by_) (hB : (2 * (l.length + 1) + 192) * by_ ≤ 281474976710656) (hL : l.length + 1 < 9223372036854775808) :
    StepU C ⟨some d, .call { callee := .builtin .append, args := #[x, y], argTypes := #[T, T'] }, ty, pos, af, gd⟩ (g :: (opR x ++ opR y)) [] A [(g, .row (l ++ [s])), (d, .slg g 0 (units (l.length + 1)))] := by
  intro A' a w hR hF ⟨G, S⟩
  have hgA : A' g = .row l := (hR g List.mem_cons_self).trans hg
  have hgd : g ≠ d := by
    have h1 := Nat.le_of_ble_eq_true hgN
    have h2 : d < C.N := by simpa [Nat.blt_eq] using hN
    omega
  obtain ⟨c, hc1, hc2⟩ := S.opS ((opS_congr (fun k hk => hR k (List.mem_cons_of_mem _ (List.mem_append_left _ hk)))).trans hx) rfl
  simp only [RepS] at hc1
  obtain ⟨v, rfl, hv1, hv2, hv3⟩ := hc1
  have hx' : a.eval x = v := hc2
  rw [← opV_congr (fun k hk => hR k (List.mem_cons_of_mem _ (List.mem_append_right _ hk)))] at hy
  have hyR := S.opV hy
  have ht := S.holds g
  rw [hgA] at ht
  simp only [Holds] at ht
  obtain ⟨hlen, ht⟩ := ht
  have hcur : v = G.cur g := hv3 (by simpa using hlen.symm)
  obtain ⟨es, k1, k23⟩ := run_firstCells (P := C.P) hyR
  have hes : es = [.string s] := by
    simp only [RepE] at k1
    obtain ⟨c1, c2, rfl, _, h1, rfl⟩ := k1
    simp only [RepC] at h1
    rw [h1.1]; simp [Value.cells]
  subst hes
  obtain ⟨inf, hi, hib⟩ : ∃ inf, C.P.info? el = some inf ∧ inf.bytes = by_ := by
    cases hi : C.P.info? el with
    | none => rw [hi] at hb; cases hb
    | some inf => rw [hi] at hb; exact ⟨inf, rfl, by simpa using hb⟩
  have fin : ∀ (v' : Value) (w' : World), (Builtin.append_ #[T, T'] ty #[a.eval x, a.eval y]).run C.P w = .ok v' w' → SimG C (upd A' [(g, .row (l ++ [s]))]) { G with cur := fun j => if j = g then v' else G.cur j, len := fun j => if j = g then (l ++ [s]).length else G.len j } a w' →
      (∃ b cap, v' = .slice (some ⟨b, 0, none⟩) (l.length + 1) cap ∧ l.length + 1 ≤ cap ∧ cap ≤ maxLen) →
      (execOp a.eval ⟨some d, .call { callee := .builtin .append, args := #[x, y], argTypes := #[T, T'] }, ty, pos, af, gd⟩).run C.P w = .ok (.value v') w' ∧ Sim C (upd A' [(g, .row (l ++ [s])), (d, .slg g 0 (units (l.length + 1)))]) (a.put (some d) v') w' := by
    rintro v' w' hrun S' ⟨b, cap, rfl, h1, h2⟩
    refine ⟨run_resolve_append hrun, ?_⟩
    have := S'.put (d := d) (by simpa [Nat.blt_eq] using hN) (x := .slg g 0 (units (l.length + 1))) (v := .slice (some ⟨b, 0, none⟩) (l.length + 1) cap) ⟨[.slice (some ⟨b, 0, none⟩) (l.length + 1) cap], repS_units (by simp) (by simp) h1 h2, rfl⟩
    have e : upd (upd A' [(g, .row (l ++ [s]))]) [(d, .slg g 0 (units (l.length + 1)))] = upd A' [(g, .row (l ++ [s])), (d, .slg g 0 (units (l.length + 1)))] := by
      funext k
      simp only [upd]
      by_cases hkd : d = k
      · subst hkd; rw [nat_beq_false hgd]; simp
      · rw [nat_beq_false hkd]; simp
    rw [e] at this
    exact ⟨_, this⟩
  have key : ∃ v' w', (execOp a.eval ⟨some d, .call { callee := .builtin .append, args := #[x, y], argTypes := #[T, T'] }, ty, pos, af, gd⟩).run C.P w = .ok (.value v') w' ∧ Sim C (upd A' [(g, .row (l ++ [s])), (d, .slg g 0 (units (l.length + 1)))]) (a.put (some d) v') w' := by
    have grow : ∀ (base : Option Addr) (sCap : Nat), a.eval x = .slice base l.length sCap → sCap < l.length + 1 → sCap ≤ l.length + 1 → (∀ w0 : World, w0.heap = w.heap → (Builtin.firstCells 1 l.length (.slice base l.length sCap)).run C.P w0 = .ok (l.map Value.string).toArray w0) →
        ∃ v' w', (execOp a.eval ⟨some d, .call { callee := .builtin .append, args := #[x, y], argTypes := #[T, T'] }, ty, pos, af, gd⟩).run C.P w = .ok (.value v') w' ∧ Sim C (upd A' [(g, .row (l ++ [s])), (d, .slg g 0 (units (l.length + 1)))]) (a.put (some d) v') w' := by
      intro base sCap hev h1 h2 hold
      obtain ⟨newCap, cs, n, q1, q2, q3, q4, q5⟩ := run_append_grow (P := C.P) (w := w) (ty := ty) (base := base) (len := l.length) (sCap := sCap) (old := l.map Value.string) (y := a.eval y) (e := .string s) hT hT' hn hz hzn hi hib hB hL h1 h2 (by simp) (fun w0 h => k23 w0 h) hold
      rw [← hev] at q5
      refine ⟨_, _, fin _ _ q5 (S.turnR hgA rfl rfl rfl (by simp) (fun k hk _ => alloc_old (w := { w with drawn := n }) hk) (by simp) (.inr ⟨w.heap.size, newCap, by simp, by simpa using q1, q2, ⟨.inl S.size, by simp⟩, ⟨cs, el, alloc_new (w := { w with drawn := n }), q3, by simpa using q4⟩, fun o hi => ?_⟩) (fun ad n' c h => by cases h; exact .inr (Nat.le_refl _))) ⟨_, _, rfl, q1, q2⟩⟩
      have := S.val _ _ hi
      omega
    rcases ht with ⟨e, rfl⟩ | ⟨b, cap, e, h2, h3, h4, ⟨cs, T0, h5, h6, h7⟩, h8⟩
    · have hev : a.eval x = .slice none 0 0 := by rw [hx', hcur, e]
      exact grow none 0 hev (by simp) (by simp) (fun w0 _ => rfl)
    · have hev : a.eval x = .slice (some ⟨b, 0, none⟩) l.length cap := by rw [hx', hcur, e]
      by_cases hfit : l.length + 1 ≤ cap
      · have hr := run_append_fit (P := C.P) (w := w) (ty := ty) (y := a.eval y) (e := .string s) (n := 1) hT hT' hn hfit h5 h6 (fun o _ => by simp) rfl (k23 w rfl).1 (k23 w rfl).2
        rw [← hev] at hr
        have hblt : b < w.heap.size := h4.2
        refine ⟨_, _, fin _ _ hr (S.turnR hgA rfl rfl rfl (by rw [setBlk_size]; exact Nat.le_refl _) (fun k hk hn => setBlk_ne (fun hkb => hn ⟨⟨b, 0, none⟩, _, _, e, hkb.symm⟩)) (by simp)
          (.inr ⟨b, cap, by simp, by simpa using hfit, h3, ⟨h4.1, by rw [setBlk_size]; exact h4.2⟩, ⟨_, T0, setBlk_get hblt, by simp [splice, h6], ?_⟩, h8⟩) (fun ad n' c h => by cases h; exact .inl ⟨_, _, _, e, rfl⟩)) ⟨_, _, rfl, hfit, h3⟩⟩
        simp only [splice, Nat.add_zero, List.length_append, List.length_cons, List.length_nil]
        rw [Array.toList_setIfInBounds]
        apply List.ext_getElem?
        intro j
        by_cases hj : j < l.length
        · have h9 : (cs.toList.take l.length)[j]? = (l.map Value.string)[j]? := by rw [h7]
          rw [List.getElem?_take_of_lt hj] at h9
          rw [List.getElem?_take_of_lt (by omega), List.getElem?_set_ne (by omega), h9, List.map_append, List.getElem?_append_left (by simpa using hj)]
        · by_cases hj2 : j = l.length
          · subst hj2
            rw [List.getElem?_take_of_lt (by omega), List.getElem?_set_self (by simp; omega), List.map_append, List.getElem?_append_right (by simp)]
            simp
          · rw [List.getElem?_take_eq_none (by omega), List.getElem?_eq_none (by simp; omega)]
      · refine grow _ cap hev (by omega) (by omega) fun w0 hw0 => ?_
        simp only [Builtin.firstCells]
        have hl : (l.map Value.string).length = l.length * 1 := by simp
        rw [← hl]
        refine run_loadCells (l.map Value.string) fun j hj => ?_
        have hj' : j < l.length := by simpa using hj
        have h9 : (cs.toList.take l.length)[j]? = (l.map Value.string)[j]? := by rw [h7]
        rw [List.getElem?_take_of_lt hj', Array.getElem?_toList] at h9
        simp only [World.cell?, hw0, h5, Nat.zero_add]
        simp only [Option.isSome_none, Bool.false_eq_true, if_false]
        rw [h9]
        simp [hj']
  obtain ⟨v', w', hrun, S'⟩ := key
  unfold Oper.wp
  rw [hrun, Oper.upon_value]
  exact S'
end
end Go.Al

namespace Go.Al
open Go.RowKit

/-! ### The library's sort of texts -/

def sortB (l : List ByteArray) : List ByteArray := ((l.map fun s => s.data.toList).mergeSort fun x y => decide (x ≤ y)).map fun b => ⟨b.toArray⟩

theorem sortB_length (l : List ByteArray) : (sortB l).length = l.length := by simp [sortB]

structure SortC (P : Program) (Γ : List (Nat × AV)) (f : FuncId) : Prop where
  call : callable P f = true
  sorts : ∀ (blk cap : Nat) (ss : List (List UInt8)) (w : World), Sort.Holds Proofs.encStr w blk 0 ss.toArray → blk < w.heap.size → ss.length < 4611686018427387904 →
    Calls P f #[.slice (some ⟨blk, 0, none⟩) ss.length cap] w fun e w' =>
      e = .returned (.tuple #[]) ∧ ∃ n os, w' = Sort.grow (Sort.putRow Proofs.encStr (Sort.ahead w n) blk 0 (ss.mergeSort fun x y => decide (x ≤ y)).toArray) os
  empty : PCall P Γ f [.v (.slice none 0 0)] []

theorem repM_strs {w : World} {I : Nat → Nat → Prop} {b : Nat} : ∀ (ts : List ByteArray) (o : Nat), (∀ j (h : j < ts.length), w.cell? ⟨b, o + j, none⟩ = some (.string ts[j]) ∧ I b (o + j)) → RepM w I 1 (strs ts) b o
  | [], o, _ => by simp only [strs, List.map_nil, RepM]
  | t :: ts, o, h => by
    simp only [strs, List.map_cons, RepM]
    refine ⟨⟨[.string t], rfl, by simp [RepC, Value.cells, plain], fun j hj => ?_⟩, ?_⟩
    · have : j = 0 := by simpa using hj
      subst this
      exact h 0 (by simp)
    · refine repM_strs ts (o + 1) fun j hj => ?_
      have := h (j + 1) (by simpa using hj)
      rw [show o + 1 + j = o + (j + 1) from by omega]
      exact this

theorem enc_map (l : List ByteArray) : (l.map fun s => s.data.toList).map Proofs.encStr = l.map Value.string := by
  simp [Proofs.encStr]

section
variable {C : Cx} {A : Nat → SV} {d : Nat} {ty : TypeId} {pos : String} {af : Array Edge} {gd : Option (Nat × Bool)} {x y z : Operand} {T T' : TypeId}

/-- Slots may be told anew. -/
theorem SimG.retell {A B : Nat → SV} {G : Gh} {a : Act} {w : World} (S : SimG C A G a w) (h : ∀ k, B k = A k ∨ B k = .dead ∨ (k < C.N ∧ SlotS w G (B k) (a.tmps.getD k Go.undef))) : SimG C B G a w := by
  have hno : ∀ k b, ownsB G k b (B k) → B k = A k := by
    intro k b hb
    rcases h k with e | e | ⟨_, e⟩
    · exact e
    · rw [e] at hb; simp only [ownsB] at hb
    · exact absurd hb (e.notOwn k b)
  refine ⟨S.os, S.tape, S.output, S.size, S.block, S.sub, S.rel, S.glob, S.new, S.val, S.nts, S.dfs, fun k => ?_, fun k j b hkj h1 h2 => ?_⟩
  · rcases h k with e | e | ⟨h1, h2⟩
    · rw [e]; exact S.holds k
    · rw [e]; simp only [Holds]
    · exact Holds.slot (by rw [S.nts]; exact h1) h2
  · rw [hno k b h1] at h1; rw [hno j b h2] at h2
    exact S.apart k j b hkj h1 h2

theorem SimG.sorted {A B : Nat → SV} {G : Gh} {a : Act} {w : World} (S : SimG C A G a w) {g b cap n : Nat} {l : List ByteArray} {cs : Array Value} {T0 : TypeId} {os : Array Obj} (hA : A g = .row l)
    (hc : G.cur g = .slice (some ⟨b, 0, none⟩) l.length cap) (h2 : l.length ≤ cap) (h3 : cap ≤ maxLen) (h4 : Owned C.w0 C.E w b) (h5 : w.heap[b]? = some (.cells cs T0 (0, 0))) (h6 : cs.size = cap) (h8 : ∀ o, ¬ G.I b o)
    (hB : ∀ j, (j ≠ g ∧ B j = A j) ∨ B j = .dead ∨ (B j = .imm (.sl 1 (strs (sortB l))) ∧ j < C.N ∧ a.tmps.getD j Go.undef = .slice (some ⟨b, 0, none⟩) l.length cap)) :
    Sim C B a (Sort.grow (Sort.putRow Proofs.encStr (Sort.ahead w n) b 0 ((l.map fun s => s.data.toList).mergeSort fun x y => decide (x ≤ y)).toArray) os) := by
  obtain ⟨ts, hts⟩ : ∃ ts, ts = (l.map fun s => s.data.toList).mergeSort fun x y => decide (x ≤ y) := ⟨_, rfl⟩
  have htl : ts.length = l.length := by rw [hts]; simp
  have hsb : sortB l = ts.map fun b => (⟨b.toArray⟩ : ByteArray) := by rw [hts]; rfl
  rw [← hts]
  obtain ⟨w', hw'⟩ : ∃ w', w' = Sort.grow (Sort.putRow Proofs.encStr (Sort.ahead w n) b 0 ts.toArray) os := ⟨_, rfl⟩
  have hb' := heap_sorted (n := n) (os := os) ts.toArray h5
  have hgr : w.grownBy w' (some b) := by rw [hw']; exact grownBy_sorted _
  rw [← hw'] at hb' ⊢
  obtain ⟨g1, g2, g3, g4, g5⟩ := hgr
  let G' : Gh := { G with I := fun b' o => G.I b' o ∨ (b' = b ∧ o < l.length) }
  have hblk : ∀ k, k < w.heap.size → k ≠ b → w'.heap[k]? = w.heap[k]? := fun k hk hne => g5 k hk (fun e => hne (by cases e; rfl))
  have hle : Le w G.I w' G'.I := fun b' o h => ⟨.inl h, kp_of_block (hblk b' (S.val b' o h) fun e => h8 o (e ▸ h))⟩
  have hg : GRel [] G G' := fun j _ => ⟨rfl, .inl ⟨rfl, rfl⟩⟩
  have hbg : inRow G g b := ⟨_, _, _, hc, rfl⟩
  have hown : ownsB G g b (A g) := by rw [hA]; simp only [ownsB]; exact hbg
  have conv : ∀ j c, ownsB G' j c (B j) → j ≠ g ∧ ownsB G j c (A j) := by
    intro j c h
    rcases hB j with ⟨h1, e⟩ | e | ⟨e, _⟩
    · rw [e] at h
      refine ⟨h1, ?_⟩
      revert h
      generalize A j = y
      cases y <;> exact id
    · rw [e] at h; simp only [ownsB] at h
    · rw [e] at h; simp only [ownsB] at h
  refine ⟨G', g1.trans S.os, g2.trans S.tape, g3.trans S.output, Nat.le_trans S.size g4, fun j h1 h2 => ?_, S.sub.trans hle, fun j hj => (S.rel j hj).trans (hg j (by simp)), S.glob.mono hle, fun b' o h => ?_, fun b' o h => ?_, S.nts, S.dfs, fun j => ?_, fun i j c hij p1 p2 => S.apart i j c hij (conv i c p1).2 (conv j c p2).2⟩
  · rw [hblk j (Nat.lt_of_lt_of_le h1 S.size) ?_]
    · exact S.block j h1 h2
    · rintro rfl
      rcases h4.1 with h | h
      · omega
      · exact h2 h
  · rcases h with h | ⟨rfl, _⟩
    · exact S.new b' o h
    · exact .inr h4.1
  · rcases h with h | ⟨rfl, _⟩
    · exact Nat.lt_of_lt_of_le (S.val b' o h) g4
    · exact Nat.lt_of_lt_of_le h4.2 g4
  · rcases hB j with ⟨hj, e⟩ | e | ⟨e, hjN, hv⟩
    · rw [e]
      refine (S.holds j).keep hle hg (noG_nil.1 _) g4 (fun h => ⟨h, rfl⟩) (fun _ => ⟨rfl, rfl, rfl⟩) (fun c hc' => ?_)
      have hcb : c ≠ b := by rintro rfl; exact S.apart j g c hj hc' hown
      refine ⟨hblk c (ownsB_lt S hc') hcb, fun o hi => ?_⟩
      rcases hi with hi | ⟨rfl, _⟩
      · exact hi
      · exact absurd rfl hcb
    · rw [e]; simp only [Holds]
    · rw [e]
      simp only [Holds]
      refine ⟨by rw [S.nts]; exact hjN, ?_⟩
      rw [hv]
      simp only [SlotS]
      refine valS_imm.2 ⟨[.slice (some ⟨b, 0, none⟩) l.length cap], ?_, rfl⟩
      simp only [RepC]
      refine ⟨_, rfl, .inr ⟨b, 0, cap, by simp [strs, sortB_length], by simpa [strs, sortB_length] using h2, h3, ?_⟩⟩
      refine repM_strs _ 0 fun i hi => ?_
      have hi' : i < ts.length := by rw [hsb] at hi; simpa using hi
      refine ⟨?_, .inr ⟨rfl, by omega⟩⟩
      have ht := take_putCells cs ts (by omega)
      have h9 : ((Sort.putCells Proofs.encStr 0 ts.toArray cs).toList.take ts.length)[i]? = (ts.map Proofs.encStr)[i]? := by rw [ht]
      rw [List.getElem?_take_of_lt hi', Array.getElem?_toList] at h9
      simp only [World.cell?, hb', Nat.zero_add]
      simp only [Option.isSome_none, Bool.false_eq_true, if_false]
      rw [h9]
      simp only [hsb, List.getElem?_map, List.getElem_map, List.getElem?_eq_getElem hi', Option.map_some]

/-- slices.Sort of a row of texts: nobody writes to it any more. k2: another slot that holds it. -/
theorem s_sort {g k : Nat} (k2 : Nat) {l : List ByteArray} {f : FuncId} {ats : Array TypeId} (hc : SortC C.P C.Γ f) (hgN : Nat.ble C.N g = true) (hN : Nat.blt d C.N = true) (hkN : Nat.blt k C.N = true) (hkN2 : Nat.blt k2 C.N = true) (hkd : Nat.beq k d = false) (hkd2 : Nat.beq k2 d = false) (hx : A k = .slg g 0 (units l.length)) (hx2 : A k2 = .slg g 0 (units l.length)) (hg : A g = .row l) (hL : l.length < 4611686018427387904) :
    StepU C ⟨some d, .call { callee := .value (.func f), args := #[.tmp k], argTypes := ats }, ty, pos, af, gd⟩ [g, k, k2] [] A [(g, .dead), (k, .imm (.sl 1 (strs (sortB l)))), (k2, .imm (.sl 1 (strs (sortB l)))), (d, .tup [])] := by
  intro A' a w hR hF ⟨G, S⟩
  have hgA : A' g = .row l := (hR g (by simp)).trans hg
  have hN' : d < C.N := by simpa [Nat.blt_eq] using hN
  have hkN' : k < C.N := by simpa [Nat.blt_eq] using hkN
  have hkN2' : k2 < C.N := by simpa [Nat.blt_eq] using hkN2
  have hgN' : C.N ≤ g := Nat.le_of_ble_eq_true hgN
  have ht := S.holds g
  rw [hgA] at ht
  simp only [Holds] at ht
  obtain ⟨hlen, ht⟩ := ht
  have val : ∀ k, A' k = .slg g 0 (units l.length) → a.tmps.getD k Go.undef = G.cur g := by
    intro k hkA
    obtain ⟨c, hc1, hc2⟩ := S.slot hkA rfl
    simp only [RepS] at hc1
    obtain ⟨v, rfl, hv1, hv2, hv3⟩ := hc1
    have hval : a.tmps.getD k Go.undef = v := hc2
    rw [hval]; exact hv3 (by simpa using hlen.symm)
  have hval := val k ((hR k (by simp)).trans hx)
  have hval2 := val k2 ((hR k2 (by simp)).trans hx2)
  have hkd' : k ≠ d := by rintro rfl; rw [Nat.beq_refl] at hkd; cases hkd
  have hkd2' : k2 ≠ d := by rintro rfl; rw [Nat.beq_refl] at hkd2; cases hkd2
  obtain ⟨B, hBdef⟩ : ∃ B, B = upd A' [(g, .dead), (k, .imm (.sl 1 (strs (sortB l)))), (k2, .imm (.sl 1 (strs (sortB l))))] := ⟨_, rfl⟩
  have hu : upd A' [(g, .dead), (k, .imm (.sl 1 (strs (sortB l)))), (k2, .imm (.sl 1 (strs (sortB l)))), (d, .tup [])] = upd B [(d, .tup [])] := by
    funext j
    have hgd : g ≠ d := by omega
    rw [hBdef]
    simp only [upd]
    by_cases hjd : d = j
    · subst hjd; rw [nat_beq_false hgd, nat_beq_false hkd', nat_beq_false hkd2']; simp
    · rw [nat_beq_false hjd]; simp
  have hBj : ∀ j, B j = if j = g then .dead else if j = k then .imm (.sl 1 (strs (sortB l))) else if j = k2 then .imm (.sl 1 (strs (sortB l))) else A' j := by
    intro j
    rw [hBdef]
    simp only [upd]
    by_cases h1 : j = g
    · subst h1; simp
    · rw [nat_beq_false (Ne.symm h1), if_neg h1]
      by_cases h2 : j = k
      · subst h2; simp
      · rw [nat_beq_false (Ne.symm h2), if_neg h2]
        by_cases h3 : j = k2
        · subst h3; simp
        · rw [nat_beq_false (Ne.symm h3), if_neg h3]; rfl
  have hev : (#[Operand.tmp k].map a.eval) = #[G.cur g] := by
    have : a.eval (.tmp k) = G.cur g := hval
    simp [this]
  unfold Oper.wp
  have hrun : (execOp a.eval ⟨some d, .call { callee := .value (.func f), args := #[.tmp k], argTypes := ats }, ty, pos, af, gd⟩).run C.P w = .ok (.enter f #[G.cur g]) w := by
    have hfn : a.eval (.func f) = .func (.func f) #[] #[] := rfl
    simp only [execOp, resolve, hfn, Deferred.ofValue, Sem.run_bind, Sem.run_pure, Result.andThen_ok, invoke, hev]
    have := run_callFunc hc.call (#[] ++ #[G.cur g] ++ #[]) w
    simpa using this
  rw [hrun, Oper.upon_enter, hu]
  rcases ht with ⟨e, rfl⟩ | ⟨b, cap, e, h2, h3, h4, ⟨cs, T0, h5, h6, h7⟩, h8⟩
  · rw [e]
    refine (hc.empty.2 w G.I [.slice none 0 0] S.val S.glob (by simp only [RepVs]; exact ⟨[.slice none 0 0], [], rfl, by simp [RepC, Value.cells, plain], rfl⟩)).mono ?_
    rintro e' w' ⟨v', I', rfl, hb, hle, hn, hv, hres⟩
    have S' := S.called hb hle hn hv
    have hs : ∀ j, a.tmps.getD j Go.undef = G.cur g → SlotS w' { G with I := I' } (.imm (.sl 1 (strs (sortB [])))) (a.tmps.getD j Go.undef) := by
      intro j hj
      rw [hj, e]
      simp only [SlotS]
      refine valS_imm.2 ⟨[.slice none 0 0], ?_, rfl⟩
      simp only [RepC]
      exact ⟨_, rfl, .inl (by simpa [strs, sortB] using nil_sl 0)⟩
    have S2 : SimG C B { G with I := I' } a w' := S'.retell fun j => by
      rw [hBj]
      split
      · exact .inr (.inl rfl)
      · split
        · rename_i hj; subst hj; exact .inr (.inr ⟨hkN', hs _ hval⟩)
        · split
          · rename_i hj; subst hj; exact .inr (.inr ⟨hkN2', hs _ hval2⟩)
          · exact .inl rfl
    have S3 := S2.put (d := d) hN' (x := .tup []) (v := v') (by
      have := resV_slot (w := w') (G := { G with I := I' }) (rs := []) hres
      simpa [resSV] using this)
    exact ⟨_, S3⟩
  · have hH : Sort.Holds Proofs.encStr w b 0 (l.map fun s => s.data.toList).toArray := holds_of_block h5 (by rw [enc_map]; simpa using h7)
    have hcall := hc.sorts b cap (l.map fun s => s.data.toList) w hH h4.2 (by simpa using hL)
    rw [List.length_map, ← e] at hcall
    refine hcall.mono ?_
    rintro e' w' ⟨rfl, n, os, rfl⟩
    obtain ⟨G', S'⟩ := S.sorted (B := B) (n := n) (os := os) hgA e h2 h3 h4 h5 h6 h8 (fun j => by
      rw [hBj]
      split
      · exact .inr (.inl rfl)
      · rename_i hjg
        split
        · rename_i hj; subst hj; exact .inr (.inr ⟨rfl, hkN', hval.trans e⟩)
        · split
          · rename_i hj; subst hj; exact .inr (.inr ⟨rfl, hkN2', hval2.trans e⟩)
          · exact .inl ⟨hjg, rfl⟩)
    have S3 := S'.put (d := d) hN' (x := .tup []) (v := .tuple #[]) (by
      simp only [SlotS]
      exact ⟨[], rfl, by simp only [ValSs]⟩)
    exact ⟨_, S3⟩
end
end Go.Al

namespace Go.Proofs
open Go Go.Al

/-! ### Keys collected in a map, sorted: the own form -/

/-- The last place of a key. -/
def lastAt : List GA → ByteArray → Nat → Option Nat
  | [], _, _ => none
  | x :: xs, k, i => match lastAt xs k (i + 1) with
    | some j => some j
    | none => if x.key = k then some i else none
def lastI (l : List GA) (k : ByteArray) : Nat := (lastAt l k 0).getD 0
def mks (l : List GA) : List ByteArray := l.foldl (fun acc x => mputK acc x.key) []
def mvs (l : List GA) : List AV := (mks l).map fun k => iv (lastI l k : Int)

theorem lastAt_snoc (k : ByteArray) (x : GA) : ∀ (m : List GA) (i : Nat), lastAt (m ++ [x]) k i = if x.key = k then some (i + m.length) else lastAt m k i
  | [], i => by simp only [List.nil_append, lastAt]; split <;> simp
  | y :: m, i => by
    simp only [List.cons_append, lastAt]
    rw [lastAt_snoc k x m (i + 1)]
    by_cases h : x.key = k
    · simp only [h, if_true, List.length_cons]; congr 1; omega
    · simp only [if_neg h]
theorem lastAt_lt {k : ByteArray} : ∀ {m : List GA} {i j : Nat}, lastAt m k i = some j → i ≤ j ∧ j < i + m.length
  | [], i, j, h => by simp [lastAt] at h
  | x :: xs, i, j, h => by
    simp only [lastAt] at h
    split at h
    · rename_i j' hj; cases h; have := lastAt_lt hj; simp; omega
    · split at h
      · cases h; simp
      · cases h
theorem mks_snoc (m : List GA) (x : GA) : mks (m ++ [x]) = mputK (mks m) x.key := by simp [mks, List.foldl_append]

theorem mfind_none : ∀ {l : List ByteArray} {s : ByteArray} {i : Nat}, mfind l s i = none ↔ s ∉ l
  | [], s, i => by simp [mfind]
  | x :: xs, s, i => by
    rw [mfind]
    by_cases h : s = x
    · simp [h]
    · simp [h, mfind_none]
theorem nodup_mks (l : List GA) : (mks l).Nodup := by
  have key : ∀ (l : List GA) (acc : List ByteArray), acc.Nodup → (l.foldl (fun acc x => mputK acc x.key) acc).Nodup := by
    intro l
    induction l with
    | nil => intro acc h; exact h
    | cons x l ih =>
      intro acc h
      refine ih _ ?_
      show (mputK acc x.key).Nodup
      unfold mputK
      split
      · exact h
      · rename_i hm
        have := mfind_none.1 hm
        rw [List.nodup_append]
        refine ⟨h, by simp, ?_⟩
        intro a ha b hb
        simp at hb; subst hb
        rintro rfl; exact this ha
  exact key l [] (by simp)
theorem mem_mputK {l : List ByteArray} {s k : ByteArray} : k ∈ mputK l s ↔ k = s ∨ k ∈ l := by
  unfold mputK
  split
  · rename_i j hm
    have := mfind_get hm
    have hs : s ∈ l := List.mem_of_getElem? this
    constructor
    · exact .inr
    · rintro (rfl | h)
      · exact hs
      · exact h
  · simp; exact Or.comm
theorem mks_spec (l : List GA) (k : ByteArray) : k ∈ mks l ↔ ∃ j, lastAt l k 0 = some j := by
  induction l using snocInd with
  | nil => simp [mks, lastAt]
  | snoc m x ih =>
    rw [mks_snoc, mem_mputK, lastAt_snoc, ih]
    by_cases h : x.key = k
    · simp [h]
    · have : ¬ k = x.key := fun e => h e.symm
      simp [h, this]
where
  snocInd {motive : List GA → Prop} (l : List GA) (nil : motive []) (snoc : ∀ m x, motive m → motive (m ++ [x])) : motive l := by
    have : ∀ n (l : List GA), l.length = n → motive l := by
      intro n
      induction n with
      | zero => intro l h; rw [List.eq_nil_of_length_eq_zero h]; exact nil
      | succ n ih =>
        intro l h
        have hne : l ≠ [] := by rintro rfl; simp at h
        rw [← List.dropLast_concat_getLast hne]
        exact snoc _ _ (ih _ (by simp [h]))
    exact this _ l rfl
theorem mvs_snoc (m : List GA) (x : GA) : mvs (m ++ [x]) = mputV (mks m) (mvs m) x.key (iv (m.length : Int)) := by
  have hl : ∀ k, lastI (m ++ [x]) k = if x.key = k then m.length else lastI m k := by
    intro k
    unfold lastI
    rw [lastAt_snoc]
    split <;> simp
  unfold mvs mputV
  rw [mks_snoc]
  unfold mputK
  cases hm : mfind (mks m) x.key 0 with
  | some i =>
    have h1 := mfind_lt hm
    have h2 := mfind_get hm
    simp only [Nat.sub_zero] at h2
    refine List.ext_getElem? fun j => ?_
    simp only [List.getElem?_map]
    by_cases hj : j = i
    · subst hj
      rw [h2, List.getElem?_set_self (by simp; omega)]
      simp [hl]
    · rw [List.getElem?_set_ne (Ne.symm hj), List.getElem?_map]
      cases hk : (mks m)[j]? with
      | none => rfl
      | some k =>
        have hne : ¬ x.key = k := by
          intro e
          rw [e] at h2
          have hn := nodup_mks m
          have hji : j < (mks m).length := (List.getElem?_eq_some_iff.1 hk).1
          have := (List.getElem?_inj hji hn).1 (hk.trans h2.symm)
          exact hj this
        simp [hl, hne]
  | none =>
    have h1 := mfind_none.1 hm
    simp only [List.map_append, List.map_cons, List.map_nil, hl, if_true]
    congr 1
    refine List.map_congr_left fun k hk => ?_
    rw [if_neg (fun e => h1 (by rw [e]; exact hk))]
theorem mks_len (l : List GA) : (mks l).length ≤ l.length := by
  have key : ∀ (l : List GA) (acc : List ByteArray), (l.foldl (fun acc x => mputK acc x.key) acc).length ≤ acc.length + l.length := by
    intro l
    induction l with
    | nil => intro acc; simp
    | cons x l ih =>
      intro acc
      have h1 := ih (mputK acc x.key)
      have h2 : (mputK acc x.key).length ≤ acc.length + 1 := by unfold mputK; split <;> simp
      simp only [List.foldl_cons, List.length_cons] at *; omega
  have := key l []
  simp only [List.length_nil, Nat.zero_add] at this
  exact this

/-! ### What stands under a key of the own form -/
theorem getA_intoP {l : List GA} {p : Option ByteArray} (a : GA) (k : ByteArray) (h : risA p l) : getA (intoA l a) k = if a.key = k then some a.val else getA l k := by
  induction l generalizing p with
  | nil => simp only [intoA, getA]
  | cons x xs ih =>
    rw [intoA]
    split
    · rename_i hx
      simp only [getA]
      rw [ih h.2]
      by_cases h1 : a.key = k
      · have : ¬ x.key = k := by rintro e; rw [e, h1, ltB_irrefl] at hx; cases hx
        simp [h1, this]
      · simp only [if_neg h1]
    · rename_i hx
      split
      · rename_i he
        simp only [getA]
        by_cases h1 : a.key = k
        · simp [h1]
        · have : ¬ x.key = k := by rw [he]; exact h1
          simp [h1, this]
      · simp only [getA]
theorem nthA_append_lt {m : List GA} {x : GA} {j : Nat} (h : j < m.length) : nthA (m ++ [x]) j = nthA m j := by
  unfold nthA nth; rw [List.getD_eq_getElem?_getD, List.getD_eq_getElem?_getD, List.getElem?_append_left h]
theorem nthA_append_last {m : List GA} {x : GA} : nthA (m ++ [x]) m.length = x := by
  unfold nthA nth; simp
theorem getA_canonAs (l : List GA) (k : ByteArray) : getA (canonAs l) k = (lastAt l k 0).map fun j => canonV (nthA l j).val := by
  unfold canonAs
  induction l using mks_spec.snocInd with
  | nil => rfl
  | snoc m x ih =>
    rw [List.map_append, List.map_cons, List.map_nil, intoAll_snoc, getA_intoP _ _ (ris_intoAll _ [] trivial), lastAt_snoc, ih]
    have e1 : (canonP x).key = x.key := by rw [canonP_eq]; rfl
    have e2 : (canonP x).val = canonV x.val := by rw [canonP_eq]; rfl
    rw [e1, e2]
    by_cases h : x.key = k
    · simp only [h, if_true, Option.map_some, Nat.zero_add, nthA_append_last]
    · simp only [if_neg h]
      cases hl : lastAt m k 0 with
      | none => rfl
      | some j =>
        have := lastAt_lt hl
        simp only [Option.map_some]
        rw [nthA_append_lt (by omega)]

theorem risA_ext : ∀ {l m : List GA} {p q : Option ByteArray}, risA p l → risA q m → (∀ k, getA l k = getA m k) → l = m
  | [], [], _, _, _, _, _ => rfl
  | [], y :: m, _, _, _, _, h => by have := h y.key; simp [getA] at this
  | x :: l, [], _, _, _, _, h => by have := h x.key; simp [getA] at this
  | x :: l, y :: m, p, q, h1, h2, h => by
    have memk : ∀ {l : List GA} {k : ByteArray} {v : GV}, getA l k = some v → ∃ a ∈ l, a.val = v ∧ a.key = k := getA_mem
    have hk : x.key = y.key := by
      have a1 := h x.key
      have a2 := h y.key
      simp only [getA, if_true] at a1 a2
      by_cases e : y.key = x.key
      · exact e.symm
      · have e' : ¬ x.key = y.key := fun q => e q.symm
        rw [if_neg e] at a1
        rw [if_neg e'] at a2
        obtain ⟨b, hb, _, hbk⟩ := memk a1.symm
        obtain ⟨c, hc, _, hck⟩ := memk a2
        have h3 := risA_mem h2.2 b hb
        have h4 := risA_mem h1.2 c hc
        rw [hbk] at h3; rw [hck] at h4
        rw [ltB_asymm h3] at h4; cases h4
    have hv : x.val = y.val := by
      have a1 := h x.key
      simp only [getA, if_true, hk] at a1
      exact Option.some.inj a1
    have hxy : x = y := by
      cases x; cases y; simp only [GA.key, GA.val] at hk hv; rw [hk, hv]
    subst hxy
    congr 1
    refine risA_ext h1.2 h2.2 fun k => ?_
    by_cases e : x.key = k
    · have none1 : ∀ {m : List GA}, risA (some x.key) m → getA m k = none := by
        intro m hm
        cases hg : getA m k with
        | none => rfl
        | some v =>
          obtain ⟨b, hb, _, hbk⟩ := memk hg
          have := risA_mem hm b hb
          rw [hbk, e, ltB_irrefl] at this; cases this
      rw [none1 h1.2, none1 h2.2]
    · have := h k
      simp only [getA, if_neg e] at this
      exact this

/-! ### Sorted -/
theorem bl_lt : ∀ a b : List UInt8, Op.bytesLess a b = decide (a < b)
  | [], [] => by simp [Op.bytesLess]
  | [], _ :: _ => by simp [Op.bytesLess]
  | _ :: _, [] => by simp [Op.bytesLess]
  | x :: a, y :: b => by
    have ih := bl_lt a b
    simp only [Op.bytesLess, List.cons_lt_cons_iff]
    by_cases h : x < y
    · simp [h]
    · by_cases h2 : y < x
      · have : ¬ x = y := by rintro rfl; exact absurd h2 (UInt8.lt_irrefl _)
        simp [h, h2, this]
      · have : x = y := UInt8.le_antisymm (UInt8.not_lt.1 h2) (UInt8.not_lt.1 h)
        subst this
        simp [h, ih]
theorem le_iff (s t : ByteArray) : decide (s.data.toList ≤ t.data.toList) = !ltB t s := by
  have e : ltB t s = decide (t.data.toList < s.data.toList) := by
    unfold ltB
    have hl : ∀ s : ByteArray, lst s = s.data.toList := fun s => rfl
    rw [hl, hl]; exact bl_lt _ _
  rw [e, ← decide_not]
  exact decide_eq_decide.2 List.not_lt.symm
theorem sortB_perm (l : List ByteArray) : (sortB l).Perm l := by
  have h := (List.mergeSort_perm (l.map fun s => s.data.toList) (fun x y => decide (x ≤ y))).map (fun b : List UInt8 => (⟨b.toArray⟩ : ByteArray))
  simpa [sortB, Function.comp_def] using h
theorem sortB_sorted (l : List ByteArray) : (sortB l).Pairwise fun s t => ltB t s = false := by
  have h := List.pairwise_mergeSort (le := fun x y : List UInt8 => decide (x ≤ y)) (fun a b c h1 h2 => by simp only [decide_eq_true_eq] at *; exact List.le_trans h1 h2) (fun a b => by simp only [Bool.or_eq_true, decide_eq_true_eq]; exact List.le_total a b) (l.map fun s => s.data.toList)
  unfold sortB
  rw [List.pairwise_map]
  refine h.imp ?_
  intro a b hab
  have := le_iff ⟨a.toArray⟩ ⟨b.toArray⟩
  simp only [List.toList_toArray] at this
  rw [hab] at this
  simpa using this.symm
theorem ris_of_pairwise {f : ByteArray → GA} (hf : ∀ k, (f k).key = k) : ∀ (l : List ByteArray) (p : Option ByteArray), (∀ q, p = some q → ∀ k ∈ l, ltB q k = true) → l.Pairwise (fun s t => ltB s t = true) → risA p (l.map f)
  | [], _, _, _ => trivial
  | k :: l, p, hp, h => by
    rw [List.pairwise_cons] at h
    simp only [List.map_cons, risA, hf]
    refine ⟨?_, ris_of_pairwise hf l _ (fun q e => by cases e; exact h.1) h.2⟩
    cases p with
    | none => trivial
    | some q => exact hp q rfl k List.mem_cons_self
theorem getA_mapped {v : ByteArray → GV} (k : ByteArray) : ∀ l : List ByteArray, (k ∈ l → getA (l.map fun k => GA.mk k (v k)) k = some (v k)) ∧ (k ∉ l → getA (l.map fun k => GA.mk k (v k)) k = none)
  | [] => ⟨fun h => by simp at h, fun _ => rfl⟩
  | x :: l => by
    have ih := getA_mapped (v := v) k l
    rw [List.map_cons, getA, List.mem_cons]
    by_cases h : (GA.mk x (v x)).key = k
    · rw [if_pos h]
      have h' : x = k := h
      subst h'
      exact ⟨fun _ => rfl, fun hk => absurd (.inl rfl) hk⟩
    · rw [if_neg h]
      have h' : ¬ k = x := fun e => h e.symm
      exact ⟨fun hk => ih.1 (hk.resolve_left h'), fun hk => ih.2 fun q => hk (.inr q)⟩

/-- The program's way to the own form. -/
theorem canonAs_sorted (l : List GA) {ks : List ByteArray} (h : ks.Perm (mks l)) : (sortB ks).map (fun k => GA.mk k (canonV (nthA l (lastI l k)).val)) = canonAs l := by
  have hp : (sortB ks).Perm (mks l) := (sortB_perm ks).trans h
  have hn : (sortB ks).Nodup := hp.nodup_iff.2 (nodup_mks l)
  have hs : (sortB ks).Pairwise fun s t => ltB s t = true := by
    have h1 := sortB_sorted ks
    have h2 : (sortB ks).Pairwise (· ≠ ·) := hn
    refine (h1.and h2).imp ?_
    rintro a b ⟨h3, h4⟩
    cases h5 : ltB a b with
    | true => rfl
    | false => exact absurd (ltB_tri h5 h3) h4
  refine risA_ext (p := none) (q := none) (ris_of_pairwise (f := fun k => GA.mk k (canonV (nthA l (lastI l k)).val)) (fun _ => rfl) _ none (fun q e => by cases e) hs) (ris_canonAs l) fun k => ?_
  have hgm := getA_mapped (v := fun k => canonV (nthA l (lastI l k)).val) k (sortB ks)
  rw [getA_canonAs]
  have hm : k ∈ sortB ks ↔ ∃ j, lastAt l k 0 = some j := (hp.mem_iff).trans (mks_spec l k)
  cases hl : lastAt l k 0 with
  | none =>
    rw [hgm.2 (fun hk => by obtain ⟨j, hj⟩ := hm.1 hk; rw [hl] at hj; cases hj)]; rfl
  | some j =>
    rw [hgm.1 (hm.2 ⟨j, hl⟩)]
    simp only [lastI, hl, Option.getD_some, Option.map_some]

/-- Who has seen all has seen each key once. -/
theorem seen_perm {ks : List ByteArray} {seen : List Nat} (hn : seen.Nodup) (hl : ∀ i ∈ seen, i < ks.length) (hall : ∀ i, i < ks.length → i ∈ seen) : (seen.map fun i => ks.getD i ⟨#[]⟩).Perm ks := by
  have h1 : seen.Perm (List.range ks.length) := by
    refine (List.perm_ext_iff_of_nodup hn List.nodup_range).2 fun i => ?_
    rw [List.mem_range]
    exact ⟨hl i, hall i⟩
  have h2 := h1.map fun i => ks.getD i ⟨#[]⟩
  have h3 : (List.range ks.length).map (fun i => ks.getD i ⟨#[]⟩) = ks := by
    refine List.ext_getElem (by simp) fun i h4 h5 => ?_
    rw [List.getElem_map, List.getElem_range, List.getD_eq_getElem?_getD, List.getElem?_eq_getElem h5]; rfl
  rw [h3] at h2
  exact h2
end Go.Proofs

namespace Go.Al
open Go.RowKit

/-! ### The step of a range over a map -/

/-- A region whose first operation goes one of several ways. -/
theorem aw_first {C : Cx} {id : Nat} {o : Oper} {os : List Oper} {ops : Array Oper} {st : St} {Q : Exit → St → Prop} (hl : ops.toList = o :: os) (hg : o.guard = none)
    (h : ∀ a w, Sim C (look st) a w → ∃ p : St, o.wp C.P a w (fun a' w' => Sim C (look (p ++ st)) a' w') (fun _ _ _ => False) ∧ Go1 C ops os (p ++ st) [] (fun st' _ => Q .normal st')) : AW C (.region id ops false) st Q := by
  intro a w S
  obtain ⟨p, h1, h2⟩ := h a w S
  obtain ⟨tr, st', r, f, k, _⟩ := Go1.sound _ _ _ _ h2
  refine wp_region ?_
  have h0 : ops[0]? = some o := by rw [← Array.getElem?_toList, hl]; rfl
  have hsz : ops.size = os.length + 1 := by rw [← Array.length_toList, hl]; rfl
  rw [List.range_eq_range', hsz, List.range'_succ]
  simp only [wpOps, h0]
  have hw : Region.wanted o (yielded ops a.tmps) = true := by simp [Region.wanted, hg]
  simp only [hw, if_true]
  refine .inl (wpOps_run.Oper.wp_mono' (fun a' w' S' => ?_) (fun _ _ _ h => h.elim) h1)
  exact wpOps_run os 1 _ tr a' w' (fun j => by rw [← Array.getElem?_toList, hl, Nat.add_comm, List.getElem?_cons_succ]) r S' (fun a' w' S' => ⟨st', k, f ▸ S'⟩)

theorem leftOf_mem {es : Array MapEntry} {seen : Array Nat} {e : MapEntry} (h : e ∈ (leftOf es seen).toList) : e ∈ es.toList ∧ e.born ∉ seen := by
  unfold leftOf at h
  simp at h
  simpa using h

theorem leftOf_none {es : Array MapEntry} {seen : Array Nat} (h : (leftOf es seen).size = 0) : ∀ e ∈ es.toList, e.born ∈ seen := by
  intro e he
  have h0 : leftOf es seen = #[] := Array.eq_empty_of_size_eq_zero h
  unfold leftOf at h0
  rw [Array.filter_eq_empty_iff] at h0
  have := h0 e (by simpa using he)
  simpa using this

section
variable {C : Cx} {d : Nat} {ty : TypeId} {pos : String} {af : Array Edge} {x : Operand}

/-- A draw, or none. -/
theorem SimG.draws {A : Nat → SV} {G : Gh} {a : Act} {w w1 : World} (S : SimG C A G a w) (h : w1 = w ∨ w1 = w.drew) : SimG C A G a w1 := by
  rcases h with rfl | rfl
  · exact S
  · exact S.heap rfl rfl rfl rfl

theorem wp_next {st : St} {a : Act} {w : World} {gi gm n : Nat} {seen : List Nat} {l : List ByteArray} {vs : List AV} (S : Sim C (look st) a w) (hN : Nat.blt d C.N = true) (hx : opS (look st) x = .ptr gi 0) (hg : look st gi = .itr gm n seen) (hm : look st gm = .mpr (strs l) vs) (hn : Nat.beq n l.length = true) (hgN : Nat.ble C.N gi = true) :
    ((∀ i, i < n → i ∈ seen) ∧ Oper.wp C.P ⟨some d, .next x false, ty, pos, af, none⟩ a w (fun a' w' => Sim C (look ([(d, .tup [.imm (.v (.bool false))])] ++ st)) a' w') (fun _ _ _ => False)) ∨
    ∃ i s v, i < n ∧ i ∉ seen ∧ l[i]? = some s ∧ vs[i]? = some v ∧
      Oper.wp C.P ⟨some d, .next x false, ty, pos, af, none⟩ a w (fun a' w' => Sim C (look ([(d, .tup [.imm (.v (.bool true)), .imm (.v (.string s)), .imm v]), (gi, .itr gm n (seen ++ [i]))] ++ st)) a' w') (fun _ _ _ => False) := by
  obtain ⟨G, S⟩ := S
  have hN' : d < C.N := by simpa [Nat.blt_eq] using hN
  have hgN' : C.N ≤ gi := Nat.le_of_ble_eq_true hgN
  have hn' : n = l.length := Nat.eq_of_beq_eq_true hn
  obtain ⟨c, hc1, hc2⟩ := S.opS hx rfl
  simp only [RepS] at hc1
  have hev : a.eval x = .pointer (some ⟨G.blk gi, 0, none⟩) := by rw [hc2, hc1]; rfl
  have hi := S.holds gi
  rw [hg] at hi
  simp only [Holds] at hi
  obtain ⟨ho1, hi1, hi2⟩ := hi
  have hb := S.holds gm
  rw [hm] at hb
  simp only [Holds] at hb
  obtain ⟨ho2, ⟨es, h1, h2, h3, h4⟩, hni⟩ := hb
  have hkeys : es.toList.map (·.key) = l.map Value.string := repVs_strs h3
  have hlen : es.size = l.length := by have := congrArg List.length hkeys; simpa using this
  have hold : ∀ x ∈ es.toList, x.born < n := by
    intro x hx
    obtain ⟨i, hi, rfl⟩ := List.getElem_of_mem hx
    have := h2 i (by simpa using hi)
    simp only [Array.getElem_toList, this]
    have : i < es.size := by simpa using hi
    omega
  have hes : es.size = n := by omega
  rcases run_next_at (P := C.P) w ty (G.blk gi) (G.blk gm) n n seen.toArray es es.size hi1 h1 hold (Nat.le_refl _) with ⟨h0, hrun⟩ | ⟨e, he, w1, hw1, hrun⟩
  · refine .inl ⟨fun i hi => ?_, ?_⟩
    · have hie : i < es.size := by omega
      have := leftOf_none h0 es[i] (by simp)
      rw [h2 i hie] at this
      simpa using this
    · unfold Oper.wp
      have : (execOp a.eval ⟨some d, .next x false, ty, pos, af, none⟩).run C.P w = .ok (.value (.tuple #[.bool false])) w := by
        simp only [execOp, hev, Sem.run_bind, hrun, Result.andThen_ok, Sem.run_pure]
      rw [this, Oper.upon_value]
      have S2 := S.put (d := d) hN' (x := .tup [.imm (.v (.bool false))]) (v := .tuple #[.bool false]) (by
        simp only [SlotS]
        exact ⟨[.bool false], rfl, .bool false, [], rfl, valS_imm.2 (rep_p _ _ rfl), rfl⟩)
      rw [upd_look] at S2
      exact ⟨G, S2⟩
  · obtain ⟨he1, he2⟩ := leftOf_mem he
    obtain ⟨i, hi, rfl⟩ := List.getElem_of_mem he1
    have hie : i < es.size := by simpa using hi
    have hbi := h2 i hie
    simp only [Array.getElem_toList] at he2 hrun ⊢
    have hki : es[i].key = .string (l[i]'(by omega)) := by
      have hk2 : (es.toList.map (·.key))[i]? = (l.map Value.string)[i]? := by rw [hkeys]
      simp only [List.getElem?_map, Array.getElem?_toList, Array.getElem?_eq_getElem hie, Option.map_some] at hk2
      rw [List.getElem?_eq_getElem (by omega), Option.map_some] at hk2
      exact Option.some.inj hk2
    have hvl := repVs_len h4
    have hvl' : vs.length = es.size := by simpa using hvl.symm
    obtain ⟨u, hu1, hu2⟩ := repVs_get h4 (List.getElem?_eq_getElem (show i < vs.length by omega))
    simp only [List.getElem?_map, Array.getElem?_toList, Array.getElem?_eq_getElem hie, Option.map_some, Option.some.injEq] at hu1
    refine .inr ⟨i, l[i]'(by omega), vs[i]'(by omega), by omega, ?_, List.getElem?_eq_getElem _, List.getElem?_eq_getElem _, ?_⟩
    · rw [hbi] at he2; simpa using he2
    · unfold Oper.wp
      have : (execOp a.eval ⟨some d, .next x false, ty, pos, af, none⟩).run C.P w = .ok (.value (.tuple #[.bool true, es[i].key, es[i].val])) (setBlk w1 (G.blk gi) (.mapIter (some (G.blk gm)) n (seen ++ [i]).toArray n)) := by
        simp only [execOp, hev, Sem.run_bind, hrun, Result.andThen_ok, Sem.run_pure]
        simp only [hbi, hes]
        congr 1
        simp only [ChangeMaps.setBlock, setBlk]
        congr 2
        simp
      rw [this, Oper.upon_value]
      have S1 := S.draws hw1
      have hhe : w1.heap = w.heap := by rcases hw1 with rfl | rfl <;> rfl
      have hle1 : Le w G.I w1 G.I := fun b o h => ⟨h, kp_of_block (by rw [hhe])⟩
      have S2 := S1.turnOG (g := gi) (X' := .itr gm n (seen ++ [i])) (o' := .mapIter (some (G.blk gm)) n (seen ++ [i]).toArray n) ⟨ho1.1, by rw [hhe]; exact ho1.2⟩ hi2 (by rw [hg]; simp [ownsB]) (fun b h => by simpa only [ownsB] using h) (fun hle => by
        simp only [Holds]
        exact ⟨⟨ho1.1, by rw [setBlk_size, hhe]; exact ho1.2⟩, setBlk_get (by rw [hhe]; exact ho1.2), hi2⟩)
      rw [upd_look] at S2
      have hle2 : Le w1 G.I (setBlk w1 (G.blk gi) (.mapIter (some (G.blk gm)) n (seen ++ [i]).toArray n)) G.I := fun b o h => ⟨h, by
        have : b ≠ G.blk gi := by rintro rfl; exact hi2 o h
        exact kp_of_block (setBlk_ne this)⟩
      have S3 := S2.put (d := d) hN' (x := .tup [.imm (.v (.bool true)), .imm (.v (.string (l[i]'(by omega)))), .imm (vs[i]'(by omega))]) (v := .tuple #[.bool true, es[i].key, es[i].val]) (by
        simp only [SlotS]
        refine ⟨[.bool true, es[i].key, es[i].val], rfl, .bool true, _, rfl, valS_imm.2 (rep_p _ _ rfl), es[i].key, _, rfl, valS_imm.2 (by rw [hki]; exact rep_p _ _ rfl), es[i].val, [], rfl, valS_imm.2 ?_, rfl⟩
        rw [hu1]; exact hu2.mono (hle1.trans hle2))
      rw [upd_look] at S3
      exact ⟨G, S3⟩

theorem aw_next {id : Nat} {ops : Array Oper} {os : List Oper} {st : St} {Q : Exit → St → Prop} {gi gm n : Nat} {seen : List Nat} {l : List ByteArray} {vs : List AV} (hl : ops.toList = ⟨some d, .next x false, ty, pos, af, none⟩ :: os)
    (hN : Nat.blt d C.N = true) (hx : opS (look st) x = .ptr gi 0) (hg : look st gi = .itr gm n seen) (hm : look st gm = .mpr (strs l) vs) (hn : Nat.beq n l.length = true) (hgN : Nat.ble C.N gi = true)
    (hdone : (∀ i, i < n → i ∈ seen) → Go1 C ops os ((d, .tup [.imm (.v (.bool false))]) :: st) [] (fun st' _ => Q .normal st'))
    (hmore : ∀ i s v, i < n → i ∉ seen → l[i]? = some s → vs[i]? = some v → Go1 C ops os ((d, .tup [.imm (.v (.bool true)), .imm (.v (.string s)), .imm v]) :: (gi, .itr gm n (seen ++ [i])) :: st) [] (fun st' _ => Q .normal st')) :
    AW C (.region id ops false) st Q := by
  refine aw_first hl rfl fun a w S => ?_
  rcases wp_next (ty := ty) (pos := pos) (af := af) S hN hx hg hm hn hgN with ⟨h1, h2⟩ | ⟨i, s, v, h1, h2, h3, h4, h5⟩
  · exact ⟨_, h2, hdone h1⟩
  · exact ⟨_, h5, hmore i s v h1 h2 h3 h4⟩
end
end Go.Al
namespace Go.Al
section
variable {C : Cx} {A : Nat → SV} {d : Nat} {ty : TypeId} {pos : String} {af : Array Edge} {gd : Option (Nat × Bool)} {x : Operand}
/-- What the step has handed out. -/
theorem s_entry {gi gm n i : Nat} {seen : List Nat} {l : List ByteArray} {vs : List AV} {s : ByteArray} {v : AV} (hN : Nat.blt d C.N = true) (hx : opS A x = .ptr gi 0) (hg : A gi = .itr gm n (seen ++ [i])) (hm : A gm = .mpr (strs l) vs) (hn : Nat.beq n l.length = true) (hs : l[i]? = some s) (hv : vs[i]? = some v) :
    StepU C ⟨some d, .entry x, ty, pos, af, gd⟩ (gi :: gm :: opR x) [] A [(d, .tup [.imm (.v (.string s)), .imm v])] := by
  refine StepU.value rfl hN fun A' G a w hR S => ?_
  have hgA : A' gi = .itr gm n (seen ++ [i]) := (hR gi (by simp)).trans hg
  have hmA : A' gm = .mpr (strs l) vs := (hR gm (by simp)).trans hm
  have hn' : n = l.length := Nat.eq_of_beq_eq_true hn
  obtain ⟨c, hc1, hc2⟩ := S.opS ((opS_congr (fun k hk => hR k (List.mem_cons_of_mem _ (List.mem_cons_of_mem _ hk)))).trans hx) rfl
  simp only [RepS] at hc1
  have hev : a.eval x = .pointer (some ⟨G.blk gi, 0, none⟩) := by rw [hc2, hc1]; rfl
  have hi := S.holds gi
  rw [hgA] at hi
  simp only [Holds] at hi
  obtain ⟨ho1, hi1, hi2⟩ := hi
  have hb := S.holds gm
  rw [hmA] at hb
  simp only [Holds] at hb
  obtain ⟨ho2, ⟨es, h1, h2, h3, h4⟩, hni⟩ := hb
  have hkeys : es.toList.map (·.key) = l.map Value.string := repVs_strs h3
  have hlen : es.size = l.length := by have := congrArg List.length hkeys; simpa using this
  have hil : i < l.length := (List.getElem?_eq_some_iff.1 hs).1
  have hie : i < es.size := by omega
  have hki : es[i].key = .string s := by
    have hk2 : (es.toList.map (·.key))[i]? = (l.map Value.string)[i]? := by rw [hkeys]
    simp only [List.getElem?_map, Array.getElem?_toList, Array.getElem?_eq_getElem hie, Option.map_some, hs] at hk2
    exact Option.some.inj hk2
  obtain ⟨u, hu1, hu2⟩ := repVs_get h4 hv
  simp only [List.getElem?_map, Array.getElem?_toList, Array.getElem?_eq_getElem hie, Option.map_some, Option.some.injEq] at hu1
  have hnd : (es.toList.map (·.born)).Nodup := by
    have : es.toList.map (·.born) = List.range es.size := by
      refine List.ext_getElem (by simp) fun j h5 h6 => ?_
      have : j < es.size := by simpa using h5
      simp [h2 j this]
    rw [this]; exact List.nodup_range
  have hi1' : w.heap[G.blk gi]? = some (.mapIter (some (G.blk gm)) n (seen.toArray.push es[i].born) es.size) := by
    rw [hi1, h2 i hie, hn', hlen]; simp
  have hrun := run_entry_at (P := C.P) w (G.blk gi) (G.blk gm) n seen.toArray es es.size es[i] hi1' h1 (by simp) hnd
  refine ⟨.tuple #[es[i].key, es[i].val], ?_, ?_⟩
  · simp only [execOp, hev, Sem.run_bind, hrun, Result.andThen_ok, Sem.run_pure]
  · simp only [SlotS]
    exact ⟨[es[i].key, es[i].val], rfl, es[i].key, _, rfl, valS_imm.2 (by rw [hki]; exact rep_p _ _ rfl), es[i].val, [], rfl, valS_imm.2 (by rw [hu1]; exact hu2), rfl⟩
end
theorem look_row {st : St} {k : Nat} {l m : List ByteArray} (h : look st k = .row l) (e : l = m) : look st k = .row m := by rw [h, e]
theorem look_units {st : St} {k g n m : Nat} (h : look st k = .slg g 0 (units n)) (e : n = m) : look st k = .slg g 0 (units m) := by rw [h, e]
theorem look_itr {st : St} {k g n m : Nat} {s t : List Nat} (h : look st k = .itr g n s) (e : n = m) (e2 : s = t) : look st k = .itr g m t := by rw [h, e, e2]
theorem look_mpr {st : St} {k : Nat} {a a' b b' : List AV} (h : look st k = .mpr a b) (e : a = a') (e2 : b = b') : look st k = .mpr a' b' := by rw [h, e, e2]
theorem strs_length (l : List ByteArray) : (strs l).length = l.length := by simp [strs]
end Go.Al

namespace Go.Proofs
open Go Go.Al

theorem sameVs_ne {a b : List GV} (h : a ≠ b) : sameVs a b = false := by cases hs : sameVs a b; rfl; exact absurd ((sameVs_iff _ _).1 hs) h
theorem sameA_ne {a b : GA} (h : a ≠ b) : sameA a b = false := by cases hs : sameA a b; rfl; exact absurd ((sameA_iff _ _).1 hs) h
theorem sameA_refl (a : GA) : sameA a a = true := (sameA_iff a a).2 rfl
theorem sameVs_refl (a : List GV) : sameVs a a = true := (sameVs_iff a a).2 rfl

/-! ### How deep -/

/-! ### Keys met so far -/
theorem nodup_lt : ∀ (n : Nat) (s : List Nat), s.Nodup → (∀ i ∈ s, i < n) → s.length ≤ n
  | 0, s, _, h => by
    cases s with
    | nil => simp
    | cons x s => exact absurd (h x (by simp)) (by omega)
  | n + 1, s, hn, h => by
    by_cases hm : n ∈ s
    · have h1 := nodup_lt n (s.erase n) (hn.erase n) (fun i hi => by
        have h2 := h i (List.mem_of_mem_erase hi)
        have h3 := ((List.Nodup.mem_erase_iff hn).1 hi).1
        omega)
      have := List.length_erase_of_mem hm
      omega
    · have := nodup_lt n s hn (fun i hi => by
        have h1 := h i hi
        have : i ≠ n := by rintro rfl; exact hm hi
        omega)
      omega
def ksOf (l : List GA) (seen : List Nat) : List ByteArray := seen.map fun i => (mks l).getD i ⟨#[]⟩
theorem ksOf_snoc {l : List GA} {seen : List Nat} {q : Nat} {tx : ByteArray} (h : (mks l)[q]? = some tx) : ksOf l (seen ++ [q]) = ksOf l seen ++ [tx] := by
  simp only [ksOf, List.map_append, List.map_cons, List.map_nil, List.getD_eq_getElem?_getD, h, Option.getD_some]
theorem ksOf_len (l : List GA) (seen : List Nat) : (ksOf l seen).length = seen.length := by simp [ksOf]
theorem nodup_snoc {s : List Nat} {q : Nat} (h : s.Nodup) (hq : q ∉ s) : (s ++ [q]).Nodup := by
  rw [List.nodup_append]
  refine ⟨h, by simp, fun a ha b hb => ?_⟩
  simp at hb; subst hb; rintro rfl; exact hq ha
theorem look_key {l : List GA} {k : ByteArray} (h : k ∈ mks l) : ∃ p, mfind (mks l) k 0 = some p ∧ (mvs l)[p]? = some (iv (lastI l k : Int)) ∧ lastI l k < l.length := by
  cases hm : mfind (mks l) k 0 with
  | none => exact absurd h (mfind_none.1 hm)
  | some p =>
    have h1 := mfind_get hm
    simp only [Nat.sub_zero] at h1
    refine ⟨p, rfl, by unfold mvs; rw [List.getElem?_map, h1]; rfl, ?_⟩
    obtain ⟨j, hj⟩ := (mks_spec l k).1 h
    have := lastAt_lt hj
    unfold lastI
    rw [hj]; simp; omega
end Go.Proofs

namespace Go.Proofs
open Go Go.Al Go.Shelf
def Tryd.lays190_ren : Go.Shelf.Ren := ⟨fun | 190 => 89 | 125 => 125 | 258 => 124 | 128 => 151 | 129 => 152 | 302 => 142 | 303 => 143 | 304 => 144 | 305 => 145 | 306 => 146 | 307 => 147 | 308 => 148 | 309 => 149 | 310 => 150 | 333 => 172 | 329 => 173 | 330 => 174 | 334 => 175 | 335 => 176 | 336 => 177 | 344 => 186 | n => n, fun | 31 => 64 | 9 => 9 | 3 => 3 | 46 => 154 | 0 => 0 | 51 => 179 | 53 => 26 | 4 => 4 | 183 => 172 | 182 => 171 | 131 => 149 | 5 => 5 | 218 => 195 | 222 => 198 | 228 => 204 | 229 => 205 | n => n, fun | n => n⟩
theorem Tryd.lays190 : Go.Proofs.Lays.n190 Tryd.prog Tryd.lays190_ren := {
  mixed := by kernel_rfl
  f125 := Tryd.func125.trans (congrArg some (by kernel_rfl))
  f128 := Tryd.func151.trans (congrArg some (by kernel_rfl))
  f129 := Tryd.func152.trans (congrArg some (by kernel_rfl))
  f190 := Tryd.func89.trans (congrArg some (by kernel_rfl))
  f258 := Tryd.func124.trans (congrArg some (by kernel_rfl))
  f302 := Tryd.func142.trans (congrArg some (by kernel_rfl))
  f303 := Tryd.func143.trans (congrArg some (by kernel_rfl))
  f304 := Tryd.func144.trans (congrArg some (by kernel_rfl))
  f305 := Tryd.func145.trans (congrArg some (by kernel_rfl))
  f306 := Tryd.func146.trans (congrArg some (by kernel_rfl))
  f307 := Tryd.func147.trans (congrArg some (by kernel_rfl))
  f308 := Tryd.func148.trans (congrArg some (by kernel_rfl))
  f309 := Tryd.func149.trans (congrArg some (by kernel_rfl))
  f310 := Tryd.func150.trans (congrArg some (by kernel_rfl))
  f329 := Tryd.func173.trans (congrArg some (by kernel_rfl))
  f330 := Tryd.func174.trans (congrArg some (by kernel_rfl))
  f333 := Tryd.func172.trans (congrArg some (by kernel_rfl))
  f334 := Tryd.func175.trans (congrArg some (by kernel_rfl))
  f335 := Tryd.func176.trans (congrArg some (by kernel_rfl))
  f336 := Tryd.func177.trans (congrArg some (by kernel_rfl))
  f344 := Tryd.func186.trans (congrArg some (by kernel_rfl))
  t0 := Tryd.underlying0
  a0 := Tryd.isAgg0
  z0 := Tryd.sizeOf0
  v0 := Tryd.zeroValue0
  t3 := Tryd.underlying3
  a3 := Tryd.isAgg3
  z3 := Tryd.sizeOf3
  v3 := Tryd.zeroValue3
  t4 := Tryd.underlying4
  a4 := Tryd.isAgg4
  z4 := Tryd.sizeOf4
  v4 := Tryd.zeroValue4
  t5 := Tryd.underlying5
  a5 := Tryd.isAgg5
  z5 := Tryd.sizeOf5
  v5 := Tryd.zeroValue5
  t9 := Tryd.underlying9
  a9 := Tryd.isAgg9
  z9 := Tryd.sizeOf9
  v9 := Tryd.zeroValue9
  t31 := Tryd.underlying64
  a31 := Tryd.isAgg64
  z31 := Tryd.sizeOf64
  v31 := Tryd.zeroValue64
  t46 := Tryd.underlying154
  a46 := Tryd.isAgg154
  z46 := Tryd.sizeOf154
  v46 := Tryd.zeroValue154
  t51 := Tryd.underlying179
  a51 := Tryd.isAgg179
  z51 := Tryd.sizeOf179
  v51 := Tryd.zeroValue179
  t53 := Tryd.underlying26
  a53 := Tryd.isAgg26
  z53 := Tryd.sizeOf26
  v53 := Tryd.zeroValue26
  t131 := Tryd.underlying149
  a131 := Tryd.isAgg149
  z131 := Tryd.sizeOf149
  v131 := Tryd.zeroValue149
  t182 := Tryd.underlying171
  a182 := Tryd.isAgg171
  z182 := Tryd.sizeOf171
  v182 := Tryd.zeroValue171
  t183 := Tryd.underlying172
  a183 := Tryd.isAgg172
  z183 := Tryd.sizeOf172
  v183 := Tryd.zeroValue172
  t218 := Tryd.underlying195
  a218 := Tryd.isAgg195
  z218 := Tryd.sizeOf195
  v218 := Tryd.zeroValue195
  t222 := Tryd.underlying198
  a222 := Tryd.isAgg198
  z222 := Tryd.sizeOf198
  v222 := Tryd.zeroValue198
  t228 := Tryd.underlying204
  a228 := Tryd.isAgg204
  z228 := Tryd.sizeOf204
  v228 := Tryd.zeroValue204
  t229 := Tryd.underlying205
  a229 := Tryd.isAgg205
  z229 := Tryd.sizeOf205
  v229 := Tryd.zeroValue205 }
theorem sort_c : SortC Tryd.prog Γ0 89 where
  call := by kernel_rfl
  sorts := fun blk cap ss w hH hb hs => Any.slices_Sort_string Tryd.lays190 blk 0 cap ss w hH hb hs
  empty := ⟨by kernel_rfl, fun w I args hv hg hr => by
    simp only [RepVs] at hr
    obtain ⟨cc, r, rfl, h1, rfl⟩ := hr
    have e : mkV (.v (.slice none 0 0)) cc = .slice none 0 0 := by
      simp only [RepC] at h1
      rw [h1.1]; rfl
    rw [e]
    refine (Any.slices_Sort_string_none Tryd.lays190 none 0 w).mono ?_
    rintro e w' ⟨rfl, rfl⟩
    exact ⟨_, I, rfl, RowKit.Below.refl _ _, Le.refl _ _, fun b o h => .inl h, hv, [], rfl, by simp only [RepVs]⟩⟩
end Go.Proofs

namespace Go.Proofs
open Go Go.Al
set_option maxRecDepth 10000
set_option maxHeartbeats 1000000 in
theorem eqfV_c (a b : List GV) (fn : FuncId) (hl : a.length ≤ 1000000000) (hf : ∀ x ∈ a, ∀ y : GV, PCall Tryd.prog Γ0 fn ([] ++ [x.av, y.av] ++ []) [bv (sameV x y)]) : PCall Tryd.prog Γ0 123 [(.sl 6 (a.map avV)), (.sl 6 (b.map avV)), .fn (.func fn) [] []] [bv (sameVs a b)] := by
  refine pcall_of Tryd.func123 rfl Tryd.ntmps123 (by kernel_rfl) rfl fun w0 I0 G0 => ?_
  refine aw_seq ?_
  refine aw_region ?_
  refine g_u (s_as_imm rfl rfl) ?_
  refine g_nil ?_
  refine normal_thn ?_
  refine aw_seq ?_
  refine aw_seq ?_
  refine aw_region ?_
  refine g_u (s_mv_imm rfl rfl) ?_
  refine g_u (s_lenL rfl rfl Tryd.underlying74) ?_
  refine g_u (s_mv_imm rfl rfl) ?_
  refine g_u (s_lenL rfl rfl Tryd.underlying74) ?_
  refine g_u (s_neI rfl rfl rfl) ?_
  refine g_nil ?_
  refine normal_thn ?_
  refine aw_cond rfl (fun hb1 => ?_) (fun hb1 => ?_)
  · skip
    have q : ¬ a.length = b.length := by have e := bne_iff_ne.1 hb1; simp only [List.length_map] at e; omega
    refine aw_seq ?_
    refine aw_region ?_
    refine g_u (s_as_imm rfl rfl) ?_
    refine g_nil ?_
    refine normal_thn ?_
    refine aw_ret ?_
    refine ret_thn ?_
    exact ⟨⟨(rfl : toAV (Al.look _ _) = some _).trans (congrArg some (by (exact congrArg bv (by first | exact (sameVs_ne (fun e => q (by rw [e]))).symm | exact ((sameVs_iff _ _).2 (ext_nth v0 el (fun j hj => h2 j (by omega)))).symm)))), rfl⟩, trivial⟩
  · skip
    have el : a.length = b.length := by have e := bne_eq_false_iff_eq.1 hb1; simp only [List.length_map] at e; omega
    refine aw_skip ?_
    refine normal_thn ?_
    refine aw_seq ?_
    refine aw_seq ?_
    refine aw_region ?_
    refine g_u (s_mv_imm rfl rfl) ?_
    refine g_u (s_lenL rfl rfl Tryd.underlying74) ?_
    refine g_u (s_mv_imm rfl rfl) ?_
    refine g_nil ?_
    refine normal_thn ?_
    refine aw_block ?_
    refine aw_loop' (fun i : Nat => [(1, .imm (.sl 6 (b.map avV))), (2, .imm (.fn (.func fn) [] [])), (15, .imm (.sl 6 (a.map avV))), (16, .imm (iv (a.length : Int))), (17, .imm (iv (i : Int)))]) (fun i => i ≤ a.length ∧ ∀ j, j < i → nth a j v0 = nth b j v0) (fun i => a.length - i) (0) ?_ ⟨rfl, rfl, rfl, look_int rfl (by rw [List.length_map]), rfl, trivial⟩ ?_
    · exact ⟨Nat.zero_le _, fun j h => absurd h (Nat.not_lt_zero _)⟩
    · rintro i ⟨h1, h2⟩; (try dsimp only at h1 h2)
      refine aw_seq ?_
      refine aw_region ?_
      refine g_u (s_ltI rfl rfl rfl) ?_
      refine g_nil ?_
      refine normal_thn ?_
      refine aw_seq ?_
      refine aw_cond rfl (fun hb2 => ?_) (fun hb2 => ?_)
      · skip
        have hi : i < a.length := by have := of_decide_eq_true hb2; (try simp only [List.length_map] at this); omega
        have hib : i < b.length := by omega
        refine aw_skip ?_
        refine normal_thn ?_
        refine aw_seq ?_
        refine aw_block ?_
        refine aw_seq ?_
        refine aw_region ?_
        refine g_u (s_mv_imm rfl rfl) ?_
        refine g_u (s_indexAddr rfl rfl rfl Tryd.underlying74 tS76 (by omega) (ixV hi)) ?_
        refine g_u (s_load_cp rfl rfl tA76 tS76 rfl rfl) ?_
        refine g_uG (s_alloc' 1008 rfl rfl rfl tZ76) rfl ?_
        refine g_u (s_as_imm rfl rfl) ?_
        refine g_u (s_store_imm rfl rfl rfl tS76 rfl rfl) ?_
        refine g_nil ?_
        refine normal_thn ?_
        refine aw_seq ?_
        refine aw_region ?_
        refine g_u (s_mv_imm rfl rfl) ?_
        refine g_u (s_mv_imm rfl rfl) ?_
        refine g_u (s_indexAddr rfl rfl rfl Tryd.underlying74 tS76 (by omega) (ixV hib)) ?_
        refine g_u (s_load_cp rfl rfl tA76 tS76 rfl rfl) ?_
        refine g_uG (s_alloc' 1009 rfl rfl rfl tZ76) rfl ?_
        refine g_u (s_store_imm rfl rfl rfl tS76 rfl rfl) ?_
        refine g_nil ?_
        refine normal_thn ?_
        refine aw_seq ?_
        refine aw_region ?_
        refine g_u (s_mv_imm rfl rfl) ?_
        refine g_u (s_load_agg rfl rfl rfl tA76 tS76 rfl rfl) ?_
        refine g_u (s_load_agg rfl rfl rfl tA76 tS76 rfl rfl) ?_
        refine g_u (s_callv1 (hf _ (nthV_mem hi) _) rfl rfl rfl) ?_
        refine g_u (s_not rfl rfl) ?_
        refine g_nil ?_
        refine normal_thn ?_
        refine aw_cond rfl (fun hb3 => ?_) (fun hb3 => ?_)
        · skip
          have q : ¬ nthV a i = nthV b i := fun h => by have e := hb3; rw [h, sameV_refl] at e; cases e
          refine aw_seq ?_
          refine aw_region ?_
          refine g_u (s_as_imm rfl rfl) ?_
          refine g_nil ?_
          refine normal_thn ?_
          refine aw_ret ?_
          refine ret_blk ?_
          refine ret_thn ?_
          refine ret_thn ?_
          refine ret_blk ?_
          refine ret_thn ?_
          exact ⟨⟨(rfl : toAV (Al.look _ _) = some _).trans (congrArg some (by (exact congrArg bv (by first | exact (sameVs_ne (fun e => q (by rw [e]))).symm | exact ((sameVs_iff _ _).2 (ext_nth v0 el (fun j hj => h2 j (by omega)))).symm)))), rfl⟩, trivial⟩
        · skip
          have ev : nthV a i = nthV b i := (sameV_iff _ _).1 (by have e := hb3; simpa using e)
          refine aw_skip ?_
          refine normal_blk ?_
          refine normal_thn ?_
          refine aw_region ?_
          refine g_u (s_add rfl rfl rfl) ?_
          refine g_u (s_mv_imm rfl rfl) ?_
          refine g_nil ?_
          refine normal_thn ?_
          refine ⟨i + 1, ⟨hi, fun j hj => by rcases Nat.lt_or_ge j i with h | h; exact h2 j h; rw [show j = i by omega]; exact ev⟩, ⟨rfl, rfl, rfl, rfl, look_int rfl (by rw [wrap64 (by omega) (by omega)]; rfl), trivial⟩, by (try dsimp only); omega⟩
      · skip
        have hin : i = a.length := by have := of_decide_eq_false hb2; (try simp only [List.length_map] at this); omega
        refine aw_exit ?_
        refine exit_thn ?_
        refine exit_thn ?_
        refine exit_blk ?_
        refine normal_thn ?_
        refine aw_seq ?_
        refine aw_region ?_
        refine g_u (s_as_imm rfl rfl) ?_
        refine g_nil ?_
        refine normal_thn ?_
        refine aw_ret ?_
        exact ⟨⟨(rfl : toAV (Al.look _ _) = some _).trans (congrArg some (by (exact congrArg bv (by first | exact (sameVs_ne (fun e => q (by rw [e]))).symm | exact ((sameVs_iff _ _).2 (ext_nth v0 el (fun j hj => h2 j (by omega)))).symm)))), rfl⟩, trivial⟩

set_option maxHeartbeats 1000000 in
theorem eqfA_c (a b : List GA) (fn : FuncId) (hl : a.length ≤ 1000000000) (hf : ∀ x ∈ a, ∀ y : GA, PCall Tryd.prog Γ0 fn ([] ++ [x.av, y.av] ++ []) [bv (sameA x y)]) : PCall Tryd.prog Γ0 85 [(.sl 7 (a.map avA)), (.sl 7 (b.map avA)), .fn (.func fn) [] []] [bv (sameAs a b)] := by
  refine pcall_of Tryd.func85 rfl Tryd.ntmps85 (by kernel_rfl) rfl fun w0 I0 G0 => ?_
  refine aw_seq ?_
  refine aw_region ?_
  refine g_u (s_as_imm rfl rfl) ?_
  refine g_nil ?_
  refine normal_thn ?_
  refine aw_seq ?_
  refine aw_seq ?_
  refine aw_region ?_
  refine g_u (s_mv_imm rfl rfl) ?_
  refine g_u (s_lenL rfl rfl Tryd.underlying27) ?_
  refine g_u (s_mv_imm rfl rfl) ?_
  refine g_u (s_lenL rfl rfl Tryd.underlying27) ?_
  refine g_u (s_neI rfl rfl rfl) ?_
  refine g_nil ?_
  refine normal_thn ?_
  refine aw_cond rfl (fun hb1 => ?_) (fun hb1 => ?_)
  · skip
    have q : ¬ a.length = b.length := by have e := bne_iff_ne.1 hb1; simp only [List.length_map] at e; omega
    refine aw_seq ?_
    refine aw_region ?_
    refine g_u (s_as_imm rfl rfl) ?_
    refine g_nil ?_
    refine normal_thn ?_
    refine aw_ret ?_
    refine ret_thn ?_
    exact ⟨⟨(rfl : toAV (Al.look _ _) = some _).trans (congrArg some (by (exact congrArg bv (by first | exact (sameAs_ne (fun e => q (by rw [e]))).symm | exact ((sameAs_iff _ _).2 (ext_nth a0 el (fun j hj => h2 j (by omega)))).symm)))), rfl⟩, trivial⟩
  · skip
    have el : a.length = b.length := by have e := bne_eq_false_iff_eq.1 hb1; simp only [List.length_map] at e; omega
    refine aw_skip ?_
    refine normal_thn ?_
    refine aw_seq ?_
    refine aw_seq ?_
    refine aw_region ?_
    refine g_u (s_mv_imm rfl rfl) ?_
    refine g_u (s_lenL rfl rfl Tryd.underlying27) ?_
    refine g_u (s_mv_imm rfl rfl) ?_
    refine g_nil ?_
    refine normal_thn ?_
    refine aw_block ?_
    refine aw_loop' (fun i : Nat => [(1, .imm (.sl 7 (b.map avA))), (2, .imm (.fn (.func fn) [] [])), (15, .imm (.sl 7 (a.map avA))), (16, .imm (iv (a.length : Int))), (17, .imm (iv (i : Int)))]) (fun i => i ≤ a.length ∧ ∀ j, j < i → nth a j a0 = nth b j a0) (fun i => a.length - i) (0) ?_ ⟨rfl, rfl, rfl, look_int rfl (by rw [List.length_map]), rfl, trivial⟩ ?_
    · exact ⟨Nat.zero_le _, fun j h => absurd h (Nat.not_lt_zero _)⟩
    · rintro i ⟨h1, h2⟩; (try dsimp only at h1 h2)
      refine aw_seq ?_
      refine aw_region ?_
      refine g_u (s_ltI rfl rfl rfl) ?_
      refine g_nil ?_
      refine normal_thn ?_
      refine aw_seq ?_
      refine aw_cond rfl (fun hb2 => ?_) (fun hb2 => ?_)
      · skip
        have hi : i < a.length := by have := of_decide_eq_true hb2; (try simp only [List.length_map] at this); omega
        have hib : i < b.length := by omega
        refine aw_skip ?_
        refine normal_thn ?_
        refine aw_seq ?_
        refine aw_block ?_
        refine aw_seq ?_
        refine aw_region ?_
        refine g_u (s_mv_imm rfl rfl) ?_
        refine g_u (s_indexAddr rfl rfl rfl Tryd.underlying27 tS78 (by omega) (ixA hi)) ?_
        refine g_u (s_load_cp rfl rfl tA78 tS78 rfl rfl) ?_
        refine g_uG (s_alloc' 1008 rfl rfl rfl tZ78) rfl ?_
        refine g_u (s_as_imm rfl rfl) ?_
        refine g_u (s_store_imm rfl rfl rfl tS78 rfl rfl) ?_
        refine g_nil ?_
        refine normal_thn ?_
        refine aw_seq ?_
        refine aw_region ?_
        refine g_u (s_mv_imm rfl rfl) ?_
        refine g_u (s_mv_imm rfl rfl) ?_
        refine g_u (s_indexAddr rfl rfl rfl Tryd.underlying27 tS78 (by omega) (ixA hib)) ?_
        refine g_u (s_load_cp rfl rfl tA78 tS78 rfl rfl) ?_
        refine g_uG (s_alloc' 1009 rfl rfl rfl tZ78) rfl ?_
        refine g_u (s_store_imm rfl rfl rfl tS78 rfl rfl) ?_
        refine g_nil ?_
        refine normal_thn ?_
        refine aw_seq ?_
        refine aw_region ?_
        refine g_u (s_mv_imm rfl rfl) ?_
        refine g_u (s_load_agg rfl rfl rfl tA78 tS78 rfl rfl) ?_
        refine g_u (s_load_agg rfl rfl rfl tA78 tS78 rfl rfl) ?_
        refine g_u (s_callv1 (hf _ (nthA_mem hi) _) rfl rfl rfl) ?_
        refine g_u (s_not rfl rfl) ?_
        refine g_nil ?_
        refine normal_thn ?_
        refine aw_cond rfl (fun hb3 => ?_) (fun hb3 => ?_)
        · skip
          have q : ¬ nthA a i = nthA b i := fun h => by have e := hb3; rw [h, sameA_refl] at e; cases e
          refine aw_seq ?_
          refine aw_region ?_
          refine g_u (s_as_imm rfl rfl) ?_
          refine g_nil ?_
          refine normal_thn ?_
          refine aw_ret ?_
          refine ret_blk ?_
          refine ret_thn ?_
          refine ret_thn ?_
          refine ret_blk ?_
          refine ret_thn ?_
          exact ⟨⟨(rfl : toAV (Al.look _ _) = some _).trans (congrArg some (by (exact congrArg bv (by first | exact (sameAs_ne (fun e => q (by rw [e]))).symm | exact ((sameAs_iff _ _).2 (ext_nth a0 el (fun j hj => h2 j (by omega)))).symm)))), rfl⟩, trivial⟩
        · skip
          have ev : nthA a i = nthA b i := (sameA_iff _ _).1 (by have e := hb3; simpa using e)
          refine aw_skip ?_
          refine normal_blk ?_
          refine normal_thn ?_
          refine aw_region ?_
          refine g_u (s_add rfl rfl rfl) ?_
          refine g_u (s_mv_imm rfl rfl) ?_
          refine g_nil ?_
          refine normal_thn ?_
          refine ⟨i + 1, ⟨hi, fun j hj => by rcases Nat.lt_or_ge j i with h | h; exact h2 j h; rw [show j = i by omega]; exact ev⟩, ⟨rfl, rfl, rfl, rfl, look_int rfl (by rw [wrap64 (by omega) (by omega)]; rfl), trivial⟩, by (try dsimp only); omega⟩
      · skip
        have hin : i = a.length := by have := of_decide_eq_false hb2; (try simp only [List.length_map] at this); omega
        refine aw_exit ?_
        refine exit_thn ?_
        refine exit_thn ?_
        refine exit_blk ?_
        refine normal_thn ?_
        refine aw_seq ?_
        refine aw_region ?_
        refine g_u (s_as_imm rfl rfl) ?_
        refine g_nil ?_
        refine normal_thn ?_
        refine aw_ret ?_
        exact ⟨⟨(rfl : toAV (Al.look _ _) = some _).trans (congrArg some (by (exact congrArg bv (by first | exact (sameAs_ne (fun e => q (by rw [e]))).symm | exact ((sameAs_iff _ _).2 (ext_nth a0 el (fun j hj => h2 j (by omega)))).symm)))), rfl⟩, trivial⟩

set_option maxHeartbeats 400000 in
theorem psameA_st (a b : GA) (ih : PCall Tryd.prog Γ0 87 [a.val.av, b.val.av] [bv (sameV a.val b.val)]) : PCall Tryd.prog Γ0 86 [a.av, b.av] [bv (sameA a b)] := by
  refine pcall_of Tryd.func86 rfl Tryd.ntmps86 (by kernel_rfl) rfl fun w0 I0 G0 => ?_
  refine aw_seq ?_
  refine aw_region ?_
  refine g_uG (s_box_imm 1002 rfl rfl rfl rfl) rfl ?_
  refine g_uG (s_box_imm 1003 rfl rfl rfl rfl) rfl ?_
  refine g_u (s_as_imm rfl rfl) ?_
  refine g_nil ?_
  refine normal_thn ?_
  refine aw_seq ?_
  refine aw_region ?_
  refine g_u (s_fieldAddr rfl rfl fa78_0 rfl) ?_
  refine g_u (s_load_imm rfl rfl rfl tA9 tS9 rfl rfl) ?_
  refine g_u (s_fieldAddr rfl rfl fa78_0 rfl) ?_
  refine g_u (s_load_imm rfl rfl rfl tA9 tS9 rfl rfl) ?_
  refine g_u (s_eqS rfl rfl rfl) ?_
  refine g_u (s_mv_imm rfl rfl) ?_
  refine g_case (t := 10) rfl ?_
  rintro (hb1 | hb1)
  · rw [hb1]
    have ek : a.key = b.key := by have e := hb1; rw [str_beq] at e; exact of_decide_eq_true e
    refine g_run rfl rfl (s_fieldAddr rfl rfl fa78_1 rfl) ?_
    refine g_run rfl rfl (s_load_imm rfl rfl rfl tA76 tS76 rfl rfl) ?_
    refine g_run rfl rfl (s_fieldAddr rfl rfl fa78_1 rfl) ?_
    refine g_run rfl rfl (s_load_imm rfl rfl rfl tA76 tS76 rfl rfl) ?_
    refine g_run rfl rfl (s_call1 (ih) rfl rfl) ?_
    refine g_u (s_pick_t rfl rfl rfl) ?_
    refine g_u (s_as_imm rfl rfl) ?_
    refine g_nil ?_
    refine normal_thn ?_
    refine aw_ret ?_
    exact ⟨⟨(rfl : toAV (Al.look _ _) = some _).trans (congrArg some (by (exact congrArg bv (by first | exact (sameA_ne (fun e => q (by rw [e]))).symm | (rw [Bool.eq_iff_iff, sameV_iff, sameA_iff]; exact ⟨fun h => GA.ext' ek h, fun h => by rw [h]⟩))))), rfl⟩, trivial⟩
  · rw [hb1]
    have q : ¬ a.key = b.key := by have e := hb1; rw [str_beq] at e; exact of_decide_eq_false e
    refine g_skip rfl rfl rfl ?_
    refine g_skip rfl rfl rfl ?_
    refine g_skip rfl rfl rfl ?_
    refine g_skip rfl rfl rfl ?_
    refine g_skip rfl rfl rfl ?_
    refine g_u (s_pick_f rfl rfl rfl) ?_
    refine g_u (s_as_imm rfl rfl) ?_
    refine g_nil ?_
    refine normal_thn ?_
    refine aw_ret ?_
    exact ⟨⟨(rfl : toAV (Al.look _ _) = some _).trans (congrArg some (by (exact congrArg bv (by first | exact (sameA_ne (fun e => q (by rw [e]))).symm | (rw [Bool.eq_iff_iff, sameV_iff, sameA_iff]; exact ⟨fun h => GA.ext' ek h, fun h => by rw [h]⟩))))), rfl⟩, trivial⟩

set_option maxHeartbeats 400000 in
theorem psameAs_st (a b : List GA) (hl : a.length ≤ 1000000000) (ih : ∀ x ∈ a, ∀ y : GA, PCall Tryd.prog Γ0 87 [x.val.av, y.val.av] [bv (sameV x.val y.val)]) : PCall Tryd.prog Γ0 40 [.sl 7 (a.map avA), .sl 7 (b.map avA)] [bv (sameAs a b)] := by
  refine pcall_of Tryd.func40 rfl Tryd.ntmps40 (by kernel_rfl) rfl fun w0 I0 G0 => ?_
  refine aw_seq ?_
  refine aw_region ?_
  refine g_u (s_as_imm rfl rfl) ?_
  refine g_nil ?_
  refine normal_thn ?_
  refine aw_seq ?_
  refine aw_region ?_
  refine g_u (s_mv_imm rfl rfl) ?_
  refine g_u (s_mv_imm rfl rfl) ?_
  refine g_u (s_call1 (eqfA_c a b 86 hl (fun x hx y => psameA_st x y (ih x hx y))) rfl rfl) ?_
  refine g_u (s_as_imm rfl rfl) ?_
  refine g_nil ?_
  refine normal_thn ?_
  refine aw_ret ?_
  exact ⟨⟨(rfl : toAV (Al.look _ _) = some _).trans (congrArg some (by rfl)), rfl⟩, trivial⟩

set_option maxHeartbeats 2000000 in
theorem psameV_st (a b : GV) (ihl : PCall Tryd.prog Γ0 123 [.sl 6 (a.list.map avV), .sl 6 (b.list.map avV), .fn (.func 87) [] []] [bv (sameVs a.list b.list)]) (ihm : PCall Tryd.prog Γ0 40 [.sl 7 (a.map.map avA), .sl 7 (b.map.map avA)] [bv (sameAs a.map b.map)]) : PCall Tryd.prog Γ0 87 [a.av, b.av] [bv (sameV a b)] := by
  refine pcall_of Tryd.func87 rfl Tryd.ntmps87 (by kernel_rfl) rfl fun w0 I0 G0 => ?_
  refine aw_seq ?_
  refine aw_region ?_
  refine g_uG (s_box_imm 1002 rfl rfl rfl rfl) rfl ?_
  refine g_uG (s_box_imm 1003 rfl rfl rfl rfl) rfl ?_
  refine g_u (s_as_imm rfl rfl) ?_
  refine g_nil ?_
  refine normal_thn ?_
  refine aw_seq ?_
  refine aw_seq ?_
  refine aw_region ?_
  refine g_u (s_fieldAddr rfl rfl fa76_0 rfl) ?_
  refine g_u (s_load_imm rfl rfl rfl tA5 tS5 rfl rfl) ?_
  refine g_u (s_fieldAddr rfl rfl fa76_0 rfl) ?_
  refine g_u (s_load_imm rfl rfl rfl tA5 tS5 rfl rfl) ?_
  refine g_u (s_neI rfl rfl rfl) ?_
  refine g_u (s_mv_imm rfl rfl) ?_
  refine g_case (t := 10) rfl ?_
  rintro (hb1 | hb1)
  · rw [hb1]
    have q : ¬ a.kind = b.kind := bne_iff_ne.1 hb1
    refine g_skip rfl rfl rfl ?_
    refine g_skip rfl rfl rfl ?_
    refine g_skip rfl rfl rfl ?_
    refine g_skip rfl rfl rfl ?_
    refine g_skip rfl rfl rfl ?_
    refine g_u (s_pick_t rfl rfl rfl) ?_
    refine g_u (s_mv_imm rfl rfl) ?_
    refine g_skip rfl rfl rfl ?_
    refine g_skip rfl rfl rfl ?_
    refine g_skip rfl rfl rfl ?_
    refine g_skip rfl rfl rfl ?_
    refine g_skip rfl rfl rfl ?_
    refine g_u (s_pick_t rfl rfl rfl) ?_
    refine g_u (s_mv_imm rfl rfl) ?_
    refine g_skip rfl rfl rfl ?_
    refine g_skip rfl rfl rfl ?_
    refine g_skip rfl rfl rfl ?_
    refine g_skip rfl rfl rfl ?_
    refine g_skip rfl rfl rfl ?_
    refine g_u (s_pick_t rfl rfl rfl) ?_
    refine g_nil ?_
    refine normal_thn ?_
    refine aw_cond_true rfl ?_
    refine aw_seq ?_
    refine aw_region ?_
    refine g_u (s_as_imm rfl rfl) ?_
    refine g_nil ?_
    refine normal_thn ?_
    refine aw_ret ?_
    refine ret_thn ?_
    exact ⟨⟨(rfl : toAV (Al.look _ _) = some _).trans (congrArg some (by (exact congrArg bv (by first | exact (sameV_ne (fun e => q (by rw [e]))).symm | exact sameV_map e1 e2 e3 e4 e5)))), rfl⟩, trivial⟩
  · rw [hb1]
    have e1 : a.kind = b.kind := bne_eq_false_iff_eq.1 hb1
    refine g_run rfl rfl (s_fieldAddr rfl rfl fa76_1 rfl) ?_
    refine g_run rfl rfl (s_load_imm rfl rfl rfl tA9 tS9 rfl rfl) ?_
    refine g_run rfl rfl (s_fieldAddr rfl rfl fa76_1 rfl) ?_
    refine g_run rfl rfl (s_load_imm rfl rfl rfl tA9 tS9 rfl rfl) ?_
    refine g_run rfl rfl (s_neS rfl rfl rfl) ?_
    refine g_u (s_pick_f rfl rfl rfl) ?_
    refine g_u (s_mv_imm rfl rfl) ?_
    refine g_case (t := 17) rfl ?_
    rintro (hb2 | hb2)
    · rw [hb2]
      have q : ¬ a.text = b.text := by have e := hb2; rw [str_beq] at e; simpa using e
      refine g_skip rfl rfl rfl ?_
      refine g_skip rfl rfl rfl ?_
      refine g_skip rfl rfl rfl ?_
      refine g_skip rfl rfl rfl ?_
      refine g_skip rfl rfl rfl ?_
      refine g_u (s_pick_t rfl rfl rfl) ?_
      refine g_u (s_mv_imm rfl rfl) ?_
      refine g_skip rfl rfl rfl ?_
      refine g_skip rfl rfl rfl ?_
      refine g_skip rfl rfl rfl ?_
      refine g_skip rfl rfl rfl ?_
      refine g_skip rfl rfl rfl ?_
      refine g_u (s_pick_t rfl rfl rfl) ?_
      refine g_nil ?_
      refine normal_thn ?_
      refine aw_cond_true rfl ?_
      refine aw_seq ?_
      refine aw_region ?_
      refine g_u (s_as_imm rfl rfl) ?_
      refine g_nil ?_
      refine normal_thn ?_
      refine aw_ret ?_
      refine ret_thn ?_
      exact ⟨⟨(rfl : toAV (Al.look _ _) = some _).trans (congrArg some (by (exact congrArg bv (by first | exact (sameV_ne (fun e => q (by rw [e]))).symm | exact sameV_map e1 e2 e3 e4 e5)))), rfl⟩, trivial⟩
    · rw [hb2]
      have e2 : a.text = b.text := by have e := hb2; rw [str_beq] at e; simpa using e
      refine g_run rfl rfl (s_fieldAddr rfl rfl fa76_2 rfl) ?_
      refine g_run rfl rfl (s_load_imm rfl rfl rfl tA3 tS3 rfl rfl) ?_
      refine g_run rfl rfl (s_fieldAddr rfl rfl fa76_2 rfl) ?_
      refine g_run rfl rfl (s_load_imm rfl rfl rfl tA3 tS3 rfl rfl) ?_
      refine g_run rfl rfl (s_neI rfl rfl rfl) ?_
      refine g_u (s_pick_f rfl rfl rfl) ?_
      refine g_u (s_mv_imm rfl rfl) ?_
      refine g_case (t := 24) rfl ?_
      rintro (hb3 | hb3)
      · rw [hb3]
        have q : ¬ a.num = b.num := bne_iff_ne.1 hb3
        refine g_skip rfl rfl rfl ?_
        refine g_skip rfl rfl rfl ?_
        refine g_skip rfl rfl rfl ?_
        refine g_skip rfl rfl rfl ?_
        refine g_skip rfl rfl rfl ?_
        refine g_u (s_pick_t rfl rfl rfl) ?_
        refine g_nil ?_
        refine normal_thn ?_
        refine aw_cond_true rfl ?_
        refine aw_seq ?_
        refine aw_region ?_
        refine g_u (s_as_imm rfl rfl) ?_
        refine g_nil ?_
        refine normal_thn ?_
        refine aw_ret ?_
        refine ret_thn ?_
        exact ⟨⟨(rfl : toAV (Al.look _ _) = some _).trans (congrArg some (by (exact congrArg bv (by first | exact (sameV_ne (fun e => q (by rw [e]))).symm | exact sameV_map e1 e2 e3 e4 e5)))), rfl⟩, trivial⟩
      · rw [hb3]
        have e3 : a.num = b.num := bne_eq_false_iff_eq.1 hb3
        refine g_run rfl rfl (s_fieldAddr rfl rfl fa76_3 rfl) ?_
        refine g_run rfl rfl (s_load_imm rfl rfl rfl tA26 tS26 rfl rfl) ?_
        refine g_run rfl rfl (s_fieldAddr rfl rfl fa76_3 rfl) ?_
        refine g_run rfl rfl (s_load_imm rfl rfl rfl tA26 tS26 rfl rfl) ?_
        refine g_run rfl rfl (s_neI rfl rfl rfl) ?_
        refine g_u (s_pick_f rfl rfl rfl) ?_
        refine g_nil ?_
        refine normal_thn ?_
        refine aw_cond rfl (fun hb4 => ?_) (fun hb4 => ?_)
        · skip
          have q : ¬ a.bits = b.bits := bne_iff_ne.1 hb4
          refine aw_seq ?_
          refine aw_region ?_
          refine g_u (s_as_imm rfl rfl) ?_
          refine g_nil ?_
          refine normal_thn ?_
          refine aw_ret ?_
          refine ret_thn ?_
          exact ⟨⟨(rfl : toAV (Al.look _ _) = some _).trans (congrArg some (by (exact congrArg bv (by first | exact (sameV_ne (fun e => q (by rw [e]))).symm | exact sameV_map e1 e2 e3 e4 e5)))), rfl⟩, trivial⟩
        · skip
          have e4 : a.bits = b.bits := bne_eq_false_iff_eq.1 hb4
          refine aw_skip ?_
          refine normal_thn ?_
          refine aw_seq ?_
          refine aw_region ?_
          refine g_u (s_fieldAddr rfl rfl fa76_4 rfl) ?_
          refine g_u (s_load_imm rfl rfl rfl tA74 tS74 rfl rfl) ?_
          refine g_u (s_fieldAddr rfl rfl fa76_4 rfl) ?_
          refine g_u (s_load_imm rfl rfl rfl tA74 tS74 rfl rfl) ?_
          refine g_u (s_call1 (ihl) rfl rfl) ?_
          refine g_u (s_mv_imm rfl rfl) ?_
          refine g_case (t := 36) rfl ?_
          rintro (hb5 | hb5)
          · rw [hb5]
            have e5 : a.list = b.list := (sameVs_iff _ _).1 hb5
            refine g_run rfl rfl (s_fieldAddr rfl rfl fa76_5 rfl) ?_
            refine g_run rfl rfl (s_load_imm rfl rfl rfl tA27 tS27 rfl rfl) ?_
            refine g_run rfl rfl (s_fieldAddr rfl rfl fa76_5 rfl) ?_
            refine g_run rfl rfl (s_load_imm rfl rfl rfl tA27 tS27 rfl rfl) ?_
            refine g_run rfl rfl (s_call1 (ihm) rfl rfl) ?_
            refine g_u (s_pick_t rfl rfl rfl) ?_
            refine g_u (s_as_imm rfl rfl) ?_
            refine g_nil ?_
            refine normal_thn ?_
            refine aw_ret ?_
            exact ⟨⟨(rfl : toAV (Al.look _ _) = some _).trans (congrArg some (by (exact congrArg bv (by first | exact (sameV_ne (fun e => q (by rw [e]))).symm | exact sameV_map e1 e2 e3 e4 e5)))), rfl⟩, trivial⟩
          · rw [hb5]
            have q : ¬ a.list = b.list := fun h => by have e := hb5; rw [h, sameVs_refl] at e; cases e
            refine g_skip rfl rfl rfl ?_
            refine g_skip rfl rfl rfl ?_
            refine g_skip rfl rfl rfl ?_
            refine g_skip rfl rfl rfl ?_
            refine g_skip rfl rfl rfl ?_
            refine g_u (s_pick_f rfl rfl rfl) ?_
            refine g_u (s_as_imm rfl rfl) ?_
            refine g_nil ?_
            refine normal_thn ?_
            refine aw_ret ?_
            exact ⟨⟨(rfl : toAV (Al.look _ _) = some _).trans (congrArg some (by (exact congrArg bv (by first | exact (sameV_ne (fun e => q (by rw [e]))).symm | exact sameV_map e1 e2 e3 e4 e5)))), rfl⟩, trivial⟩

theorem psameV_c (a : GV) : a.wt ≤ 1000000000 → ∀ b : GV, PCall Tryd.prog Γ0 87 [a.av, b.av] [bv (sameV a b)] := by
  refine GV.ind (P := fun a => a.wt ≤ 1000000000 → ∀ b : GV, PCall Tryd.prog Γ0 87 [a.av, b.av] [bv (sameV a b)]) ?_ a
  intro a h1 h2 hw b
  have ek := a.wt_eq
  have la := len_wtAs a.map
  have lv := len_wtVs a.list
  exact psameV_st a b (eqfV_c a.list b.list 87 (by omega) fun y hy z => h1 y hy (by have := wtVs_mem hy; omega) z) (psameAs_st a.map b.map (by omega) fun x hx y => h2 x hx (by have := wtAs_mem hx; have := x.wt_eq; omega) y.val)
theorem psameAs_c (a b : List GA) (hw : wtAs a ≤ 1000000000) : PCall Tryd.prog Γ0 40 [.sl 7 (a.map avA), .sl 7 (b.map avA)] [bv (sameAs a b)] := by
  have la := len_wtAs a
  exact psameAs_st a b (by omega) fun x hx y => psameV_c x.val (by have := wtAs_mem hx; have := x.wt_eq; omega) y.val

set_option maxHeartbeats 2000000 in
theorem pcanonAs_st (l : List GA) (hl : l.length ≤ 10000000) (ih : ∀ a ∈ l, PCall Tryd.prog Γ0 90 [a.val.av] [(canonV a.val).av]) : PCall Tryd.prog Γ0 46 [(.sl 7 (l.map avA))] [.sl 7 ((canonAs l).map avA)] := by
  refine pcall_of Tryd.func46 rfl Tryd.ntmps46 (by kernel_rfl) rfl fun w0 I0 G0 => ?_
  refine aw_seq ?_
  refine aw_region ?_
  refine g_u (s_as_imm rfl rfl) ?_
  refine g_nil ?_
  refine normal_thn ?_
  refine aw_seq ?_
  refine aw_region ?_
  refine g_uG (s_makeMap 1011 rfl rfl rfl) rfl ?_
  refine g_u (s_as_mref rfl rfl) ?_
  refine g_nil ?_
  refine normal_thn ?_
  refine aw_seq ?_
  refine aw_seq ?_
  refine aw_region ?_
  refine g_u (s_mv_imm rfl rfl) ?_
  refine g_u (s_lenL rfl rfl Tryd.underlying27) ?_
  refine g_u (s_mv_imm rfl rfl) ?_
  refine g_nil ?_
  refine normal_thn ?_
  refine aw_block ?_
  refine aw_loop' (fun i : Nat => [(0, .imm (.sl 7 (l.map avA))), (3, .mref 1011), (1011, .mpr (strs (mks (l.take i))) (mvs (l.take i))), (12, .imm (.sl 7 (l.map avA))), (13, .imm (iv (l.length : Int))), (14, .imm (iv (i : Int)))]) (fun i => i ≤ l.length) (fun i => l.length - i) (0) ?_ ⟨rfl, rfl, rfl, rfl, look_int rfl (by rw [List.length_map]), rfl, trivial⟩ ?_
  · exact Nat.zero_le _
  · rintro i h1; have h1 : i ≤ l.length := h1
    refine aw_seq ?_
    refine aw_region ?_
    refine g_u (s_ltI rfl rfl rfl) ?_
    refine g_nil ?_
    refine normal_thn ?_
    refine aw_seq ?_
    refine aw_cond rfl (fun hb1 => ?_) (fun hb1 => ?_)
    · skip
      have hi : i < l.length := by have := of_decide_eq_true hb1; (try simp only [List.length_map] at this); omega
      refine aw_skip ?_
      refine normal_thn ?_
      refine aw_seq ?_
      refine aw_block ?_
      refine aw_seq ?_
      refine aw_region ?_
      refine g_u (s_mv_imm rfl rfl) ?_
      refine g_u (s_indexAddr rfl rfl rfl Tryd.underlying27 tS78 (by omega) (ixA hi)) ?_
      refine g_u (s_load_cp rfl rfl tA78 tS78 rfl rfl) ?_
      refine g_uG (s_alloc' 1005 rfl rfl rfl tZ78) rfl ?_
      refine g_u (s_as_imm rfl rfl) ?_
      refine g_u (s_store_imm rfl rfl rfl tS78 rfl rfl) ?_
      refine g_nil ?_
      refine normal_thn ?_
      refine aw_region ?_
      refine g_u (s_mv_mref rfl rfl) ?_
      refine g_u (s_fieldAddr rfl rfl fa78_0 rfl) ?_
      refine g_u (s_load_imm rfl rfl rfl tA9 tS9 rfl rfl) ?_
      refine g_u (s_mv_imm rfl rfl) ?_
      refine g_u (s_mapUpdate rfl rfl rfl rfl Tryd.underlying116 Tryd.underlying9) ?_
      refine g_nil ?_
      refine normal_blk ?_
      refine normal_thn ?_
      refine aw_region ?_
      refine g_u (s_add rfl rfl rfl) ?_
      refine g_u (s_mv_imm rfl rfl) ?_
      refine g_nil ?_
      refine normal_thn ?_
      have et : l.take (i + 1) = l.take i ++ [nthA l i] := take_snoc (nth_get (d := a0) hi)
      have el : (l.take i).length = i := by rw [List.length_take]; omega
      refine ⟨i + 1, hi, ⟨rfl, rfl, look_mpr rfl (by rw [et, mks_snoc]) (by rw [et, mvs_snoc, el]), rfl, rfl, look_int rfl (by rw [wrap64 (by omega) (by omega)]; rfl), trivial⟩, by (try dsimp only); omega⟩
    · skip
      have hin : i = l.length := by have := of_decide_eq_false hb1; (try simp only [List.length_map] at this); omega
      refine aw_exit ?_
      refine exit_thn ?_
      refine exit_thn ?_
      refine exit_blk ?_
      refine normal_thn ?_
      refine aw_seq ?_
      refine aw_region ?_
      refine g_u (s_as_imm rfl rfl) ?_
      refine g_nil ?_
      refine normal_thn ?_
      refine aw_newrow 3006 6 rfl rfl rfl rfl ?_
      refine aw_seq ?_
      refine aw_seq ?_
      refine aw_region ?_
      refine g_u (s_mv_mref rfl rfl) ?_
      refine g_uG (s_range 1025 rfl rfl rfl rfl rfl rfl Tryd.underlying116) rfl ?_
      refine g_nil ?_
      refine normal_thn ?_
      refine aw_block ?_
      refine aw_loop' (fun seen : List Nat => [(0, .imm (.sl 7 (l.map avA))), (3, .mref 1011), (1011, .mpr (strs (mks l)) (mvs l)), (6, .slg 3006 0 (units (ksOf l seen).length)), (3006, .row (ksOf l seen)), (25, .ptr 1025 0), (1025, .itr 1011 (mks l).length seen)]) (fun seen => seen.Nodup ∧ ∀ j ∈ seen, j < (mks l).length) (fun seen => (mks l).length - seen.length) ([]) ?_ ⟨rfl, rfl, look_mpr rfl (by rw [hin, List.take_length]) (by rw [hin, List.take_length]), rfl, rfl, rfl, look_itr rfl (by rw [hin, List.take_length, strs_length]) rfl, trivial⟩ ?_
      · exact ⟨List.nodup_nil, fun j h => by cases h⟩
      · rintro seen ⟨h1, h2⟩; (try dsimp only at h1 h2)
        have hsl := nodup_lt _ seen h1 h2
        have hml := mks_len l
        have hkl := ksOf_len l seen
        refine aw_seq ?_
        refine aw_next rfl rfl rfl rfl rfl (Nat.beq_refl _) rfl (fun hall => ?_) (fun q tx va hq hs hk hv => ?_)
        · skip
          have hp := seen_perm h1 h2 hall
          have hp : (ksOf l seen).Perm (mks l) := hp
          have hcs := canonAs_sorted l hp
          have hskl : (sortB (ksOf l seen)).length = seen.length := by rw [sortB_length, ksOf_len]
          refine g_u (s_extract rfl rfl rfl rfl) ?_
          refine g_nil ?_
          refine normal_thn ?_
          refine aw_seq ?_
          refine aw_cond_false rfl ?_
          refine aw_exit ?_
          refine exit_thn ?_
          refine exit_thn ?_
          refine exit_blk ?_
          refine normal_thn ?_
          refine aw_seq ?_
          refine aw_region ?_
          refine g_u (s_mv_slg rfl rfl) ?_
          refine g_u (s_sort 6 (sort_c) rfl rfl rfl rfl rfl rfl rfl rfl rfl (by omega)) ?_
          refine g_nil ?_
          refine normal_thn ?_
          refine aw_seq ?_
          refine aw_region ?_
          refine g_u (s_as_imm rfl rfl) ?_
          refine g_nil ?_
          refine normal_thn ?_
          refine aw_newtok 3008 8 7 rfl rfl rfl rfl ?_
          refine aw_seq ?_
          refine aw_seq ?_
          refine aw_region ?_
          refine g_u (s_mv_imm rfl rfl) ?_
          refine g_u (s_lenL rfl rfl Tryd.underlying64) ?_
          refine g_u (s_mv_imm rfl rfl) ?_
          refine g_nil ?_
          refine normal_thn ?_
          refine aw_block ?_
          refine aw_loop' (fun j : Nat => [(0, .imm (.sl 7 (l.map avA))), (3, .mref 1011), (1011, .mpr (strs (mks l)) (mvs l)), (36, .imm (.sl 1 (strs (sortB (ksOf l seen))))), (37, .imm (iv ((sortB (ksOf l seen)).length : Int))), (8, .slg 3008 7 (((sortB (ksOf l seen)).take j).map (fun k => (GA.mk k (canonV (nthA l (lastI l k)).val)).av))), (3008, .tok 7 (((sortB (ksOf l seen)).take j).map (fun k => (GA.mk k (canonV (nthA l (lastI l k)).val)).av))), (38, .imm (iv (j : Int)))]) (fun j => j ≤ (sortB (ksOf l seen)).length) (fun j => (sortB (ksOf l seen)).length - j) (0) ?_ ⟨rfl, rfl, rfl, rfl, look_int rfl (by rw [strs_length]), rfl, rfl, rfl, trivial⟩ ?_
          · exact Nat.zero_le _
          · rintro j g1; have g1 : j ≤ (sortB (ksOf l seen)).length := g1
            refine aw_seq ?_
            refine aw_region ?_
            refine g_u (s_ltI rfl rfl rfl) ?_
            refine g_nil ?_
            refine normal_thn ?_
            refine aw_seq ?_
            refine aw_cond rfl (fun hb2 => ?_) (fun hb2 => ?_)
            · skip
              have hj : j < (sortB (ksOf l seen)).length := by have := of_decide_eq_true hb2; omega
              obtain ⟨p, hp1, hp2, hp3⟩ := look_key (l := l) (k := nth (sortB (ksOf l seen)) j ⟨#[]⟩) (((sortB_perm _).trans hp).mem_iff.1 (nth_mem hj))
              refine aw_skip ?_
              refine normal_thn ?_
              refine aw_seq ?_
              refine aw_block ?_
              refine aw_seq ?_
              refine aw_region ?_
              refine g_u (s_indexAddr rfl rfl rfl Tryd.underlying64 tS9 (by omega) (str_nth hj)) ?_
              refine g_u (s_load_cp rfl rfl tA9 tS9 rfl rfl) ?_
              refine g_u (s_as_imm rfl rfl) ?_
              refine g_nil ?_
              refine normal_thn ?_
              refine aw_region ?_
              refine g_u (s_mv_slg rfl rfl) ?_
              refine g_u (s_mv_imm rfl rfl) ?_
              refine g_u (s_mv_imm rfl rfl) ?_
              refine g_u (s_mv_mref rfl rfl) ?_
              refine g_u (s_mv_imm rfl rfl) ?_
              refine g_u (s_lookup rfl rfl rfl rfl Tryd.underlying116 Tryd.underlying9 hp1 hp2) ?_
              refine g_u (s_indexAddr rfl rfl rfl Tryd.underlying27 tS78 (by omega) (ixA hp3)) ?_
              refine g_u (s_fieldAddr_cp rfl rfl fa78_1 rfl rfl) ?_
              refine g_u (s_load_cp rfl rfl tA76 tS76 rfl rfl) ?_
              refine g_u (s_call1 (ih _ (nthA_mem hp3)) rfl rfl) ?_
              refine g_u (s_build rfl tU78 us78 pl78 rfl rfl rfl rfl) ?_
              refine g_u (s_buildSlice (X0 := z78) rfl Tryd.underlying27 tS78 tZ78 rfl rfl rfl rfl rfl rfl rfl rfl) ?_
              refine g_u (s_append rfl rfl rfl rfl rfl Tryd.underlying27 Tryd.underlying27 tS78 zv78 rfl (by decide) by78 (by (try dsimp only); simp only [List.length_append, List.length_cons, List.length_nil, List.length_map, List.length_take]; omega) (by (try dsimp only); simp only [List.length_append, List.length_cons, List.length_nil, List.length_map, List.length_take]; omega)) ?_
              refine g_u (s_as_slg rfl rfl) ?_
              refine g_nil ?_
              refine normal_blk ?_
              refine normal_thn ?_
              refine aw_region ?_
              refine g_u (s_add rfl rfl rfl) ?_
              refine g_u (s_mv_imm rfl rfl) ?_
              refine g_nil ?_
              refine normal_thn ?_
              have et : (((sortB (ksOf l seen)).take (j + 1)).map (fun k => (GA.mk k (canonV (nthA l (lastI l k)).val)).av)) = (((sortB (ksOf l seen)).take j).map (fun k => (GA.mk k (canonV (nthA l (lastI l k)).val)).av)) ++ [(fun k => (GA.mk k (canonV (nthA l (lastI l k)).val)).av) (nth (sortB (ksOf l seen)) j ⟨#[]⟩)] := by rw [take_snoc (nth_get (d := ⟨#[]⟩) hj), List.map_append]; rfl
              refine ⟨j + 1, hj, ⟨rfl, rfl, rfl, rfl, rfl, look_slg rfl et.symm, look_tok rfl et.symm, look_int rfl (by rw [wrap64 (by omega) (by omega)]; rfl), trivial⟩, by (try dsimp only); omega⟩
            · skip
              have hjn : j = (sortB (ksOf l seen)).length := by have := of_decide_eq_false hb2; omega
              refine aw_exit ?_
              refine exit_thn ?_
              refine exit_thn ?_
              refine exit_blk ?_
              refine normal_thn ?_
              refine aw_seq ?_
              refine aw_region ?_
              refine g_u (s_mv_slg rfl rfl) ?_
              refine g_u (s_as_slg rfl rfl) ?_
              refine g_nil ?_
              refine normal_thn ?_
              refine aw_ret ?_
              exact ⟨⟨(rfl : toAV (Al.look _ _) = some _).trans (congrArg some (by (refine congrArg (AV.sl 7) ?_; rw [hjn, List.take_length, ← hcs, List.map_map]; exact List.map_congr_left fun k _ => (avA_eq _).symm))), rfl⟩, trivial⟩
        · skip
          refine g_u (s_extract rfl rfl rfl rfl) ?_
          refine g_nil ?_
          refine normal_thn ?_
          refine aw_seq ?_
          refine aw_cond_true rfl ?_
          refine aw_skip ?_
          refine normal_thn ?_
          refine aw_block ?_
          refine aw_seq ?_
          refine aw_region ?_
          refine g_u (s_entry rfl rfl rfl rfl (Nat.beq_refl _) hk hv) ?_
          refine g_u (s_extract rfl rfl rfl rfl) ?_
          refine g_u (s_as_imm rfl rfl) ?_
          refine g_nil ?_
          refine normal_thn ?_
          refine aw_region ?_
          refine g_u (s_mv_slg rfl rfl) ?_
          refine g_u (s_mv_imm rfl rfl) ?_
          refine g_u (s_buildSlice (X0 := z9) rfl Tryd.underlying64 tS9 tZ9 rfl rfl rfl rfl rfl rfl rfl rfl) ?_
          refine g_u (s_appendR rfl rfl rfl rfl rfl Tryd.underlying64 Tryd.underlying64 tS9 zv9 rfl by9 (by omega) (by omega)) ?_
          refine g_u (s_as_slg rfl rfl) ?_
          refine g_nil ?_
          refine normal_blk ?_
          refine normal_thn ?_
          have hn2 := nodup_snoc h1 hs
          have hl2 : ∀ j ∈ seen ++ [q], j < (mks l).length := fun j hj => by rcases List.mem_append.1 hj with h | h; exact h2 j h; rw [List.mem_singleton.1 h]; exact hq
          have hsl2 := nodup_lt _ _ hn2 hl2
          rw [List.length_append] at hsl2
          refine ⟨seen ++ [q], ⟨hn2, hl2⟩, ⟨rfl, rfl, rfl, look_units rfl (by rw [ksOf_snoc hk, List.length_append]; rfl), look_row rfl (ksOf_snoc hk).symm, rfl, rfl, trivial⟩, by (try dsimp only); rw [List.length_append]; simp only [List.length_cons, List.length_nil] at *; omega⟩

set_option maxHeartbeats 400000 in
theorem pcanonV_st (v : GV) (hw : v.wt ≤ 10000000) (ih : ∀ y ∈ v.list, PCall Tryd.prog Γ0 90 [y.av] [(canonV y).av]) (ihm : PCall Tryd.prog Γ0 46 [.sl 7 (v.map.map avA)] [.sl 7 ((canonAs v.map).map avA)]) : PCall Tryd.prog Γ0 90 [v.av] [(canonV v).av] := by
  have ek := v.wt_eq
  have lv := len_wtVs v.list
  refine pcall_of Tryd.func90 rfl Tryd.ntmps90 (by kernel_rfl) rfl fun w0 I0 G0 => ?_
  refine aw_seq ?_
  refine aw_region ?_
  refine g_uG (s_box_imm 1001 rfl rfl rfl rfl) rfl ?_
  refine g_uG (s_alloc' 1002 rfl rfl rfl tZ76) rfl ?_
  refine g_nil ?_
  refine normal_thn ?_
  refine aw_seq ?_
  refine aw_region ?_
  refine g_u (s_as_imm rfl rfl) ?_
  refine g_nil ?_
  refine normal_thn ?_
  refine aw_newtok 3003 3 6 rfl rfl rfl rfl ?_
  refine aw_seq ?_
  refine aw_seq ?_
  refine aw_region ?_
  refine g_u (s_fieldAddr rfl rfl fa76_4 rfl) ?_
  refine g_u (s_load_imm rfl rfl rfl tA74 tS74 rfl rfl) ?_
  refine g_u (s_lenL rfl rfl Tryd.underlying74) ?_
  refine g_u (s_mv_imm rfl rfl) ?_
  refine g_nil ?_
  refine normal_thn ?_
  refine aw_block ?_
  refine aw_loop' (fun i : Nat => [(1, .ptr 1001 0), (1001, .box 76 (.imm v.av)), (2, .ptr 1002 0), (1002, .box 76 (.imm z76)), (3, .slg 3003 6 ((v.list.take i).map fun x => (canonV x).av)), (3003, .tok 6 ((v.list.take i).map fun x => (canonV x).av)), (7, .imm (.sl 6 (v.list.map avV))), (8, .imm (iv (v.list.length : Int))), (9, .imm (iv (i : Int)))]) (fun i => i ≤ v.list.length) (fun i => v.list.length - i) (0) ?_ ⟨rfl, rfl, rfl, rfl, rfl, rfl, rfl, look_int rfl (by rw [List.length_map]), rfl, trivial⟩ ?_
  · exact Nat.zero_le _
  · rintro i h1; have h1 : i ≤ v.list.length := h1
    refine aw_seq ?_
    refine aw_region ?_
    refine g_u (s_ltI rfl rfl rfl) ?_
    refine g_nil ?_
    refine normal_thn ?_
    refine aw_seq ?_
    refine aw_cond rfl (fun hb1 => ?_) (fun hb1 => ?_)
    · skip
      have hi : i < v.list.length := by have := of_decide_eq_true hb1; (try simp only [List.length_map] at this); omega
      refine aw_skip ?_
      refine normal_thn ?_
      refine aw_seq ?_
      refine aw_block ?_
      refine aw_seq ?_
      refine aw_region ?_
      refine g_u (s_indexAddr rfl rfl rfl Tryd.underlying74 tS76 (by omega) (ixV hi)) ?_
      refine g_u (s_load_cp rfl rfl tA76 tS76 rfl rfl) ?_
      refine g_uG (s_alloc' 1005 rfl rfl rfl tZ76) rfl ?_
      refine g_u (s_store_imm rfl rfl rfl tS76 rfl rfl) ?_
      refine g_nil ?_
      refine normal_thn ?_
      refine aw_region ?_
      refine g_u (s_mv_slg rfl rfl) ?_
      refine g_u (s_load_agg rfl rfl rfl tA76 tS76 rfl rfl) ?_
      refine g_u (s_call1 (ih _ (nthV_mem hi)) rfl rfl) ?_
      refine g_u (s_buildSlice (X0 := z76) rfl Tryd.underlying74 tS76 tZ76 rfl rfl rfl rfl rfl rfl rfl rfl) ?_
      refine g_u (s_append rfl rfl rfl rfl rfl Tryd.underlying74 Tryd.underlying74 tS76 zv76 rfl (by decide) by76 (by (try dsimp only); simp only [List.length_append, List.length_cons, List.length_nil, List.length_map, List.length_take, List.length_drop]; omega) (by (try dsimp only); simp only [List.length_append, List.length_cons, List.length_nil, List.length_map, List.length_take, List.length_drop]; omega)) ?_
      refine g_u (s_as_slg rfl rfl) ?_
      refine g_nil ?_
      refine normal_blk ?_
      refine normal_thn ?_
      refine aw_region ?_
      refine g_u (s_add rfl rfl rfl) ?_
      refine g_u (s_mv_imm rfl rfl) ?_
      refine g_nil ?_
      refine normal_thn ?_
      have et : ((v.list.take (i + 1)).map fun x => (canonV x).av) = ((v.list.take i).map fun x => (canonV x).av) ++ [(canonV (nthV v.list i)).av] := by rw [take_snoc (nth_get (d := v0) hi), List.map_append]; rfl
      refine ⟨i + 1, hi, ⟨rfl, rfl, rfl, rfl, look_slg rfl et.symm, look_tok rfl et.symm, rfl, rfl, look_int rfl (by rw [wrap64 (by omega) (by omega)]; rfl), trivial⟩, by (try dsimp only); omega⟩
    · skip
      have hin : i = v.list.length := by have := of_decide_eq_false hb1; (try simp only [List.length_map] at this); omega
      refine aw_exit ?_
      refine exit_thn ?_
      refine exit_thn ?_
      refine exit_blk ?_
      refine normal_thn ?_
      refine aw_seq ?_
      refine aw_region ?_
      refine g_u (s_mv_slg rfl rfl) ?_
      refine g_u (s_fieldAddr rfl rfl fa76_5 rfl) ?_
      refine g_u (s_load_imm rfl rfl rfl tA27 tS27 rfl rfl) ?_
      refine g_u (s_call1 (ihm) rfl rfl) ?_
      refine g_u (s_fieldAddr rfl rfl fa76_4 rfl) ?_
      refine g_u (s_store rfl rfl rfl rfl tS74 rfl rfl) ?_
      refine g_u (s_fieldAddr rfl rfl fa76_5 rfl) ?_
      refine g_u (s_store_imm rfl rfl rfl tS27 rfl rfl) ?_
      refine g_nil ?_
      refine normal_thn ?_
      refine aw_seq ?_
      refine aw_region ?_
      refine g_u (s_load_agg rfl rfl rfl tA76 tS76 rfl rfl) ?_
      refine g_u (s_store_imm rfl rfl rfl tS76 rfl rfl) ?_
      refine g_nil ?_
      refine normal_thn ?_
      refine aw_ret ?_
      exact ⟨⟨_, _, _, _, _, _, _, rfl, rfl, tA76, tS76, rfl, rfl, (rfl : toAV _ = some _).trans (congrArg some (by (rw [canonV_eq, hin, List.take_length]; show AV.agg _ = AV.agg [_, _, _, _, .sl 6 ((v.list.map canonV).map avV), _]; rw [List.map_map, show avV ∘ canonV = fun x => (canonV x).av from funext fun x => avV_eq _]; rfl)))⟩, trivial⟩

theorem pcanonV_c (v : GV) : v.wt ≤ 10000000 → PCall Tryd.prog Γ0 90 [v.av] [(canonV v).av] := by
  refine GV.ind (P := fun v => v.wt ≤ 10000000 → PCall Tryd.prog Γ0 90 [v.av] [(canonV v).av]) ?_ v
  intro v h1 h2 hw
  have ek := v.wt_eq
  have la := len_wtAs v.map
  exact pcanonV_st v hw (fun y hy => h1 y hy (by have := wtVs_mem hy; omega)) (pcanonAs_st v.map (by omega) fun a ha => h2 a ha (by have := wtAs_mem ha; have := a.wt_eq; omega))
theorem pcanonAs_c (l : List GA) (hw : wtAs l ≤ 10000000) : PCall Tryd.prog Γ0 46 [.sl 7 (l.map avA)] [.sl 7 ((canonAs l).map avA)] := by
  have la := len_wtAs l
  exact pcanonAs_st l (by omega) fun a ha => pcanonV_c a.val (by have := wtAs_mem ha; have := a.wt_eq; omega)

end Go.Proofs

namespace Go.Proofs
open Go Go.Al
set_option maxRecDepth 10000


end Go.Proofs

namespace Go.Proofs
open Go Go.Al

/-! ### What may be is its own form -/
theorem orC_eq0 {a b : Int} (h : orC a b = 0) : a = 0 ∧ b = 0 := by unfold orC at h; split at h <;> omega
theorem checkVs_mem {d : Int} : ∀ {l : List GV}, checkVs d l = 0 → ∀ y ∈ l, checkV d y = 0
  | x :: l, h, y, hy => by
    rw [checkVs] at h
    obtain ⟨h1, h2⟩ := orC_eq0 h
    rcases List.mem_cons.1 hy with rfl | hy
    · exact h1
    · exact checkVs_mem h2 y hy
theorem entC_mem {d : Int} : ∀ {l : List GA} {p : Option ByteArray}, entC d p l = 0 → risA p l ∧ ∀ a ∈ l, checkV d a.val = 0
  | [], p, _ => ⟨trivial, fun a h => by cases h⟩
  | x :: l, p, h => by
    rw [entC] at h
    obtain ⟨h1, h2⟩ := orC_eq0 h
    cases hb : prevBad p x.key
    · rw [hb, if_neg (by decide)] at h2
      obtain ⟨h3, h4⟩ := orC_eq0 h2
      obtain ⟨h5, h6⟩ := entC_mem h4
      rw [checkA_eq] at h3
      refine ⟨⟨?_, h5⟩, fun a ha => ?_⟩
      · cases p with
        | none => trivial
        | some q => simp only [prevBad] at hb; simpa using hb
      · rcases List.mem_cons.1 ha with rfl | ha
        · exact h3
        · exact h6 a ha
    · rw [hb, if_pos rfl] at h2; omega
theorem checkV_parts {d : Int} {v : GV} (h : checkV d v = 0) : checkVs (d + 1) v.list = 0 ∧ entC (d + 1) none v.map = 0 := by
  rw [checkV_eq] at h
  split at h; · omega
  split at h; · omega
  split at h; · omega
  split at h; · omega
  split at h; · omega
  exact orC_eq0 h
theorem map_id_of {α : Type} {f : α → α} : ∀ {l : List α}, (∀ x ∈ l, f x = x) → l.map f = l
  | [], _ => rfl
  | x :: l, h => by rw [List.map_cons, h x List.mem_cons_self, map_id_of fun y hy => h y (List.mem_cons_of_mem _ hy)]
theorem canonAs_of {l : List GA} (hr : risA none l) (h : ∀ a ∈ l, canonV a.val = a.val) : canonAs l = l := by
  have e : l.map canonP = l := map_id_of fun a ha => by rw [canonP_eq, h a ha]; cases a; rfl
  unfold canonAs
  rw [e, intoAll_ris l [] (by simpa using hr)]; rfl
theorem canon_of_check (v : GV) : ∀ d : Int, checkV d v = 0 → canonV v = v := by
  refine GV.ind (P := fun v => ∀ d : Int, checkV d v = 0 → canonV v = v) ?_ v
  intro v h1 h2 d hc
  obtain ⟨h3, h4⟩ := checkV_parts hc
  obtain ⟨h5, h6⟩ := entC_mem h4
  have e1 : v.list.map canonV = v.list := map_id_of fun y hy => h1 y hy _ (checkVs_mem h3 y hy)
  have e2 : canonAs v.map = v.map := canonAs_of h5 fun a ha => h2 a ha _ (h6 a ha)
  rw [canonV_eq, e1, e2]
  cases v; rfl
theorem canonAs_of_ent {l : List GA} {d : Int} (h : entC d none l = 0) : canonAs l = l := by
  obtain ⟨h1, h2⟩ := entC_mem h
  exact canonAs_of h1 fun a ha => canon_of_check a.val _ (h2 a ha)

/-! ### Lists within one another -/
end Go.Proofs

namespace Go.Proofs
open Go Go.Al
set_option maxRecDepth 10000

end Go.Proofs

namespace Go.Proofs
open Go Go.Al

/-! ### Whether spans may be -/
def firstC : List Int → Int
  | [] => 0
  | c :: cs => orC c (firstC cs)
abbrev FN := FuncId × List AV × List AV × Int
def fnA (x : FN) : AV := .fn (.func x.1) x.2.1 x.2.2.1
def fnd : FN := (0, [], [], 0)
def fcodes (l : List FN) : List Int := l.map fun x => x.2.2.2
theorem firstC_drop {l : List FN} {i : Nat} (h : i < l.length) : firstC (fcodes (l.drop i)) = orC (nth l i fnd).2.2.2 (firstC (fcodes (l.drop (i + 1)))) := by
  rw [drop_nth (d := fnd) h]; rfl
theorem evC_drop {l : List GE} {i : Nat} (h : i < l.length) : evC (l.drop i) = if 9223372036854775807 < (nthE l i).time then 11 else orC (orC (nameC (nthE l i).name) (attrsC (nthE l i).attrs)) (evC (l.drop (i + 1))) := by
  rw [drop_nth (d := ge0) h, evC]; rfl
theorem lkC_drop {l : List GL} {i : Nat} (h : i < l.length) : lkC (l.drop i) = if zeros (nthL l i).trace || zeros (nthL l i).span then 10 else orC (orC (nameC (nthL l i).state) (attrsC (nthL l i).attrs)) (lkC (l.drop (i + 1))) := by
  rw [drop_nth (d := gl0) h, lkC]; rfl
theorem zeros_beq : ∀ {n : Nat} {l : Bs}, l.length = n → (l == List.replicate n 0) = zeros l
  | 0, [], _ => rfl
  | n + 1, x :: l, h => by
    have ih := zeros_beq (n := n) (l := l) (by simpa using h)
    rw [List.replicate_succ, List.cons_beq_cons, ih]; rfl
/-- Whether a span may be, or what is wrong with it first. -/
def spanOk (s : GSpan) : Int :=
  firstC [if zeros s.trace || zeros s.id then 10 else 0, nameC s.state, nameC s.name, if s.kind < 0 ∨ 5 < s.kind then 7 else 0, rgCheckM ⟨s.start, s.fin⟩, attrsC s.attrs, evsC s.events, lksC s.links, if s.code < 0 ∨ 2 < s.code then 7 else 0, nameC s.note]
theorem attrsC_ent {l : List GA} (h : attrsC l = 0) : entC 0 none l = 0 := by
  unfold attrsC at h
  split at h
  · omega
  · exact (orC_eq0 h).1
theorem evC_mem : ∀ {l : List GE}, evC l = 0 → ∀ e ∈ l, attrsC e.attrs = 0
  | x :: l, h, e, he => by
    rw [evC] at h
    split at h
    · omega
    · obtain ⟨h1, h2⟩ := orC_eq0 h
      rcases List.mem_cons.1 he with rfl | he
      · exact (orC_eq0 h1).2
      · exact evC_mem h2 e he
theorem lkC_mem : ∀ {l : List GL}, lkC l = 0 → ∀ e ∈ l, attrsC e.attrs = 0
  | x :: l, h, e, he => by
    rw [lkC] at h
    split at h
    · omega
    · obtain ⟨h1, h2⟩ := orC_eq0 h
      rcases List.mem_cons.1 he with rfl | he
      · exact (orC_eq0 h1).2
      · exact lkC_mem h2 e he
theorem canonS_of {s : GSpan} (h : spanOk s = 0) : canonS s = s := by
  unfold spanOk at h
  simp only [firstC] at h
  obtain ⟨_, h⟩ := orC_eq0 h
  obtain ⟨_, h⟩ := orC_eq0 h
  obtain ⟨_, h⟩ := orC_eq0 h
  obtain ⟨_, h⟩ := orC_eq0 h
  obtain ⟨_, h⟩ := orC_eq0 h
  obtain ⟨ha, h⟩ := orC_eq0 h
  obtain ⟨he, h⟩ := orC_eq0 h
  obtain ⟨hl, h⟩ := orC_eq0 h
  have e1 : canonAs s.attrs = s.attrs := canonAs_of_ent (attrsC_ent ha)
  have he' : evC s.events = 0 := by unfold evsC at he; split at he; omega; exact he
  have hl' : lkC s.links = 0 := by unfold lksC at hl; split at hl; omega; exact hl
  have e2 : s.events.map canonE = s.events := map_id_of fun e hm => by
    unfold canonE; rw [canonAs_of_ent (attrsC_ent (evC_mem he' e hm))]
  have e3 : s.links.map canonL = s.links := map_id_of fun e hm => by
    unfold canonL; rw [canonAs_of_ent (attrsC_ent (lkC_mem hl' e hm))]
  unfold canonS
  rw [e1, e2, e3]

/-! ### The spans of law 27 -/
def gS27 : GSpan := ⟨1 :: List.replicate 15 0, 2 :: List.replicate 7 0, List.replicate 8 0, ⟨#[]⟩, ⟨#[103, 101, 116]⟩, 3, 5, 7, [.mk ⟨#[97]⟩ zeroV], [⟨6, ⟨#[101]⟩, []⟩], [⟨3 :: List.replicate 15 0, 4 :: List.replicate 7 0, ⟨#[]⟩, []⟩], 1, ⟨#[]⟩⟩
def gZ27 : GSpan := { gS27 with id := List.replicate 8 0 }
def gK27 : GSpan := { gS27 with kind := 6 }
def gW27 : GSpan := { gS27 with attrs := [.mk ⟨#[98]⟩ zeroV, .mk ⟨#[97]⟩ zeroV] }
def gC27 : GSpan := { gS27 with attrs := [.mk ⟨#[97]⟩ zeroV, .mk ⟨#[98]⟩ zeroV] }
theorem w27_canon : canonS gW27 = gC27 := by rfl
theorem n27 : ¬ gS27 = gW27 := fun h => by
  have := congrArg (fun s => s.attrs.length) h
  exact absurd this (by decide)
end Go.Proofs

namespace Go.Al

/-! ### A labelled stretch that nobody jumps back into -/
def scp (Q : Exit → St → Prop) : Exit → St → Prop
  | .goto _, _ => False
  | e, st => Q e st
theorem ret_scp {st : St} {Q : Exit → St → Prop} (h : Q .ret st) : scp Q .ret st := h
theorem aw_scope {C : Cx} {c : Code} {st : St} {Q : Exit → St → Prop} (h : AW C c st (scp Q)) : AW C (.scope c) st Q := by
  intro a w S
  refine wp_scope_straight (wp_mono (h a w S) ?_)
  rintro e a' w' ⟨st', q, S'⟩
  cases e with
  | goto l => exact q.elim
  | normal => exact ⟨st', q, S'⟩
  | exit id => exact ⟨st', q, S'⟩
  | ret => exact ⟨st', q, S'⟩
  | panic c => exact ⟨st', q, S'⟩
  | outgrown => exact ⟨st', q, S'⟩
theorem aw_label {C : Cx} {l : Nat} {st : St} {Q : Exit → St → Prop} (h : Q .normal st) : AW C (.label l) st Q := fun _ _ S => wp_label ⟨st, h, S⟩
end Go.Al

namespace Go.Proofs
open Go Go.Al
set_option maxRecDepth 10000
set_option maxHeartbeats 4000000 in
theorem eqdE_c (a b : List GE) (fn : FuncId) (hl : a.length ≤ 1000000000) (hf : ∀ x ∈ a, ∀ y : GE, PCall Tryd.prog Γ0 fn ([] ++ [x.av, y.av] ++ []) [bv (decide (x = y))]) : PCall Tryd.prog Γ0 41 [(.sl 3 (a.map GE.av)), (.sl 3 (b.map GE.av)), .fn (.func fn) [] []] [bv (decide (a = b))] := by
  refine pcall_of Tryd.func41 rfl Tryd.ntmps41 (by kernel_rfl) rfl fun w0 I0 G0 => ?_
  refine aw_seq ?_
  refine aw_region ?_
  refine g_u (s_as_imm rfl rfl) ?_
  refine g_nil ?_
  refine normal_thn ?_
  refine aw_seq ?_
  refine aw_seq ?_
  refine aw_region ?_
  refine g_u (s_mv_imm rfl rfl) ?_
  refine g_u (s_lenL rfl rfl Tryd.underlying28) ?_
  refine g_u (s_mv_imm rfl rfl) ?_
  refine g_u (s_lenL rfl rfl Tryd.underlying28) ?_
  refine g_u (s_neI rfl rfl rfl) ?_
  refine g_nil ?_
  refine normal_thn ?_
  refine aw_cond rfl (fun hb1 => ?_) (fun hb1 => ?_)
  · skip
    have q : ¬ a.length = b.length := by have e := bne_iff_ne.1 hb1; simp only [List.length_map] at e; omega
    refine aw_seq ?_
    refine aw_region ?_
    refine g_u (s_as_imm rfl rfl) ?_
    refine g_nil ?_
    refine normal_thn ?_
    refine aw_ret ?_
    refine ret_thn ?_
    exact ⟨⟨(rfl : toAV (Al.look _ _) = some _).trans (congrArg some (by (exact congrArg bv (by first | exact (decide_eq_false (fun e => q (by rw [e]))).symm | exact (decide_eq_true (ext_nth ge0 el (fun j hj => h2 j (by omega)))).symm)))), rfl⟩, trivial⟩
  · skip
    have el : a.length = b.length := by have e := bne_eq_false_iff_eq.1 hb1; simp only [List.length_map] at e; omega
    refine aw_skip ?_
    refine normal_thn ?_
    refine aw_seq ?_
    refine aw_seq ?_
    refine aw_region ?_
    refine g_u (s_mv_imm rfl rfl) ?_
    refine g_u (s_lenL rfl rfl Tryd.underlying28) ?_
    refine g_u (s_mv_imm rfl rfl) ?_
    refine g_nil ?_
    refine normal_thn ?_
    refine aw_block ?_
    refine aw_loop' (fun i : Nat => [(1, .imm (.sl 3 (b.map GE.av))), (2, .imm (.fn (.func fn) [] [])), (15, .imm (.sl 3 (a.map GE.av))), (16, .imm (iv (a.length : Int))), (17, .imm (iv (i : Int)))]) (fun i => i ≤ a.length ∧ ∀ j, j < i → nth a j ge0 = nth b j ge0) (fun i => a.length - i) (0) ?_ ⟨rfl, rfl, rfl, look_int rfl (by rw [List.length_map]), rfl, trivial⟩ ?_
    · exact ⟨Nat.zero_le _, fun j h => absurd h (Nat.not_lt_zero _)⟩
    · rintro i ⟨h1, h2⟩; (try dsimp only at h1 h2)
      refine aw_seq ?_
      refine aw_region ?_
      refine g_u (s_ltI rfl rfl rfl) ?_
      refine g_nil ?_
      refine normal_thn ?_
      refine aw_seq ?_
      refine aw_cond rfl (fun hb2 => ?_) (fun hb2 => ?_)
      · skip
        have hi : i < a.length := by have := of_decide_eq_true hb2; (try simp only [List.length_map] at this); omega
        have hib : i < b.length := by omega
        refine aw_skip ?_
        refine normal_thn ?_
        refine aw_seq ?_
        refine aw_block ?_
        refine aw_seq ?_
        refine aw_region ?_
        refine g_u (s_mv_imm rfl rfl) ?_
        refine g_u (s_indexAddr rfl rfl rfl Tryd.underlying28 tS70 (by omega) (ixE hi)) ?_
        refine g_u (s_load_cp rfl rfl tA70 tS70 rfl rfl) ?_
        refine g_uG (s_alloc' 1008 rfl rfl rfl tZ70) rfl ?_
        refine g_u (s_as_imm rfl rfl) ?_
        refine g_u (s_store_imm rfl rfl rfl tS70 rfl rfl) ?_
        refine g_nil ?_
        refine normal_thn ?_
        refine aw_seq ?_
        refine aw_region ?_
        refine g_u (s_mv_imm rfl rfl) ?_
        refine g_u (s_mv_imm rfl rfl) ?_
        refine g_u (s_indexAddr rfl rfl rfl Tryd.underlying28 tS70 (by omega) (ixE hib)) ?_
        refine g_u (s_load_cp rfl rfl tA70 tS70 rfl rfl) ?_
        refine g_uG (s_alloc' 1009 rfl rfl rfl tZ70) rfl ?_
        refine g_u (s_store_imm rfl rfl rfl tS70 rfl rfl) ?_
        refine g_nil ?_
        refine normal_thn ?_
        refine aw_seq ?_
        refine aw_region ?_
        refine g_u (s_mv_imm rfl rfl) ?_
        refine g_u (s_load_agg rfl rfl rfl tA70 tS70 rfl rfl) ?_
        refine g_u (s_load_agg rfl rfl rfl tA70 tS70 rfl rfl) ?_
        refine g_u (s_callv1 (hf _ (nthE_mem hi) _) rfl rfl rfl) ?_
        refine g_u (s_not rfl rfl) ?_
        refine g_nil ?_
        refine normal_thn ?_
        refine aw_cond rfl (fun hb3 => ?_) (fun hb3 => ?_)
        · skip
          have q : ¬ nthE a i = nthE b i := fun h => by have e := hb3; rw [decide_eq_true h] at e; cases e
          refine aw_seq ?_
          refine aw_region ?_
          refine g_u (s_as_imm rfl rfl) ?_
          refine g_nil ?_
          refine normal_thn ?_
          refine aw_ret ?_
          refine ret_blk ?_
          refine ret_thn ?_
          refine ret_thn ?_
          refine ret_blk ?_
          refine ret_thn ?_
          exact ⟨⟨(rfl : toAV (Al.look _ _) = some _).trans (congrArg some (by (exact congrArg bv (by first | exact (decide_eq_false (fun e => q (by rw [e]))).symm | exact (decide_eq_true (ext_nth ge0 el (fun j hj => h2 j (by omega)))).symm)))), rfl⟩, trivial⟩
        · skip
          have ev : nthE a i = nthE b i := by have e := hb3; simpa using e
          refine aw_skip ?_
          refine normal_blk ?_
          refine normal_thn ?_
          refine aw_region ?_
          refine g_u (s_add rfl rfl rfl) ?_
          refine g_u (s_mv_imm rfl rfl) ?_
          refine g_nil ?_
          refine normal_thn ?_
          refine ⟨i + 1, ⟨hi, fun j hj => by rcases Nat.lt_or_ge j i with h | h; exact h2 j h; rw [show j = i by omega]; exact ev⟩, ⟨rfl, rfl, rfl, rfl, look_int rfl (by rw [wrap64 (by omega) (by omega)]; rfl), trivial⟩, by (try dsimp only); omega⟩
      · skip
        have hin : i = a.length := by have := of_decide_eq_false hb2; (try simp only [List.length_map] at this); omega
        refine aw_exit ?_
        refine exit_thn ?_
        refine exit_thn ?_
        refine exit_blk ?_
        refine normal_thn ?_
        refine aw_seq ?_
        refine aw_region ?_
        refine g_u (s_as_imm rfl rfl) ?_
        refine g_nil ?_
        refine normal_thn ?_
        refine aw_ret ?_
        exact ⟨⟨(rfl : toAV (Al.look _ _) = some _).trans (congrArg some (by (exact congrArg bv (by first | exact (decide_eq_false (fun e => q (by rw [e]))).symm | exact (decide_eq_true (ext_nth ge0 el (fun j hj => h2 j (by omega)))).symm)))), rfl⟩, trivial⟩

set_option maxHeartbeats 4000000 in
theorem eqdL_c (a b : List GL) (fn : FuncId) (hl : a.length ≤ 1000000000) (hf : ∀ x ∈ a, ∀ y : GL, PCall Tryd.prog Γ0 fn ([] ++ [x.av, y.av] ++ []) [bv (decide (x = y))]) : PCall Tryd.prog Γ0 43 [(.sl 26 (a.map GL.av)), (.sl 26 (b.map GL.av)), .fn (.func fn) [] []] [bv (decide (a = b))] := by
  refine pcall_of Tryd.func43 rfl Tryd.ntmps43 (by kernel_rfl) rfl fun w0 I0 G0 => ?_
  refine aw_seq ?_
  refine aw_region ?_
  refine g_u (s_as_imm rfl rfl) ?_
  refine g_nil ?_
  refine normal_thn ?_
  refine aw_seq ?_
  refine aw_seq ?_
  refine aw_region ?_
  refine g_u (s_mv_imm rfl rfl) ?_
  refine g_u (s_lenL rfl rfl Tryd.underlying29) ?_
  refine g_u (s_mv_imm rfl rfl) ?_
  refine g_u (s_lenL rfl rfl Tryd.underlying29) ?_
  refine g_u (s_neI rfl rfl rfl) ?_
  refine g_nil ?_
  refine normal_thn ?_
  refine aw_cond rfl (fun hb1 => ?_) (fun hb1 => ?_)
  · skip
    have q : ¬ a.length = b.length := by have e := bne_iff_ne.1 hb1; simp only [List.length_map] at e; omega
    refine aw_seq ?_
    refine aw_region ?_
    refine g_u (s_as_imm rfl rfl) ?_
    refine g_nil ?_
    refine normal_thn ?_
    refine aw_ret ?_
    refine ret_thn ?_
    exact ⟨⟨(rfl : toAV (Al.look _ _) = some _).trans (congrArg some (by (exact congrArg bv (by first | exact (decide_eq_false (fun e => q (by rw [e]))).symm | exact (decide_eq_true (ext_nth gl0 el (fun j hj => h2 j (by omega)))).symm)))), rfl⟩, trivial⟩
  · skip
    have el : a.length = b.length := by have e := bne_eq_false_iff_eq.1 hb1; simp only [List.length_map] at e; omega
    refine aw_skip ?_
    refine normal_thn ?_
    refine aw_seq ?_
    refine aw_seq ?_
    refine aw_region ?_
    refine g_u (s_mv_imm rfl rfl) ?_
    refine g_u (s_lenL rfl rfl Tryd.underlying29) ?_
    refine g_u (s_mv_imm rfl rfl) ?_
    refine g_nil ?_
    refine normal_thn ?_
    refine aw_block ?_
    refine aw_loop' (fun i : Nat => [(1, .imm (.sl 26 (b.map GL.av))), (2, .imm (.fn (.func fn) [] [])), (15, .imm (.sl 26 (a.map GL.av))), (16, .imm (iv (a.length : Int))), (17, .imm (iv (i : Int)))]) (fun i => i ≤ a.length ∧ ∀ j, j < i → nth a j gl0 = nth b j gl0) (fun i => a.length - i) (0) ?_ ⟨rfl, rfl, rfl, look_int rfl (by rw [List.length_map]), rfl, trivial⟩ ?_
    · exact ⟨Nat.zero_le _, fun j h => absurd h (Nat.not_lt_zero _)⟩
    · rintro i ⟨h1, h2⟩; (try dsimp only at h1 h2)
      refine aw_seq ?_
      refine aw_region ?_
      refine g_u (s_ltI rfl rfl rfl) ?_
      refine g_nil ?_
      refine normal_thn ?_
      refine aw_seq ?_
      refine aw_cond rfl (fun hb2 => ?_) (fun hb2 => ?_)
      · skip
        have hi : i < a.length := by have := of_decide_eq_true hb2; (try simp only [List.length_map] at this); omega
        have hib : i < b.length := by omega
        refine aw_skip ?_
        refine normal_thn ?_
        refine aw_seq ?_
        refine aw_block ?_
        refine aw_seq ?_
        refine aw_region ?_
        refine g_u (s_mv_imm rfl rfl) ?_
        refine g_u (s_indexAddr rfl rfl rfl Tryd.underlying29 tS72 (by omega) (ixL hi)) ?_
        refine g_u (s_load_cp rfl rfl tA72 tS72 rfl (by first | exact getS_w (GL.width _) rfl | rfl)) ?_
        refine g_uG (s_alloc' 1008 rfl rfl rfl tZ72) rfl ?_
        refine g_u (s_as_imm rfl rfl) ?_
        refine g_u (s_store_imm rfl rfl rfl tS72 (by first | exact beqW (GL.width _) | rfl) (by first | exact setS_w (z72_w.trans (GL.width _).symm) rfl | rfl)) ?_
        refine g_nil ?_
        refine normal_thn ?_
        refine aw_seq ?_
        refine aw_region ?_
        refine g_u (s_mv_imm rfl rfl) ?_
        refine g_u (s_mv_imm rfl rfl) ?_
        refine g_u (s_indexAddr rfl rfl rfl Tryd.underlying29 tS72 (by omega) (ixL hib)) ?_
        refine g_u (s_load_cp rfl rfl tA72 tS72 rfl (by first | exact getS_w (GL.width _) rfl | rfl)) ?_
        refine g_uG (s_alloc' 1009 rfl rfl rfl tZ72) rfl ?_
        refine g_u (s_store_imm rfl rfl rfl tS72 (by first | exact beqW (GL.width _) | rfl) (by first | exact setS_w (z72_w.trans (GL.width _).symm) rfl | rfl)) ?_
        refine g_nil ?_
        refine normal_thn ?_
        refine aw_seq ?_
        refine aw_region ?_
        refine g_u (s_mv_imm rfl rfl) ?_
        refine g_u (s_load_imm rfl rfl rfl tA72 tS72 rfl (by first | exact getS_w (GL.width _) rfl | rfl)) ?_
        refine g_u (s_load_imm rfl rfl rfl tA72 tS72 rfl (by first | exact getS_w (GL.width _) rfl | rfl)) ?_
        refine g_u (s_callv1 (hf _ (nthL_mem hi) _) rfl rfl rfl) ?_
        refine g_u (s_not rfl rfl) ?_
        refine g_nil ?_
        refine normal_thn ?_
        refine aw_cond rfl (fun hb3 => ?_) (fun hb3 => ?_)
        · skip
          have q : ¬ nthL a i = nthL b i := fun h => by have e := hb3; rw [decide_eq_true h] at e; cases e
          refine aw_seq ?_
          refine aw_region ?_
          refine g_u (s_as_imm rfl rfl) ?_
          refine g_nil ?_
          refine normal_thn ?_
          refine aw_ret ?_
          refine ret_blk ?_
          refine ret_thn ?_
          refine ret_thn ?_
          refine ret_blk ?_
          refine ret_thn ?_
          exact ⟨⟨(rfl : toAV (Al.look _ _) = some _).trans (congrArg some (by (exact congrArg bv (by first | exact (decide_eq_false (fun e => q (by rw [e]))).symm | exact (decide_eq_true (ext_nth gl0 el (fun j hj => h2 j (by omega)))).symm)))), rfl⟩, trivial⟩
        · skip
          have ev : nthL a i = nthL b i := by have e := hb3; simpa using e
          refine aw_skip ?_
          refine normal_blk ?_
          refine normal_thn ?_
          refine aw_region ?_
          refine g_u (s_add rfl rfl rfl) ?_
          refine g_u (s_mv_imm rfl rfl) ?_
          refine g_nil ?_
          refine normal_thn ?_
          refine ⟨i + 1, ⟨hi, fun j hj => by rcases Nat.lt_or_ge j i with h | h; exact h2 j h; rw [show j = i by omega]; exact ev⟩, ⟨rfl, rfl, rfl, rfl, look_int rfl (by rw [wrap64 (by omega) (by omega)]; rfl), trivial⟩, by (try dsimp only); omega⟩
      · skip
        have hin : i = a.length := by have := of_decide_eq_false hb2; (try simp only [List.length_map] at this); omega
        refine aw_exit ?_
        refine exit_thn ?_
        refine exit_thn ?_
        refine exit_blk ?_
        refine normal_thn ?_
        refine aw_seq ?_
        refine aw_region ?_
        refine g_u (s_as_imm rfl rfl) ?_
        refine g_nil ?_
        refine normal_thn ?_
        refine aw_ret ?_
        exact ⟨⟨(rfl : toAV (Al.look _ _) = some _).trans (congrArg some (by (exact congrArg bv (by first | exact (decide_eq_false (fun e => q (by rw [e]))).symm | exact (decide_eq_true (ext_nth gl0 el (fun j hj => h2 j (by omega)))).symm)))), rfl⟩, trivial⟩

set_option maxHeartbeats 400000 in
theorem sameE_c (a b : GE) (hw : wtAs a.attrs ≤ 1000000000) : PCall Tryd.prog Γ0 42 [a.av, b.av] [bv (decide (a = b))] := by
  refine pcall_of Tryd.func42 rfl Tryd.ntmps42 (by kernel_rfl) rfl fun w0 I0 G0 => ?_
  refine aw_seq ?_
  refine aw_region ?_
  refine g_uG (s_box_imm 1002 rfl rfl rfl rfl) rfl ?_
  refine g_uG (s_box_imm 1003 rfl rfl rfl rfl) rfl ?_
  refine g_u (s_as_imm rfl rfl) ?_
  refine g_nil ?_
  refine normal_thn ?_
  refine aw_seq ?_
  refine aw_region ?_
  refine g_u (s_fieldAddr rfl rfl fa70_0 rfl) ?_
  refine g_u (s_load_imm rfl rfl rfl tA26 tS26 rfl rfl) ?_
  refine g_u (s_fieldAddr rfl rfl fa70_0 rfl) ?_
  refine g_u (s_load_imm rfl rfl rfl tA26 tS26 rfl rfl) ?_
  refine g_u (s_eqI rfl rfl rfl) ?_
  refine g_u (s_mv_imm rfl rfl) ?_
  refine g_case (t := 10) rfl ?_
  rintro (hb1 | hb1)
  · rw [hb1]
    have f1 : a.time = b.time := beq_iff_eq.1 hb1
    refine g_run rfl rfl (s_fieldAddr rfl rfl fa70_1 rfl) ?_
    refine g_run rfl rfl (s_load_imm rfl rfl rfl tA9 tS9 rfl rfl) ?_
    refine g_run rfl rfl (s_fieldAddr rfl rfl fa70_1 rfl) ?_
    refine g_run rfl rfl (s_load_imm rfl rfl rfl tA9 tS9 rfl rfl) ?_
    refine g_run rfl rfl (s_eqS rfl rfl rfl) ?_
    refine g_u (s_pick_t rfl rfl rfl) ?_
    refine g_u (s_mv_imm rfl rfl) ?_
    refine g_case (t := 17) rfl ?_
    rintro (hb2 | hb2)
    · rw [hb2]
      have f2 : a.name = b.name := by have e := hb2; rw [str_beq] at e; simpa using e
      refine g_run rfl rfl (s_fieldAddr rfl rfl fa70_2 rfl) ?_
      refine g_run rfl rfl (s_load_imm rfl rfl rfl tA27 tS27 rfl rfl) ?_
      refine g_run rfl rfl (s_fieldAddr rfl rfl fa70_2 rfl) ?_
      refine g_run rfl rfl (s_load_imm rfl rfl rfl tA27 tS27 rfl rfl) ?_
      refine g_run rfl rfl (s_call1 (psameAs_c _ _ (by omega)) rfl rfl) ?_
      refine g_u (s_pick_t rfl rfl rfl) ?_
      refine g_u (s_as_imm rfl rfl) ?_
      refine g_nil ?_
      refine normal_thn ?_
      refine aw_ret ?_
      exact ⟨⟨(rfl : toAV (Al.look _ _) = some _).trans (congrArg some (by (exact congrArg bv (by first | exact (decide_eq_false (fun e => q (by rw [e]))).symm | (rw [Bool.eq_iff_iff, sameAs_iff, decide_eq_true_iff]; exact ⟨fun h => GE.ext' f1 f2 h, fun h => by rw [h]⟩))))), rfl⟩, trivial⟩
    · rw [hb2]
      have q : ¬ a.name = b.name := by have e := hb2; rw [str_beq] at e; simpa using e
      refine g_skip rfl rfl rfl ?_
      refine g_skip rfl rfl rfl ?_
      refine g_skip rfl rfl rfl ?_
      refine g_skip rfl rfl rfl ?_
      refine g_skip rfl rfl rfl ?_
      refine g_u (s_pick_f rfl rfl rfl) ?_
      refine g_u (s_as_imm rfl rfl) ?_
      refine g_nil ?_
      refine normal_thn ?_
      refine aw_ret ?_
      exact ⟨⟨(rfl : toAV (Al.look _ _) = some _).trans (congrArg some (by (exact congrArg bv (by first | exact (decide_eq_false (fun e => q (by rw [e]))).symm | (rw [Bool.eq_iff_iff, sameAs_iff, decide_eq_true_iff]; exact ⟨fun h => GE.ext' f1 f2 h, fun h => by rw [h]⟩))))), rfl⟩, trivial⟩
  · rw [hb1]
    have q : ¬ a.time = b.time := beq_eq_false_iff_ne.1 hb1
    refine g_skip rfl rfl rfl ?_
    refine g_skip rfl rfl rfl ?_
    refine g_skip rfl rfl rfl ?_
    refine g_skip rfl rfl rfl ?_
    refine g_skip rfl rfl rfl ?_
    refine g_u (s_pick_f rfl rfl rfl) ?_
    refine g_u (s_mv_imm rfl rfl) ?_
    refine g_skip rfl rfl rfl ?_
    refine g_skip rfl rfl rfl ?_
    refine g_skip rfl rfl rfl ?_
    refine g_skip rfl rfl rfl ?_
    refine g_skip rfl rfl rfl ?_
    refine g_u (s_pick_f rfl rfl rfl) ?_
    refine g_u (s_as_imm rfl rfl) ?_
    refine g_nil ?_
    refine normal_thn ?_
    refine aw_ret ?_
    exact ⟨⟨(rfl : toAV (Al.look _ _) = some _).trans (congrArg some (by (exact congrArg bv (by first | exact (decide_eq_false (fun e => q (by rw [e]))).symm | (rw [Bool.eq_iff_iff, sameAs_iff, decide_eq_true_iff]; exact ⟨fun h => GE.ext' f1 f2 h, fun h => by rw [h]⟩))))), rfl⟩, trivial⟩

set_option maxHeartbeats 1000000 in
theorem sameL_c (a b : GL) (hw : wtAs a.attrs ≤ 1000000000) : PCall Tryd.prog Γ0 44 [a.av, b.av] [bv (decide (a = b))] := by
  refine pcall_of Tryd.func44 rfl Tryd.ntmps44 (by kernel_rfl) rfl fun w0 I0 G0 => ?_
  refine aw_seq ?_
  refine aw_region ?_
  refine g_uG (s_box_imm 1002 rfl rfl rfl rfl) rfl ?_
  refine g_uG (s_box_imm 1003 rfl rfl rfl rfl) rfl ?_
  refine g_u (s_as_imm rfl rfl) ?_
  refine g_nil ?_
  refine normal_thn ?_
  refine aw_seq ?_
  refine aw_region ?_
  refine g_u (s_fieldAddr rfl rfl fa72_0 rfl) ?_
  refine g_u (s_load_imm rfl rfl rfl tA23 tS23 rfl rfl) ?_
  refine g_u (s_fieldAddr rfl rfl fa72_0 rfl) ?_
  refine g_u (s_load_imm rfl rfl rfl tA23 tS23 rfl rfl) ?_
  refine g_u (s_eqA rfl rfl rfl eg23 rfl rfl (eq23 _ _)) ?_
  refine g_u (s_mv_imm rfl rfl) ?_
  refine g_case (t := 10) rfl ?_
  rintro (hb1 | hb1)
  · rw [hb1]
    have g1 : a.trace = b.trace := by have e := hb1; simpa using e
    refine g_run rfl rfl (s_fieldAddr rfl rfl fa72_1 rfl) ?_
    refine g_run rfl rfl (s_load_imm rfl rfl rfl tA25 tS25 rfl rfl) ?_
    refine g_run rfl rfl (s_fieldAddr rfl rfl fa72_1 rfl) ?_
    refine g_run rfl rfl (s_load_imm rfl rfl rfl tA25 tS25 rfl rfl) ?_
    refine g_run rfl rfl (s_eqA rfl rfl rfl eg25 rfl rfl (eq25 _ _)) ?_
    refine g_u (s_pick_t rfl rfl rfl) ?_
    refine g_u (s_mv_imm rfl rfl) ?_
    refine g_case (t := 17) rfl ?_
    rintro (hb2 | hb2)
    · rw [hb2]
      have g2 : a.span = b.span := by have e := hb2; simpa using e
      refine g_run rfl rfl (s_fieldAddr rfl rfl fa72_2 rfl) ?_
      refine g_run rfl rfl (s_load_imm rfl rfl rfl tA9 tS9 rfl rfl) ?_
      refine g_run rfl rfl (s_fieldAddr rfl rfl fa72_2 rfl) ?_
      refine g_run rfl rfl (s_load_imm rfl rfl rfl tA9 tS9 rfl rfl) ?_
      refine g_run rfl rfl (s_eqS rfl rfl rfl) ?_
      refine g_u (s_pick_t rfl rfl rfl) ?_
      refine g_u (s_mv_imm rfl rfl) ?_
      refine g_case (t := 24) rfl ?_
      rintro (hb3 | hb3)
      · rw [hb3]
        have g3 : a.state = b.state := by have e := hb3; rw [str_beq] at e; simpa using e
        refine g_run rfl rfl (s_fieldAddr rfl rfl fa72_3 rfl) ?_
        refine g_run rfl rfl (s_load_imm rfl rfl rfl tA27 tS27 rfl rfl) ?_
        refine g_run rfl rfl (s_fieldAddr rfl rfl fa72_3 rfl) ?_
        refine g_run rfl rfl (s_load_imm rfl rfl rfl tA27 tS27 rfl rfl) ?_
        refine g_run rfl rfl (s_call1 (psameAs_c _ _ (by omega)) rfl rfl) ?_
        refine g_u (s_pick_t rfl rfl rfl) ?_
        refine g_u (s_as_imm rfl rfl) ?_
        refine g_nil ?_
        refine normal_thn ?_
        refine aw_ret ?_
        exact ⟨⟨(rfl : toAV (Al.look _ _) = some _).trans (congrArg some (by (exact congrArg bv (by first | exact (decide_eq_false (fun e => q (by rw [e]))).symm | (rw [Bool.eq_iff_iff, sameAs_iff, decide_eq_true_iff]; exact ⟨fun h => GL.ext' g1 g2 g3 h, fun h => by rw [h]⟩))))), rfl⟩, trivial⟩
      · rw [hb3]
        have q : ¬ a.state = b.state := by have e := hb3; rw [str_beq] at e; simpa using e
        refine g_skip rfl rfl rfl ?_
        refine g_skip rfl rfl rfl ?_
        refine g_skip rfl rfl rfl ?_
        refine g_skip rfl rfl rfl ?_
        refine g_skip rfl rfl rfl ?_
        refine g_u (s_pick_f rfl rfl rfl) ?_
        refine g_u (s_as_imm rfl rfl) ?_
        refine g_nil ?_
        refine normal_thn ?_
        refine aw_ret ?_
        exact ⟨⟨(rfl : toAV (Al.look _ _) = some _).trans (congrArg some (by (exact congrArg bv (by first | exact (decide_eq_false (fun e => q (by rw [e]))).symm | (rw [Bool.eq_iff_iff, sameAs_iff, decide_eq_true_iff]; exact ⟨fun h => GL.ext' g1 g2 g3 h, fun h => by rw [h]⟩))))), rfl⟩, trivial⟩
    · rw [hb2]
      have q : ¬ a.span = b.span := by have e := hb2; simpa using e
      refine g_skip rfl rfl rfl ?_
      refine g_skip rfl rfl rfl ?_
      refine g_skip rfl rfl rfl ?_
      refine g_skip rfl rfl rfl ?_
      refine g_skip rfl rfl rfl ?_
      refine g_u (s_pick_f rfl rfl rfl) ?_
      refine g_u (s_mv_imm rfl rfl) ?_
      refine g_skip rfl rfl rfl ?_
      refine g_skip rfl rfl rfl ?_
      refine g_skip rfl rfl rfl ?_
      refine g_skip rfl rfl rfl ?_
      refine g_skip rfl rfl rfl ?_
      refine g_u (s_pick_f rfl rfl rfl) ?_
      refine g_u (s_as_imm rfl rfl) ?_
      refine g_nil ?_
      refine normal_thn ?_
      refine aw_ret ?_
      exact ⟨⟨(rfl : toAV (Al.look _ _) = some _).trans (congrArg some (by (exact congrArg bv (by first | exact (decide_eq_false (fun e => q (by rw [e]))).symm | (rw [Bool.eq_iff_iff, sameAs_iff, decide_eq_true_iff]; exact ⟨fun h => GL.ext' g1 g2 g3 h, fun h => by rw [h]⟩))))), rfl⟩, trivial⟩
  · rw [hb1]
    have q : ¬ a.trace = b.trace := by have e := hb1; simpa using e
    refine g_skip rfl rfl rfl ?_
    refine g_skip rfl rfl rfl ?_
    refine g_skip rfl rfl rfl ?_
    refine g_skip rfl rfl rfl ?_
    refine g_skip rfl rfl rfl ?_
    refine g_u (s_pick_f rfl rfl rfl) ?_
    refine g_u (s_mv_imm rfl rfl) ?_
    refine g_skip rfl rfl rfl ?_
    refine g_skip rfl rfl rfl ?_
    refine g_skip rfl rfl rfl ?_
    refine g_skip rfl rfl rfl ?_
    refine g_skip rfl rfl rfl ?_
    refine g_u (s_pick_f rfl rfl rfl) ?_
    refine g_u (s_mv_imm rfl rfl) ?_
    refine g_skip rfl rfl rfl ?_
    refine g_skip rfl rfl rfl ?_
    refine g_skip rfl rfl rfl ?_
    refine g_skip rfl rfl rfl ?_
    refine g_skip rfl rfl rfl ?_
    refine g_u (s_pick_f rfl rfl rfl) ?_
    refine g_u (s_as_imm rfl rfl) ?_
    refine g_nil ?_
    refine normal_thn ?_
    refine aw_ret ?_
    exact ⟨⟨(rfl : toAV (Al.look _ _) = some _).trans (congrArg some (by (exact congrArg bv (by first | exact (decide_eq_false (fun e => q (by rw [e]))).symm | (rw [Bool.eq_iff_iff, sameAs_iff, decide_eq_true_iff]; exact ⟨fun h => GL.ext' g1 g2 g3 h, fun h => by rw [h]⟩))))), rfl⟩, trivial⟩

set_option maxHeartbeats 8000000 in
theorem psameS_c (a b : GSpan) (hw : a.wt ≤ 1000000000) : PCall Tryd.prog Γ0 12 [a.av, b.av] [bv (decide (a = b))] := by
  have qw : a.wt = 1 + a.state.size + a.name.size + a.note.size + wtAs a.attrs + sumBy GE.wt a.events + sumBy GL.wt a.links := rfl
  have ql := sumBy_len GE.wt (fun e => by unfold GE.wt; omega) a.events
  have qm := sumBy_len GL.wt (fun e => by unfold GL.wt; omega) a.links
  refine pcall_of Tryd.func12 rfl Tryd.ntmps12 (by kernel_rfl) rfl fun w0 I0 G0 => ?_
  refine aw_seq ?_
  refine aw_region ?_
  refine g_uG (s_box_imm 1002 rfl rfl rfl rfl) rfl ?_
  refine g_uG (s_box_imm 1003 rfl rfl rfl rfl) rfl ?_
  refine g_u (s_as_imm rfl rfl) ?_
  refine g_nil ?_
  refine normal_thn ?_
  refine aw_seq ?_
  refine aw_region ?_
  refine g_u (s_fieldAddr rfl rfl fa33_0 rfl) ?_
  refine g_u (s_load_imm rfl rfl rfl tA23 tS23 rfl rfl) ?_
  refine g_u (s_fieldAddr rfl rfl fa33_0 rfl) ?_
  refine g_u (s_load_imm rfl rfl rfl tA23 tS23 rfl rfl) ?_
  refine g_u (s_eqA rfl rfl rfl eg23 rfl rfl (eq23 _ _)) ?_
  refine g_u (s_mv_imm rfl rfl) ?_
  refine g_case (t := 11) rfl ?_
  rintro (hb1 | hb1)
  · rw [hb1]
    have e0 : a.trace = b.trace := by have e := hb1; simpa using e
    refine g_run rfl rfl (s_fieldAddr rfl rfl fa33_1 rfl) ?_
    refine g_run rfl rfl (s_load_imm rfl rfl rfl tA25 tS25 rfl rfl) ?_
    refine g_run rfl rfl (s_fieldAddr rfl rfl fa33_1 rfl) ?_
    refine g_run rfl rfl (s_load_imm rfl rfl rfl tA25 tS25 rfl rfl) ?_
    refine g_run rfl rfl (s_eqA rfl rfl rfl eg25 rfl rfl (eq25 _ _)) ?_
    refine g_u (s_pick_t rfl rfl rfl) ?_
    refine g_u (s_mv_imm rfl rfl) ?_
    refine g_case (t := 18) rfl ?_
    rintro (hb2 | hb2)
    · rw [hb2]
      have e1 : a.id = b.id := by have e := hb2; simpa using e
      refine g_run rfl rfl (s_fieldAddr rfl rfl fa33_2 rfl) ?_
      refine g_run rfl rfl (s_load_imm rfl rfl rfl tA25 tS25 rfl rfl) ?_
      refine g_run rfl rfl (s_fieldAddr rfl rfl fa33_2 rfl) ?_
      refine g_run rfl rfl (s_load_imm rfl rfl rfl tA25 tS25 rfl rfl) ?_
      refine g_run rfl rfl (s_eqA rfl rfl rfl eg25 rfl rfl (eq25 _ _)) ?_
      refine g_u (s_pick_t rfl rfl rfl) ?_
      refine g_u (s_mv_imm rfl rfl) ?_
      refine g_case (t := 25) rfl ?_
      rintro (hb3 | hb3)
      · rw [hb3]
        have e2 : a.parent = b.parent := by have e := hb3; simpa using e
        refine g_run rfl rfl (s_fieldAddr rfl rfl fa33_3 rfl) ?_
        refine g_run rfl rfl (s_load_imm rfl rfl rfl tA9 tS9 rfl rfl) ?_
        refine g_run rfl rfl (s_fieldAddr rfl rfl fa33_3 rfl) ?_
        refine g_run rfl rfl (s_load_imm rfl rfl rfl tA9 tS9 rfl rfl) ?_
        refine g_run rfl rfl (s_eqS rfl rfl rfl) ?_
        refine g_u (s_pick_t rfl rfl rfl) ?_
        refine g_u (s_mv_imm rfl rfl) ?_
        refine g_case (t := 32) rfl ?_
        rintro (hb4 | hb4)
        · rw [hb4]
          have e3 : a.state = b.state := by have e := hb4; rw [str_beq] at e; simpa using e
          refine g_run rfl rfl (s_fieldAddr rfl rfl fa33_4 rfl) ?_
          refine g_run rfl rfl (s_load_imm rfl rfl rfl tA9 tS9 rfl rfl) ?_
          refine g_run rfl rfl (s_fieldAddr rfl rfl fa33_4 rfl) ?_
          refine g_run rfl rfl (s_load_imm rfl rfl rfl tA9 tS9 rfl rfl) ?_
          refine g_run rfl rfl (s_eqS rfl rfl rfl) ?_
          refine g_u (s_pick_t rfl rfl rfl) ?_
          refine g_u (s_as_imm rfl rfl) ?_
          refine g_nil ?_
          refine normal_thn ?_
          refine aw_seq ?_
          refine aw_seq ?_
          refine aw_region ?_
          refine g_u (s_mv_imm rfl rfl) ?_
          refine g_u (s_not rfl rfl) ?_
          refine g_u (s_mv_imm rfl rfl) ?_
          refine g_case (t := 41) rfl ?_
          rintro (hb5 | hb5)
          · rw [hb5]
            have q : ¬ a.name = b.name := by have e := hb5; rw [str_beq] at e; simpa using e
            refine g_skip rfl rfl rfl ?_
            refine g_skip rfl rfl rfl ?_
            refine g_skip rfl rfl rfl ?_
            refine g_skip rfl rfl rfl ?_
            refine g_skip rfl rfl rfl ?_
            refine g_u (s_pick_t rfl rfl rfl) ?_
            refine g_u (s_mv_imm rfl rfl) ?_
            refine g_skip rfl rfl rfl ?_
            refine g_skip rfl rfl rfl ?_
            refine g_skip rfl rfl rfl ?_
            refine g_skip rfl rfl rfl ?_
            refine g_skip rfl rfl rfl ?_
            refine g_u (s_pick_t rfl rfl rfl) ?_
            refine g_u (s_mv_imm rfl rfl) ?_
            refine g_skip rfl rfl rfl ?_
            refine g_skip rfl rfl rfl ?_
            refine g_skip rfl rfl rfl ?_
            refine g_skip rfl rfl rfl ?_
            refine g_skip rfl rfl rfl ?_
            refine g_u (s_pick_t rfl rfl rfl) ?_
            refine g_u (s_mv_imm rfl rfl) ?_
            refine g_skip rfl rfl rfl ?_
            refine g_skip rfl rfl rfl ?_
            refine g_skip rfl rfl rfl ?_
            refine g_skip rfl rfl rfl ?_
            refine g_skip rfl rfl rfl ?_
            refine g_u (s_pick_t rfl rfl rfl) ?_
            refine g_u (s_mv_imm rfl rfl) ?_
            refine g_skip rfl rfl rfl ?_
            refine g_skip rfl rfl rfl ?_
            refine g_skip rfl rfl rfl ?_
            refine g_skip rfl rfl rfl ?_
            refine g_skip rfl rfl rfl ?_
            refine g_skip rfl rfl rfl ?_
            refine g_u (s_pick_t rfl rfl rfl) ?_
            refine g_nil ?_
            refine normal_thn ?_
            refine aw_cond_true rfl ?_
            refine aw_seq ?_
            refine aw_region ?_
            refine g_u (s_as_imm rfl rfl) ?_
            refine g_nil ?_
            refine normal_thn ?_
            refine aw_ret ?_
            refine ret_thn ?_
            exact ⟨⟨(rfl : toAV (Al.look _ _) = some _).trans (congrArg some (by (exact congrArg bv (by first | exact (decide_eq_false (fun e => q ⟨congrArg GSpan.code e, congrArg GSpan.note e⟩)).symm | exact (decide_eq_false (fun e => q (by rw [e]))).symm | (rw [Bool.eq_iff_iff, decide_eq_true_iff, decide_eq_true_iff]; exact ⟨fun h => GSpan.ext' e0 e1 e2 e3 e4 e5 e6 e7 e9 e10 h e8.1 e8.2, fun h => by rw [h]⟩))))), rfl⟩, trivial⟩
          · rw [hb5]
            have e4 : a.name = b.name := by have e := hb5; rw [str_beq] at e; simpa using e
            refine g_run rfl rfl (s_fieldAddr rfl rfl fa33_5 rfl) ?_
            refine g_run rfl rfl (s_load_imm rfl rfl rfl tA3 tS3 rfl rfl) ?_
            refine g_run rfl rfl (s_fieldAddr rfl rfl fa33_5 rfl) ?_
            refine g_run rfl rfl (s_load_imm rfl rfl rfl tA3 tS3 rfl rfl) ?_
            refine g_run rfl rfl (s_neI rfl rfl rfl) ?_
            refine g_u (s_pick_f rfl rfl rfl) ?_
            refine g_u (s_mv_imm rfl rfl) ?_
            refine g_case (t := 48) rfl ?_
            rintro (hb6 | hb6)
            · rw [hb6]
              have q : ¬ a.kind = b.kind := bne_iff_ne.1 hb6
              refine g_skip rfl rfl rfl ?_
              refine g_skip rfl rfl rfl ?_
              refine g_skip rfl rfl rfl ?_
              refine g_skip rfl rfl rfl ?_
              refine g_skip rfl rfl rfl ?_
              refine g_u (s_pick_t rfl rfl rfl) ?_
              refine g_u (s_mv_imm rfl rfl) ?_
              refine g_skip rfl rfl rfl ?_
              refine g_skip rfl rfl rfl ?_
              refine g_skip rfl rfl rfl ?_
              refine g_skip rfl rfl rfl ?_
              refine g_skip rfl rfl rfl ?_
              refine g_u (s_pick_t rfl rfl rfl) ?_
              refine g_u (s_mv_imm rfl rfl) ?_
              refine g_skip rfl rfl rfl ?_
              refine g_skip rfl rfl rfl ?_
              refine g_skip rfl rfl rfl ?_
              refine g_skip rfl rfl rfl ?_
              refine g_skip rfl rfl rfl ?_
              refine g_u (s_pick_t rfl rfl rfl) ?_
              refine g_u (s_mv_imm rfl rfl) ?_
              refine g_skip rfl rfl rfl ?_
              refine g_skip rfl rfl rfl ?_
              refine g_skip rfl rfl rfl ?_
              refine g_skip rfl rfl rfl ?_
              refine g_skip rfl rfl rfl ?_
              refine g_skip rfl rfl rfl ?_
              refine g_u (s_pick_t rfl rfl rfl) ?_
              refine g_nil ?_
              refine normal_thn ?_
              refine aw_cond_true rfl ?_
              refine aw_seq ?_
              refine aw_region ?_
              refine g_u (s_as_imm rfl rfl) ?_
              refine g_nil ?_
              refine normal_thn ?_
              refine aw_ret ?_
              refine ret_thn ?_
              exact ⟨⟨(rfl : toAV (Al.look _ _) = some _).trans (congrArg some (by (exact congrArg bv (by first | exact (decide_eq_false (fun e => q ⟨congrArg GSpan.code e, congrArg GSpan.note e⟩)).symm | exact (decide_eq_false (fun e => q (by rw [e]))).symm | (rw [Bool.eq_iff_iff, decide_eq_true_iff, decide_eq_true_iff]; exact ⟨fun h => GSpan.ext' e0 e1 e2 e3 e4 e5 e6 e7 e9 e10 h e8.1 e8.2, fun h => by rw [h]⟩))))), rfl⟩, trivial⟩
            · rw [hb6]
              have e5 : a.kind = b.kind := bne_eq_false_iff_eq.1 hb6
              refine g_run rfl rfl (s_fieldAddr rfl rfl fa33_6 rfl) ?_
              refine g_run rfl rfl (s_load_imm rfl rfl rfl tA26 tS26 rfl rfl) ?_
              refine g_run rfl rfl (s_fieldAddr rfl rfl fa33_6 rfl) ?_
              refine g_run rfl rfl (s_load_imm rfl rfl rfl tA26 tS26 rfl rfl) ?_
              refine g_run rfl rfl (s_neI rfl rfl rfl) ?_
              refine g_u (s_pick_f rfl rfl rfl) ?_
              refine g_u (s_mv_imm rfl rfl) ?_
              refine g_case (t := 55) rfl ?_
              rintro (hb7 | hb7)
              · rw [hb7]
                have q : ¬ a.start = b.start := bne_iff_ne.1 hb7
                refine g_skip rfl rfl rfl ?_
                refine g_skip rfl rfl rfl ?_
                refine g_skip rfl rfl rfl ?_
                refine g_skip rfl rfl rfl ?_
                refine g_skip rfl rfl rfl ?_
                refine g_u (s_pick_t rfl rfl rfl) ?_
                refine g_u (s_mv_imm rfl rfl) ?_
                refine g_skip rfl rfl rfl ?_
                refine g_skip rfl rfl rfl ?_
                refine g_skip rfl rfl rfl ?_
                refine g_skip rfl rfl rfl ?_
                refine g_skip rfl rfl rfl ?_
                refine g_u (s_pick_t rfl rfl rfl) ?_
                refine g_u (s_mv_imm rfl rfl) ?_
                refine g_skip rfl rfl rfl ?_
                refine g_skip rfl rfl rfl ?_
                refine g_skip rfl rfl rfl ?_
                refine g_skip rfl rfl rfl ?_
                refine g_skip rfl rfl rfl ?_
                refine g_skip rfl rfl rfl ?_
                refine g_u (s_pick_t rfl rfl rfl) ?_
                refine g_nil ?_
                refine normal_thn ?_
                refine aw_cond_true rfl ?_
                refine aw_seq ?_
                refine aw_region ?_
                refine g_u (s_as_imm rfl rfl) ?_
                refine g_nil ?_
                refine normal_thn ?_
                refine aw_ret ?_
                refine ret_thn ?_
                exact ⟨⟨(rfl : toAV (Al.look _ _) = some _).trans (congrArg some (by (exact congrArg bv (by first | exact (decide_eq_false (fun e => q ⟨congrArg GSpan.code e, congrArg GSpan.note e⟩)).symm | exact (decide_eq_false (fun e => q (by rw [e]))).symm | (rw [Bool.eq_iff_iff, decide_eq_true_iff, decide_eq_true_iff]; exact ⟨fun h => GSpan.ext' e0 e1 e2 e3 e4 e5 e6 e7 e9 e10 h e8.1 e8.2, fun h => by rw [h]⟩))))), rfl⟩, trivial⟩
              · rw [hb7]
                have e6 : a.start = b.start := bne_eq_false_iff_eq.1 hb7
                refine g_run rfl rfl (s_fieldAddr rfl rfl fa33_7 rfl) ?_
                refine g_run rfl rfl (s_load_imm rfl rfl rfl tA26 tS26 rfl rfl) ?_
                refine g_run rfl rfl (s_fieldAddr rfl rfl fa33_7 rfl) ?_
                refine g_run rfl rfl (s_load_imm rfl rfl rfl tA26 tS26 rfl rfl) ?_
                refine g_run rfl rfl (s_neI rfl rfl rfl) ?_
                refine g_u (s_pick_f rfl rfl rfl) ?_
                refine g_u (s_mv_imm rfl rfl) ?_
                refine g_case (t := 62) rfl ?_
                rintro (hb8 | hb8)
                · rw [hb8]
                  have q : ¬ a.fin = b.fin := bne_iff_ne.1 hb8
                  refine g_skip rfl rfl rfl ?_
                  refine g_skip rfl rfl rfl ?_
                  refine g_skip rfl rfl rfl ?_
                  refine g_skip rfl rfl rfl ?_
                  refine g_skip rfl rfl rfl ?_
                  refine g_u (s_pick_t rfl rfl rfl) ?_
                  refine g_u (s_mv_imm rfl rfl) ?_
                  refine g_skip rfl rfl rfl ?_
                  refine g_skip rfl rfl rfl ?_
                  refine g_skip rfl rfl rfl ?_
                  refine g_skip rfl rfl rfl ?_
                  refine g_skip rfl rfl rfl ?_
                  refine g_skip rfl rfl rfl ?_
                  refine g_u (s_pick_t rfl rfl rfl) ?_
                  refine g_nil ?_
                  refine normal_thn ?_
                  refine aw_cond_true rfl ?_
                  refine aw_seq ?_
                  refine aw_region ?_
                  refine g_u (s_as_imm rfl rfl) ?_
                  refine g_nil ?_
                  refine normal_thn ?_
                  refine aw_ret ?_
                  refine ret_thn ?_
                  exact ⟨⟨(rfl : toAV (Al.look _ _) = some _).trans (congrArg some (by (exact congrArg bv (by first | exact (decide_eq_false (fun e => q ⟨congrArg GSpan.code e, congrArg GSpan.note e⟩)).symm | exact (decide_eq_false (fun e => q (by rw [e]))).symm | (rw [Bool.eq_iff_iff, decide_eq_true_iff, decide_eq_true_iff]; exact ⟨fun h => GSpan.ext' e0 e1 e2 e3 e4 e5 e6 e7 e9 e10 h e8.1 e8.2, fun h => by rw [h]⟩))))), rfl⟩, trivial⟩
                · rw [hb8]
                  have e7 : a.fin = b.fin := bne_eq_false_iff_eq.1 hb8
                  refine g_run rfl rfl (s_fieldAddr rfl rfl fa33_11 rfl) ?_
                  refine g_run rfl rfl (s_load_imm rfl rfl rfl tA31 tS31 rfl rfl) ?_
                  refine g_run rfl rfl (s_fieldAddr rfl rfl fa33_11 rfl) ?_
                  refine g_run rfl rfl (s_load_imm rfl rfl rfl tA31 tS31 rfl rfl) ?_
                  refine g_run rfl rfl (s_neA rfl rfl rfl eg31 rfl rfl (eq31 _ _ _ _)) ?_
                  refine g_u (s_pick_f rfl rfl rfl) ?_
                  refine g_u (s_mv_imm rfl rfl) ?_
                  refine g_case (t := 69) rfl ?_
                  rintro (hb9 | hb9)
                  · rw [hb9]
                    have q : ¬ (a.code = b.code ∧ a.note = b.note) := fun h => by have e := hb9; rw [str_beq, h.1, h.2] at e; simp at e
                    refine g_skip rfl rfl rfl ?_
                    refine g_skip rfl rfl rfl ?_
                    refine g_skip rfl rfl rfl ?_
                    refine g_skip rfl rfl rfl ?_
                    refine g_skip rfl rfl rfl ?_
                    refine g_skip rfl rfl rfl ?_
                    refine g_u (s_pick_t rfl rfl rfl) ?_
                    refine g_nil ?_
                    refine normal_thn ?_
                    refine aw_cond_true rfl ?_
                    refine aw_seq ?_
                    refine aw_region ?_
                    refine g_u (s_as_imm rfl rfl) ?_
                    refine g_nil ?_
                    refine normal_thn ?_
                    refine aw_ret ?_
                    refine ret_thn ?_
                    exact ⟨⟨(rfl : toAV (Al.look _ _) = some _).trans (congrArg some (by (exact congrArg bv (by first | exact (decide_eq_false (fun e => q ⟨congrArg GSpan.code e, congrArg GSpan.note e⟩)).symm | exact (decide_eq_false (fun e => q (by rw [e]))).symm | (rw [Bool.eq_iff_iff, decide_eq_true_iff, decide_eq_true_iff]; exact ⟨fun h => GSpan.ext' e0 e1 e2 e3 e4 e5 e6 e7 e9 e10 h e8.1 e8.2, fun h => by rw [h]⟩))))), rfl⟩, trivial⟩
                  · rw [hb9]
                    have e8 : a.code = b.code ∧ a.note = b.note := by have e := hb9; rw [str_beq] at e; simpa using e
                    refine g_run rfl rfl (s_fieldAddr rfl rfl fa33_8 rfl) ?_
                    refine g_run rfl rfl (s_load_imm rfl rfl rfl tA27 tS27 rfl rfl) ?_
                    refine g_run rfl rfl (s_fieldAddr rfl rfl fa33_8 rfl) ?_
                    refine g_run rfl rfl (s_load_imm rfl rfl rfl tA27 tS27 rfl rfl) ?_
                    refine g_run rfl rfl (s_call1 (psameAs_c a.attrs b.attrs (by omega)) rfl rfl) ?_
                    refine g_run rfl rfl (s_not rfl rfl) ?_
                    refine g_u (s_pick_f rfl rfl rfl) ?_
                    refine g_nil ?_
                    refine normal_thn ?_
                    refine aw_cond rfl (fun hb10 => ?_) (fun hb10 => ?_)
                    · skip
                      have q : ¬ a.attrs = b.attrs := fun h => by have e := hb10; rw [h, sameAs_refl] at e; cases e
                      refine aw_seq ?_
                      refine aw_region ?_
                      refine g_u (s_as_imm rfl rfl) ?_
                      refine g_nil ?_
                      refine normal_thn ?_
                      refine aw_ret ?_
                      refine ret_thn ?_
                      exact ⟨⟨(rfl : toAV (Al.look _ _) = some _).trans (congrArg some (by (exact congrArg bv (by first | exact (decide_eq_false (fun e => q ⟨congrArg GSpan.code e, congrArg GSpan.note e⟩)).symm | exact (decide_eq_false (fun e => q (by rw [e]))).symm | (rw [Bool.eq_iff_iff, decide_eq_true_iff, decide_eq_true_iff]; exact ⟨fun h => GSpan.ext' e0 e1 e2 e3 e4 e5 e6 e7 e9 e10 h e8.1 e8.2, fun h => by rw [h]⟩))))), rfl⟩, trivial⟩
                    · skip
                      have e9 : a.attrs = b.attrs := (sameAs_iff _ _).1 (by have e := hb10; simpa using e)
                      refine aw_skip ?_
                      refine normal_thn ?_
                      refine aw_seq ?_
                      refine aw_region ?_
                      refine g_u (s_fieldAddr rfl rfl fa33_9 rfl) ?_
                      refine g_u (s_load_imm rfl rfl rfl tA28 tS28 rfl rfl) ?_
                      refine g_u (s_fieldAddr rfl rfl fa33_9 rfl) ?_
                      refine g_u (s_load_imm rfl rfl rfl tA28 tS28 rfl rfl) ?_
                      refine g_u (s_call1 (eqdE_c a.events b.events 42 (by omega) (fun x hx y => sameE_c x y (by have h5 := sumBy_mem GE.wt hx; have h6 : x.wt = 1 + x.name.size + wtAs x.attrs := rfl; omega))) rfl rfl) ?_
                      refine g_u (s_mv_imm rfl rfl) ?_
                      refine g_case (t := 82) rfl ?_
                      rintro (hb11 | hb11)
                      · rw [hb11]
                        have e10 : a.events = b.events := of_decide_eq_true hb11
                        refine g_run rfl rfl (s_fieldAddr rfl rfl fa33_10 rfl) ?_
                        refine g_run rfl rfl (s_load_imm rfl rfl rfl tA29 tS29 rfl rfl) ?_
                        refine g_run rfl rfl (s_fieldAddr rfl rfl fa33_10 rfl) ?_
                        refine g_run rfl rfl (s_load_imm rfl rfl rfl tA29 tS29 rfl rfl) ?_
                        refine g_run rfl rfl (s_call1 (eqdL_c a.links b.links 44 (by omega) (fun x hx y => sameL_c x y (by have h5 := sumBy_mem GL.wt hx; have h6 : x.wt = 1 + x.state.size + wtAs x.attrs := rfl; omega))) rfl rfl) ?_
                        refine g_u (s_pick_t rfl rfl rfl) ?_
                        refine g_u (s_as_imm rfl rfl) ?_
                        refine g_nil ?_
                        refine normal_thn ?_
                        refine aw_ret ?_
                        exact ⟨⟨(rfl : toAV (Al.look _ _) = some _).trans (congrArg some (by (exact congrArg bv (by first | exact (decide_eq_false (fun e => q ⟨congrArg GSpan.code e, congrArg GSpan.note e⟩)).symm | exact (decide_eq_false (fun e => q (by rw [e]))).symm | (rw [Bool.eq_iff_iff, decide_eq_true_iff, decide_eq_true_iff]; exact ⟨fun h => GSpan.ext' e0 e1 e2 e3 e4 e5 e6 e7 e9 e10 h e8.1 e8.2, fun h => by rw [h]⟩))))), rfl⟩, trivial⟩
                      · rw [hb11]
                        have q : ¬ a.events = b.events := of_decide_eq_false hb11
                        refine g_skip rfl rfl rfl ?_
                        refine g_skip rfl rfl rfl ?_
                        refine g_skip rfl rfl rfl ?_
                        refine g_skip rfl rfl rfl ?_
                        refine g_skip rfl rfl rfl ?_
                        refine g_u (s_pick_f rfl rfl rfl) ?_
                        refine g_u (s_as_imm rfl rfl) ?_
                        refine g_nil ?_
                        refine normal_thn ?_
                        refine aw_ret ?_
                        exact ⟨⟨(rfl : toAV (Al.look _ _) = some _).trans (congrArg some (by (exact congrArg bv (by first | exact (decide_eq_false (fun e => q ⟨congrArg GSpan.code e, congrArg GSpan.note e⟩)).symm | exact (decide_eq_false (fun e => q (by rw [e]))).symm | (rw [Bool.eq_iff_iff, decide_eq_true_iff, decide_eq_true_iff]; exact ⟨fun h => GSpan.ext' e0 e1 e2 e3 e4 e5 e6 e7 e9 e10 h e8.1 e8.2, fun h => by rw [h]⟩))))), rfl⟩, trivial⟩
        · rw [hb4]
          have q : ¬ a.state = b.state := by have e := hb4; rw [str_beq] at e; simpa using e
          refine g_skip rfl rfl rfl ?_
          refine g_skip rfl rfl rfl ?_
          refine g_skip rfl rfl rfl ?_
          refine g_skip rfl rfl rfl ?_
          refine g_skip rfl rfl rfl ?_
          refine g_u (s_pick_f rfl rfl rfl) ?_
          refine g_u (s_as_imm rfl rfl) ?_
          refine g_nil ?_
          refine normal_thn ?_
          refine aw_seq ?_
          refine aw_seq ?_
          refine aw_region ?_
          refine g_u (s_mv_imm rfl rfl) ?_
          refine g_u (s_not rfl rfl) ?_
          refine g_u (s_mv_imm rfl rfl) ?_
          refine g_skip rfl rfl rfl ?_
          refine g_skip rfl rfl rfl ?_
          refine g_skip rfl rfl rfl ?_
          refine g_skip rfl rfl rfl ?_
          refine g_skip rfl rfl rfl ?_
          refine g_u (s_pick_t rfl rfl rfl) ?_
          refine g_u (s_mv_imm rfl rfl) ?_
          refine g_skip rfl rfl rfl ?_
          refine g_skip rfl rfl rfl ?_
          refine g_skip rfl rfl rfl ?_
          refine g_skip rfl rfl rfl ?_
          refine g_skip rfl rfl rfl ?_
          refine g_u (s_pick_t rfl rfl rfl) ?_
          refine g_u (s_mv_imm rfl rfl) ?_
          refine g_skip rfl rfl rfl ?_
          refine g_skip rfl rfl rfl ?_
          refine g_skip rfl rfl rfl ?_
          refine g_skip rfl rfl rfl ?_
          refine g_skip rfl rfl rfl ?_
          refine g_u (s_pick_t rfl rfl rfl) ?_
          refine g_u (s_mv_imm rfl rfl) ?_
          refine g_skip rfl rfl rfl ?_
          refine g_skip rfl rfl rfl ?_
          refine g_skip rfl rfl rfl ?_
          refine g_skip rfl rfl rfl ?_
          refine g_skip rfl rfl rfl ?_
          refine g_u (s_pick_t rfl rfl rfl) ?_
          refine g_u (s_mv_imm rfl rfl) ?_
          refine g_skip rfl rfl rfl ?_
          refine g_skip rfl rfl rfl ?_
          refine g_skip rfl rfl rfl ?_
          refine g_skip rfl rfl rfl ?_
          refine g_skip rfl rfl rfl ?_
          refine g_skip rfl rfl rfl ?_
          refine g_u (s_pick_t rfl rfl rfl) ?_
          refine g_nil ?_
          refine normal_thn ?_
          refine aw_cond_true rfl ?_
          refine aw_seq ?_
          refine aw_region ?_
          refine g_u (s_as_imm rfl rfl) ?_
          refine g_nil ?_
          refine normal_thn ?_
          refine aw_ret ?_
          refine ret_thn ?_
          exact ⟨⟨(rfl : toAV (Al.look _ _) = some _).trans (congrArg some (by (exact congrArg bv (by first | exact (decide_eq_false (fun e => q ⟨congrArg GSpan.code e, congrArg GSpan.note e⟩)).symm | exact (decide_eq_false (fun e => q (by rw [e]))).symm | (rw [Bool.eq_iff_iff, decide_eq_true_iff, decide_eq_true_iff]; exact ⟨fun h => GSpan.ext' e0 e1 e2 e3 e4 e5 e6 e7 e9 e10 h e8.1 e8.2, fun h => by rw [h]⟩))))), rfl⟩, trivial⟩
      · rw [hb3]
        have q : ¬ a.parent = b.parent := by have e := hb3; simpa using e
        refine g_skip rfl rfl rfl ?_
        refine g_skip rfl rfl rfl ?_
        refine g_skip rfl rfl rfl ?_
        refine g_skip rfl rfl rfl ?_
        refine g_skip rfl rfl rfl ?_
        refine g_u (s_pick_f rfl rfl rfl) ?_
        refine g_u (s_mv_imm rfl rfl) ?_
        refine g_skip rfl rfl rfl ?_
        refine g_skip rfl rfl rfl ?_
        refine g_skip rfl rfl rfl ?_
        refine g_skip rfl rfl rfl ?_
        refine g_skip rfl rfl rfl ?_
        refine g_u (s_pick_f rfl rfl rfl) ?_
        refine g_u (s_as_imm rfl rfl) ?_
        refine g_nil ?_
        refine normal_thn ?_
        refine aw_seq ?_
        refine aw_seq ?_
        refine aw_region ?_
        refine g_u (s_mv_imm rfl rfl) ?_
        refine g_u (s_not rfl rfl) ?_
        refine g_u (s_mv_imm rfl rfl) ?_
        refine g_skip rfl rfl rfl ?_
        refine g_skip rfl rfl rfl ?_
        refine g_skip rfl rfl rfl ?_
        refine g_skip rfl rfl rfl ?_
        refine g_skip rfl rfl rfl ?_
        refine g_u (s_pick_t rfl rfl rfl) ?_
        refine g_u (s_mv_imm rfl rfl) ?_
        refine g_skip rfl rfl rfl ?_
        refine g_skip rfl rfl rfl ?_
        refine g_skip rfl rfl rfl ?_
        refine g_skip rfl rfl rfl ?_
        refine g_skip rfl rfl rfl ?_
        refine g_u (s_pick_t rfl rfl rfl) ?_
        refine g_u (s_mv_imm rfl rfl) ?_
        refine g_skip rfl rfl rfl ?_
        refine g_skip rfl rfl rfl ?_
        refine g_skip rfl rfl rfl ?_
        refine g_skip rfl rfl rfl ?_
        refine g_skip rfl rfl rfl ?_
        refine g_u (s_pick_t rfl rfl rfl) ?_
        refine g_u (s_mv_imm rfl rfl) ?_
        refine g_skip rfl rfl rfl ?_
        refine g_skip rfl rfl rfl ?_
        refine g_skip rfl rfl rfl ?_
        refine g_skip rfl rfl rfl ?_
        refine g_skip rfl rfl rfl ?_
        refine g_u (s_pick_t rfl rfl rfl) ?_
        refine g_u (s_mv_imm rfl rfl) ?_
        refine g_skip rfl rfl rfl ?_
        refine g_skip rfl rfl rfl ?_
        refine g_skip rfl rfl rfl ?_
        refine g_skip rfl rfl rfl ?_
        refine g_skip rfl rfl rfl ?_
        refine g_skip rfl rfl rfl ?_
        refine g_u (s_pick_t rfl rfl rfl) ?_
        refine g_nil ?_
        refine normal_thn ?_
        refine aw_cond_true rfl ?_
        refine aw_seq ?_
        refine aw_region ?_
        refine g_u (s_as_imm rfl rfl) ?_
        refine g_nil ?_
        refine normal_thn ?_
        refine aw_ret ?_
        refine ret_thn ?_
        exact ⟨⟨(rfl : toAV (Al.look _ _) = some _).trans (congrArg some (by (exact congrArg bv (by first | exact (decide_eq_false (fun e => q ⟨congrArg GSpan.code e, congrArg GSpan.note e⟩)).symm | exact (decide_eq_false (fun e => q (by rw [e]))).symm | (rw [Bool.eq_iff_iff, decide_eq_true_iff, decide_eq_true_iff]; exact ⟨fun h => GSpan.ext' e0 e1 e2 e3 e4 e5 e6 e7 e9 e10 h e8.1 e8.2, fun h => by rw [h]⟩))))), rfl⟩, trivial⟩
    · rw [hb2]
      have q : ¬ a.id = b.id := by have e := hb2; simpa using e
      refine g_skip rfl rfl rfl ?_
      refine g_skip rfl rfl rfl ?_
      refine g_skip rfl rfl rfl ?_
      refine g_skip rfl rfl rfl ?_
      refine g_skip rfl rfl rfl ?_
      refine g_u (s_pick_f rfl rfl rfl) ?_
      refine g_u (s_mv_imm rfl rfl) ?_
      refine g_skip rfl rfl rfl ?_
      refine g_skip rfl rfl rfl ?_
      refine g_skip rfl rfl rfl ?_
      refine g_skip rfl rfl rfl ?_
      refine g_skip rfl rfl rfl ?_
      refine g_u (s_pick_f rfl rfl rfl) ?_
      refine g_u (s_mv_imm rfl rfl) ?_
      refine g_skip rfl rfl rfl ?_
      refine g_skip rfl rfl rfl ?_
      refine g_skip rfl rfl rfl ?_
      refine g_skip rfl rfl rfl ?_
      refine g_skip rfl rfl rfl ?_
      refine g_u (s_pick_f rfl rfl rfl) ?_
      refine g_u (s_as_imm rfl rfl) ?_
      refine g_nil ?_
      refine normal_thn ?_
      refine aw_seq ?_
      refine aw_seq ?_
      refine aw_region ?_
      refine g_u (s_mv_imm rfl rfl) ?_
      refine g_u (s_not rfl rfl) ?_
      refine g_u (s_mv_imm rfl rfl) ?_
      refine g_skip rfl rfl rfl ?_
      refine g_skip rfl rfl rfl ?_
      refine g_skip rfl rfl rfl ?_
      refine g_skip rfl rfl rfl ?_
      refine g_skip rfl rfl rfl ?_
      refine g_u (s_pick_t rfl rfl rfl) ?_
      refine g_u (s_mv_imm rfl rfl) ?_
      refine g_skip rfl rfl rfl ?_
      refine g_skip rfl rfl rfl ?_
      refine g_skip rfl rfl rfl ?_
      refine g_skip rfl rfl rfl ?_
      refine g_skip rfl rfl rfl ?_
      refine g_u (s_pick_t rfl rfl rfl) ?_
      refine g_u (s_mv_imm rfl rfl) ?_
      refine g_skip rfl rfl rfl ?_
      refine g_skip rfl rfl rfl ?_
      refine g_skip rfl rfl rfl ?_
      refine g_skip rfl rfl rfl ?_
      refine g_skip rfl rfl rfl ?_
      refine g_u (s_pick_t rfl rfl rfl) ?_
      refine g_u (s_mv_imm rfl rfl) ?_
      refine g_skip rfl rfl rfl ?_
      refine g_skip rfl rfl rfl ?_
      refine g_skip rfl rfl rfl ?_
      refine g_skip rfl rfl rfl ?_
      refine g_skip rfl rfl rfl ?_
      refine g_u (s_pick_t rfl rfl rfl) ?_
      refine g_u (s_mv_imm rfl rfl) ?_
      refine g_skip rfl rfl rfl ?_
      refine g_skip rfl rfl rfl ?_
      refine g_skip rfl rfl rfl ?_
      refine g_skip rfl rfl rfl ?_
      refine g_skip rfl rfl rfl ?_
      refine g_skip rfl rfl rfl ?_
      refine g_u (s_pick_t rfl rfl rfl) ?_
      refine g_nil ?_
      refine normal_thn ?_
      refine aw_cond_true rfl ?_
      refine aw_seq ?_
      refine aw_region ?_
      refine g_u (s_as_imm rfl rfl) ?_
      refine g_nil ?_
      refine normal_thn ?_
      refine aw_ret ?_
      refine ret_thn ?_
      exact ⟨⟨(rfl : toAV (Al.look _ _) = some _).trans (congrArg some (by (exact congrArg bv (by first | exact (decide_eq_false (fun e => q ⟨congrArg GSpan.code e, congrArg GSpan.note e⟩)).symm | exact (decide_eq_false (fun e => q (by rw [e]))).symm | (rw [Bool.eq_iff_iff, decide_eq_true_iff, decide_eq_true_iff]; exact ⟨fun h => GSpan.ext' e0 e1 e2 e3 e4 e5 e6 e7 e9 e10 h e8.1 e8.2, fun h => by rw [h]⟩))))), rfl⟩, trivial⟩
  · rw [hb1]
    have q : ¬ a.trace = b.trace := by have e := hb1; simpa using e
    refine g_skip rfl rfl rfl ?_
    refine g_skip rfl rfl rfl ?_
    refine g_skip rfl rfl rfl ?_
    refine g_skip rfl rfl rfl ?_
    refine g_skip rfl rfl rfl ?_
    refine g_u (s_pick_f rfl rfl rfl) ?_
    refine g_u (s_mv_imm rfl rfl) ?_
    refine g_skip rfl rfl rfl ?_
    refine g_skip rfl rfl rfl ?_
    refine g_skip rfl rfl rfl ?_
    refine g_skip rfl rfl rfl ?_
    refine g_skip rfl rfl rfl ?_
    refine g_u (s_pick_f rfl rfl rfl) ?_
    refine g_u (s_mv_imm rfl rfl) ?_
    refine g_skip rfl rfl rfl ?_
    refine g_skip rfl rfl rfl ?_
    refine g_skip rfl rfl rfl ?_
    refine g_skip rfl rfl rfl ?_
    refine g_skip rfl rfl rfl ?_
    refine g_u (s_pick_f rfl rfl rfl) ?_
    refine g_u (s_mv_imm rfl rfl) ?_
    refine g_skip rfl rfl rfl ?_
    refine g_skip rfl rfl rfl ?_
    refine g_skip rfl rfl rfl ?_
    refine g_skip rfl rfl rfl ?_
    refine g_skip rfl rfl rfl ?_
    refine g_u (s_pick_f rfl rfl rfl) ?_
    refine g_u (s_as_imm rfl rfl) ?_
    refine g_nil ?_
    refine normal_thn ?_
    refine aw_seq ?_
    refine aw_seq ?_
    refine aw_region ?_
    refine g_u (s_mv_imm rfl rfl) ?_
    refine g_u (s_not rfl rfl) ?_
    refine g_u (s_mv_imm rfl rfl) ?_
    refine g_skip rfl rfl rfl ?_
    refine g_skip rfl rfl rfl ?_
    refine g_skip rfl rfl rfl ?_
    refine g_skip rfl rfl rfl ?_
    refine g_skip rfl rfl rfl ?_
    refine g_u (s_pick_t rfl rfl rfl) ?_
    refine g_u (s_mv_imm rfl rfl) ?_
    refine g_skip rfl rfl rfl ?_
    refine g_skip rfl rfl rfl ?_
    refine g_skip rfl rfl rfl ?_
    refine g_skip rfl rfl rfl ?_
    refine g_skip rfl rfl rfl ?_
    refine g_u (s_pick_t rfl rfl rfl) ?_
    refine g_u (s_mv_imm rfl rfl) ?_
    refine g_skip rfl rfl rfl ?_
    refine g_skip rfl rfl rfl ?_
    refine g_skip rfl rfl rfl ?_
    refine g_skip rfl rfl rfl ?_
    refine g_skip rfl rfl rfl ?_
    refine g_u (s_pick_t rfl rfl rfl) ?_
    refine g_u (s_mv_imm rfl rfl) ?_
    refine g_skip rfl rfl rfl ?_
    refine g_skip rfl rfl rfl ?_
    refine g_skip rfl rfl rfl ?_
    refine g_skip rfl rfl rfl ?_
    refine g_skip rfl rfl rfl ?_
    refine g_u (s_pick_t rfl rfl rfl) ?_
    refine g_u (s_mv_imm rfl rfl) ?_
    refine g_skip rfl rfl rfl ?_
    refine g_skip rfl rfl rfl ?_
    refine g_skip rfl rfl rfl ?_
    refine g_skip rfl rfl rfl ?_
    refine g_skip rfl rfl rfl ?_
    refine g_skip rfl rfl rfl ?_
    refine g_u (s_pick_t rfl rfl rfl) ?_
    refine g_nil ?_
    refine normal_thn ?_
    refine aw_cond_true rfl ?_
    refine aw_seq ?_
    refine aw_region ?_
    refine g_u (s_as_imm rfl rfl) ?_
    refine g_nil ?_
    refine normal_thn ?_
    refine aw_ret ?_
    refine ret_thn ?_
    exact ⟨⟨(rfl : toAV (Al.look _ _) = some _).trans (congrArg some (by (exact congrArg bv (by first | exact (decide_eq_false (fun e => q ⟨congrArg GSpan.code e, congrArg GSpan.note e⟩)).symm | exact (decide_eq_false (fun e => q (by rw [e]))).symm | (rw [Bool.eq_iff_iff, decide_eq_true_iff, decide_eq_true_iff]; exact ⟨fun h => GSpan.ext' e0 e1 e2 e3 e4 e5 e6 e7 e9 e10 h e8.1 e8.2, fun h => by rw [h]⟩))))), rfl⟩, trivial⟩

end Go.Proofs

namespace Go.Proofs
open Go Go.Al
set_option maxRecDepth 10000
set_option maxHeartbeats 8000000 in
theorem pcanonS_c (s : GSpan) (hw : s.wt ≤ 1000000) : PCall Tryd.prog Γ0 14 [s.av] [(canonS s).av] := by
  have qw : s.wt = 1 + s.state.size + s.name.size + s.note.size + wtAs s.attrs + sumBy GE.wt s.events + sumBy GL.wt s.links := rfl
  have ql := sumBy_len GE.wt (fun e => by unfold GE.wt; omega) s.events
  have qm := sumBy_len GL.wt (fun e => by unfold GL.wt; omega) s.links
  refine pcall_of Tryd.func14 rfl Tryd.ntmps14 (by kernel_rfl) rfl fun w0 I0 G0 => ?_
  refine aw_seq ?_
  refine aw_region ?_
  refine g_uG (s_box_imm 1001 rfl rfl rfl rfl) rfl ?_
  refine g_uG (s_alloc' 1002 rfl rfl rfl tZ33) rfl ?_
  refine g_nil ?_
  refine normal_thn ?_
  refine aw_seq ?_
  refine aw_region ?_
  refine g_u (s_fieldAddr rfl rfl fa33_8 rfl) ?_
  refine g_u (s_load_imm rfl rfl rfl tA27 tS27 rfl rfl) ?_
  refine g_u (s_call1 (pcanonAs_c s.attrs (by omega)) rfl rfl) ?_
  refine g_u (s_fieldAddr rfl rfl fa33_8 rfl) ?_
  refine g_u (s_store_imm rfl rfl rfl tS27 rfl rfl) ?_
  refine g_nil ?_
  refine normal_thn ?_
  refine aw_pack 1001 rfl rfl ?_
  refine aw_seq ?_
  refine aw_region ?_
  refine g_u (s_as_imm rfl rfl) ?_
  refine g_nil ?_
  refine normal_thn ?_
  refine aw_newtok 3003 3 3 rfl rfl rfl rfl ?_
  refine aw_seq ?_
  refine aw_seq ?_
  refine aw_region ?_
  refine g_u (s_fieldAddr rfl rfl fa33_9 rfl) ?_
  refine g_u (s_load_imm rfl rfl rfl tA28 tS28 rfl rfl) ?_
  refine g_u (s_lenL rfl rfl Tryd.underlying28) ?_
  refine g_u (s_mv_imm rfl rfl) ?_
  refine g_nil ?_
  refine normal_thn ?_
  refine aw_block ?_
  refine aw_loop' (fun i : Nat => [(1, .ptr 1001 0), (1001, .box 33 (.imm ({ s with attrs := canonAs s.attrs } : GSpan).av)), (2, .ptr 1002 0), (1002, .box 33 (.imm z33)), (3, .slg 3003 3 ((s.events.take i).map fun e => (canonE e).av)), (3003, .tok 3 ((s.events.take i).map fun e => (canonE e).av)), (14, .imm (.sl 3 (s.events.map GE.av))), (15, .imm (iv (s.events.length : Int))), (16, .imm (iv (i : Int)))]) (fun i => i ≤ s.events.length) (fun i => s.events.length - i) (0) ?_ ⟨rfl, rfl, rfl, rfl, rfl, rfl, rfl, look_int rfl (by rw [List.length_map]), rfl, trivial⟩ ?_
  · exact Nat.zero_le _
  · rintro i h1; have h1 : i ≤ s.events.length := h1
    refine aw_seq ?_
    refine aw_region ?_
    refine g_u (s_ltI rfl rfl rfl) ?_
    refine g_nil ?_
    refine normal_thn ?_
    refine aw_seq ?_
    refine aw_cond rfl (fun hb1 => ?_) (fun hb1 => ?_)
    · skip
      have hi : i < s.events.length := by have := of_decide_eq_true hb1; (try simp only [List.length_map] at this); omega
      have hx : wtAs (nthE s.events i).attrs ≤ 10000000 := by have h5 := sumBy_mem GE.wt (nthE_mem hi); have h6 : (nthE s.events i).wt = 1 + (nthE s.events i).name.size + wtAs (nthE s.events i).attrs := rfl; omega
      refine aw_skip ?_
      refine normal_thn ?_
      refine aw_seq ?_
      refine aw_block ?_
      refine aw_seq ?_
      refine aw_region ?_
      refine g_u (s_indexAddr rfl rfl rfl Tryd.underlying28 tS70 (by omega) (ixE hi)) ?_
      refine g_u (s_load_cp rfl rfl tA70 tS70 rfl rfl) ?_
      refine g_uG (s_alloc' 1005 rfl rfl rfl tZ70) rfl ?_
      refine g_u (s_store_imm rfl rfl rfl tS70 rfl rfl) ?_
      refine g_nil ?_
      refine normal_thn ?_
      refine aw_seq ?_
      refine aw_region ?_
      refine g_u (s_fieldAddr rfl rfl fa70_2 rfl) ?_
      refine g_u (s_load_imm rfl rfl rfl tA27 tS27 rfl rfl) ?_
      refine g_u (s_call1 (pcanonAs_c (nthE s.events i).attrs hx) rfl rfl) ?_
      refine g_u (s_fieldAddr rfl rfl fa70_2 rfl) ?_
      refine g_u (s_store_imm rfl rfl rfl tS27 rfl rfl) ?_
      refine g_nil ?_
      refine normal_thn ?_
      refine aw_region ?_
      refine g_u (s_mv_slg rfl rfl) ?_
      refine g_u (s_load_agg rfl rfl rfl tA70 tS70 rfl rfl) ?_
      refine g_u (s_buildSlice (X0 := z70) rfl Tryd.underlying28 tS70 tZ70 rfl rfl rfl rfl rfl rfl rfl rfl) ?_
      refine g_u (s_append rfl rfl rfl rfl rfl Tryd.underlying28 Tryd.underlying28 tS70 zv70 rfl (by decide) by70 (by (try dsimp only); simp only [List.length_append, List.length_cons, List.length_nil, List.length_map, List.length_take, List.length_drop]; omega) (by (try dsimp only); simp only [List.length_append, List.length_cons, List.length_nil, List.length_map, List.length_take, List.length_drop]; omega)) ?_
      refine g_u (s_as_slg rfl rfl) ?_
      refine g_nil ?_
      refine normal_blk ?_
      refine normal_thn ?_
      refine aw_region ?_
      refine g_u (s_add rfl rfl rfl) ?_
      refine g_u (s_mv_imm rfl rfl) ?_
      refine g_nil ?_
      refine normal_thn ?_
      have et : ((s.events.take (i + 1)).map fun e => (canonE e).av) = ((s.events.take i).map fun e => (canonE e).av) ++ [(canonE (nthE s.events i)).av] := by rw [take_snoc (nth_get (d := ge0) hi), List.map_append]; rfl
      refine ⟨i + 1, hi, ⟨rfl, rfl, rfl, rfl, look_slg rfl et.symm, look_tok rfl et.symm, rfl, rfl, look_int rfl (by rw [wrap64 (by omega) (by omega)]; rfl), trivial⟩, by (try dsimp only); omega⟩
    · skip
      have hin : i = s.events.length := by have := of_decide_eq_false hb1; (try simp only [List.length_map] at this); omega
      refine aw_exit ?_
      refine exit_thn ?_
      refine exit_thn ?_
      refine exit_blk ?_
      refine normal_thn ?_
      refine aw_seq ?_
      refine aw_region ?_
      refine g_u (s_as_imm rfl rfl) ?_
      refine g_nil ?_
      refine normal_thn ?_
      refine aw_newtok 3006 6 26 rfl rfl rfl rfl ?_
      refine aw_seq ?_
      refine aw_seq ?_
      refine aw_region ?_
      refine g_u (s_fieldAddr rfl rfl fa33_10 rfl) ?_
      refine g_u (s_load_imm rfl rfl rfl tA29 tS29 rfl rfl) ?_
      refine g_u (s_lenL rfl rfl Tryd.underlying29) ?_
      refine g_u (s_mv_imm rfl rfl) ?_
      refine g_nil ?_
      refine normal_thn ?_
      refine aw_block ?_
      refine aw_loop' (fun i : Nat => [(1, .ptr 1001 0), (1001, .box 33 (.imm ({ s with attrs := canonAs s.attrs } : GSpan).av)), (2, .ptr 1002 0), (1002, .box 33 (.imm z33)), (3, .slg 3003 3 (s.events.map fun e => (canonE e).av)), (3003, .tok 3 (s.events.map fun e => (canonE e).av)), (6, .slg 3006 26 ((s.links.take i).map fun e => (canonL e).av)), (3006, .tok 26 ((s.links.take i).map fun e => (canonL e).av)), (30, .imm (.sl 26 (s.links.map GL.av))), (31, .imm (iv (s.links.length : Int))), (32, .imm (iv (i : Int)))]) (fun i => i ≤ s.links.length) (fun i => s.links.length - i) (0) ?_ ⟨rfl, rfl, rfl, rfl, look_slg rfl (by rw [hin, List.take_length]), look_tok rfl (by rw [hin, List.take_length]), rfl, rfl, rfl, look_int rfl (by rw [List.length_map]), rfl, trivial⟩ ?_
      · exact Nat.zero_le _
      · rintro i h1; have h1 : i ≤ s.links.length := h1
        refine aw_seq ?_
        refine aw_region ?_
        refine g_u (s_ltI rfl rfl rfl) ?_
        refine g_nil ?_
        refine normal_thn ?_
        refine aw_seq ?_
        refine aw_cond rfl (fun hb2 => ?_) (fun hb2 => ?_)
        · skip
          have hi : i < s.links.length := by have := of_decide_eq_true hb2; (try simp only [List.length_map] at this); omega
          have hx : wtAs (nthL s.links i).attrs ≤ 10000000 := by have h5 := sumBy_mem GL.wt (nthL_mem hi); have h6 : (nthL s.links i).wt = 1 + (nthL s.links i).state.size + wtAs (nthL s.links i).attrs := rfl; omega
          refine aw_skip ?_
          refine normal_thn ?_
          refine aw_seq ?_
          refine aw_block ?_
          refine aw_seq ?_
          refine aw_region ?_
          refine g_u (s_indexAddr rfl rfl rfl Tryd.underlying29 tS72 (by omega) (ixL hi)) ?_
          refine g_u (s_load_cp rfl rfl tA72 tS72 rfl (by first | exact getS_w (GL.width _) rfl | rfl)) ?_
          refine g_uG (s_alloc' 1008 rfl rfl rfl tZ72) rfl ?_
          refine g_u (s_store_imm rfl rfl rfl tS72 (by first | exact beqW (GL.width _) | rfl) (by first | exact setS_w (z72_w.trans (GL.width _).symm) rfl | rfl)) ?_
          refine g_nil ?_
          refine normal_thn ?_
          refine aw_seq ?_
          refine aw_region ?_
          refine g_u (s_fieldAddr rfl rfl fa72_3 rfl) ?_
          refine g_u (s_load_imm rfl rfl rfl tA27 tS27 rfl rfl) ?_
          refine g_u (s_call1 (pcanonAs_c (nthL s.links i).attrs hx) rfl rfl) ?_
          refine g_u (s_fieldAddr rfl rfl fa72_3 rfl) ?_
          refine g_u (s_store_imm rfl rfl rfl tS27 rfl rfl) ?_
          refine g_nil ?_
          refine normal_thn ?_
          refine aw_pack 1008 rfl rfl ?_
          refine aw_region ?_
          refine g_u (s_mv_slg rfl rfl) ?_
          refine g_u (s_load_imm rfl rfl rfl tA72 tS72 rfl (by first | exact getS_w (GL.width _) rfl | rfl)) ?_
          refine g_u (s_buildSlice (X0 := z72) rfl Tryd.underlying29 tS72 tZ72 rfl rfl rfl rfl rfl rfl rfl rfl) ?_
          refine g_u (s_append rfl rfl rfl rfl rfl Tryd.underlying29 Tryd.underlying29 tS72 zv72 rfl (by decide) by72 (by (try dsimp only); simp only [List.length_append, List.length_cons, List.length_nil, List.length_map, List.length_take, List.length_drop]; omega) (by (try dsimp only); simp only [List.length_append, List.length_cons, List.length_nil, List.length_map, List.length_take, List.length_drop]; omega)) ?_
          refine g_u (s_as_slg rfl rfl) ?_
          refine g_nil ?_
          refine normal_blk ?_
          refine normal_thn ?_
          refine aw_region ?_
          refine g_u (s_add rfl rfl rfl) ?_
          refine g_u (s_mv_imm rfl rfl) ?_
          refine g_nil ?_
          refine normal_thn ?_
          have et : ((s.links.take (i + 1)).map fun e => (canonL e).av) = ((s.links.take i).map fun e => (canonL e).av) ++ [(canonL (nthL s.links i)).av] := by rw [take_snoc (nth_get (d := gl0) hi), List.map_append]; rfl
          refine ⟨i + 1, hi, ⟨rfl, rfl, rfl, rfl, rfl, rfl, look_slg rfl et.symm, look_tok rfl et.symm, rfl, rfl, look_int rfl (by rw [wrap64 (by omega) (by omega)]; rfl), trivial⟩, by (try dsimp only); omega⟩
        · skip
          have hin2 : i = s.links.length := by have := of_decide_eq_false hb2; (try simp only [List.length_map] at this); omega
          refine aw_exit ?_
          refine exit_thn ?_
          refine exit_thn ?_
          refine exit_blk ?_
          refine normal_thn ?_
          refine aw_seq ?_
          refine aw_region ?_
          refine g_u (s_mv_slg rfl rfl) ?_
          refine g_u (s_mv_slg rfl rfl) ?_
          refine g_u (s_fieldAddr rfl rfl fa33_9 rfl) ?_
          refine g_u (s_store rfl rfl rfl rfl tS28 rfl rfl) ?_
          refine g_u (s_fieldAddr rfl rfl fa33_10 rfl) ?_
          refine g_u (s_store rfl rfl rfl rfl tS29 rfl rfl) ?_
          refine g_nil ?_
          refine normal_thn ?_
          refine aw_seq ?_
          refine aw_region ?_
          refine g_u (s_load_agg rfl rfl rfl tA33 tS33 rfl rfl) ?_
          refine g_u (s_store_imm rfl rfl rfl tS33 (by first | exact beqW (GSpan.width _) | rfl) (by first | exact setS_w (z33_w.trans (GSpan.width _).symm) rfl | rfl)) ?_
          refine g_nil ?_
          refine normal_thn ?_
          refine aw_ret ?_
          exact ⟨⟨_, _, _, _, _, _, _, rfl, rfl, tA33, tS33, rfl, rfl, (rfl : toAV _ = some _).trans (congrArg some (by (rw [hin2, List.take_length]; show _ = GSpan.av (canonS s); simp only [GSpan.av, canonS, List.map_map]; rfl)))⟩, trivial⟩

end Go.Proofs

namespace Go.Proofs
open Go Go.Al
set_option maxRecDepth 10000
set_option maxHeartbeats 400000 in
theorem words_c (t : ByteArray) (ht : t.size < 9223372036854775808) : PCall Tryd.prog Γ0 51 [sv t] [iv (nameC t)] := by
  have cr := check_range t
  refine pcall_of Tryd.func51 rfl Tryd.ntmps51 (by kernel_rfl) rfl fun w0 I0 G0 => ?_
  refine aw_seq ?_
  refine aw_region ?_
  refine g_u (s_as_imm rfl rfl) ?_
  refine g_nil ?_
  refine normal_thn ?_
  refine aw_seq ?_
  refine aw_block ?_
  refine aw_seq ?_
  refine aw_region ?_
  refine g_u (s_mv_imm rfl rfl) ?_
  refine g_u (s_call1 (check_c _ (by omega)) rfl rfl) ?_
  refine g_u (s_geI rfl rfl rfl) ?_
  refine g_u (s_as_imm rfl rfl) ?_
  refine g_nil ?_
  refine normal_thn ?_
  refine aw_cond rfl (fun hb1 => ?_) (fun hb1 => ?_)
  · skip
    have q := of_decide_eq_true hb1
    refine aw_seq ?_
    refine aw_region ?_
    refine g_u (s_as_imm rfl rfl) ?_
    refine g_nil ?_
    refine normal_thn ?_
    refine aw_ret ?_
    refine ret_blk ?_
    refine ret_thn ?_
    exact ⟨⟨(rfl : toAV (Al.look _ _) = some _).trans (congrArg some (by (exact congrArg iv (by unfold nameC; (repeat' split) <;> first | rfl | omega)))), rfl⟩, trivial⟩
  · skip
    have q := of_decide_eq_false hb1
    refine aw_seq ?_
    refine aw_region ?_
    refine g_u (s_mv_imm rfl rfl) ?_
    refine g_u (s_lenS rfl rfl Tryd.underlying9) ?_
    refine g_u (s_gtI rfl rfl rfl) ?_
    refine g_u (s_as_imm rfl rfl) ?_
    refine g_nil ?_
    refine normal_thn ?_
    refine aw_cond rfl (fun hb2 => ?_) (fun hb2 => ?_)
    · skip
      have q := of_decide_eq_true hb2
      refine aw_seq ?_
      refine aw_region ?_
      refine g_u (s_as_imm rfl rfl) ?_
      refine g_nil ?_
      refine normal_thn ?_
      refine aw_ret ?_
      refine ret_blk ?_
      refine ret_thn ?_
      exact ⟨⟨(rfl : toAV (Al.look _ _) = some _).trans (congrArg some (by (exact congrArg iv (by unfold nameC; (repeat' split) <;> first | rfl | omega)))), rfl⟩, trivial⟩
    · skip
      have q := of_decide_eq_false hb2
      refine aw_skip ?_
      refine normal_blk ?_
      refine normal_thn ?_
      refine aw_seq ?_
      refine aw_region ?_
      refine g_u (s_as_imm rfl rfl) ?_
      refine g_nil ?_
      refine normal_thn ?_
      refine aw_ret ?_
      exact ⟨⟨(rfl : toAV (Al.look _ _) = some _).trans (congrArg some (by (exact congrArg iv (by unfold nameC; (repeat' split) <;> first | rfl | omega)))), rfl⟩, trivial⟩

set_option maxHeartbeats 400000 in
theorem spanName_c (t : ByteArray) (ht : t.size < 9223372036854775808) : PCall Tryd.prog Γ0 39 [sv t] [iv (nameC t)] := by
  refine pcall_of Tryd.func39 rfl Tryd.ntmps39 (by kernel_rfl) rfl fun w0 I0 G0 => ?_
  refine aw_seq ?_
  refine aw_region ?_
  refine g_u (s_as_imm rfl rfl) ?_
  refine g_nil ?_
  refine normal_thn ?_
  refine aw_seq ?_
  refine aw_region ?_
  refine g_u (s_mv_imm rfl rfl) ?_
  refine g_u (s_call1 (words_c _ (by omega)) rfl rfl) ?_
  refine g_u (s_as_imm rfl rfl) ?_
  refine g_nil ?_
  refine normal_thn ?_
  refine aw_ret ?_
  exact ⟨⟨(rfl : toAV (Al.look _ _) = some _).trans (congrArg some (by rfl)), rfl⟩, trivial⟩

set_option maxHeartbeats 400000 in
theorem when_c (b : Bool) (c : Int) : PCall Tryd.prog Γ0 49 [bv b, iv c] [iv (if b then c else 0)] := by
  refine pcall_of Tryd.func49 rfl Tryd.ntmps49 (by kernel_rfl) rfl fun w0 I0 G0 => ?_
  refine aw_seq ?_
  refine aw_region ?_
  refine g_u (s_as_imm rfl rfl) ?_
  refine g_nil ?_
  refine normal_thn ?_
  refine aw_seq ?_
  refine aw_seq ?_
  refine aw_region ?_
  refine g_u (s_mv_imm rfl rfl) ?_
  refine g_nil ?_
  refine normal_thn ?_
  refine aw_cond rfl (fun hb1 => ?_) (fun hb1 => ?_)
  · skip
    have q : b = true := hb1
    refine aw_seq ?_
    refine aw_region ?_
    refine g_u (s_mv_imm rfl rfl) ?_
    refine g_u (s_as_imm rfl rfl) ?_
    refine g_nil ?_
    refine normal_thn ?_
    refine aw_ret ?_
    refine ret_thn ?_
    exact ⟨⟨(rfl : toAV (Al.look _ _) = some _).trans (congrArg some (by (rw [q]; rfl))), rfl⟩, trivial⟩
  · skip
    have q : b = false := hb1
    refine aw_skip ?_
    refine normal_thn ?_
    refine aw_seq ?_
    refine aw_region ?_
    refine g_u (s_as_imm rfl rfl) ?_
    refine g_nil ?_
    refine normal_thn ?_
    refine aw_ret ?_
    exact ⟨⟨(rfl : toAV (Al.look _ _) = some _).trans (congrArg some (by (rw [q]; rfl))), rfl⟩, trivial⟩

set_option maxHeartbeats 400000 in
theorem first_c (l : List FN) (hl : l.length ≤ 1000) (hf : ∀ x ∈ l, PCall Tryd.prog Γ0 x.1 (x.2.1 ++ [] ++ x.2.2.1) [iv x.2.2.2]) : PCall Tryd.prog Γ0 47 [.sl 1 (l.map fnA)] [iv (firstC (fcodes l))] := by
  refine pcall_of Tryd.func47 rfl Tryd.ntmps47 (by kernel_rfl) rfl fun w0 I0 G0 => ?_
  refine aw_seq ?_
  refine aw_region ?_
  refine g_u (s_as_imm rfl rfl) ?_
  refine g_nil ?_
  refine normal_thn ?_
  refine aw_seq ?_
  refine aw_seq ?_
  refine aw_region ?_
  refine g_u (s_mv_imm rfl rfl) ?_
  refine g_u (s_lenL rfl rfl Tryd.underlying127) ?_
  refine g_u (s_mv_imm rfl rfl) ?_
  refine g_nil ?_
  refine normal_thn ?_
  refine aw_block ?_
  refine aw_loop' (fun i : Nat => [(6, .imm (.sl 1 (l.map fnA))), (7, .imm (iv (l.length : Int))), (8, .imm (iv (i : Int)))]) (fun i => i ≤ l.length ∧ firstC (fcodes l) = firstC (fcodes (l.drop i))) (fun i => l.length - i) (0) ?_ ⟨rfl, look_int rfl (by rw [List.length_map]), rfl, trivial⟩ ?_
  · exact ⟨Nat.zero_le _, rfl⟩
  · rintro i ⟨h1, h2⟩; (try dsimp only at h1 h2)
    refine aw_seq ?_
    refine aw_region ?_
    refine g_u (s_ltI rfl rfl rfl) ?_
    refine g_nil ?_
    refine normal_thn ?_
    refine aw_seq ?_
    refine aw_cond rfl (fun hb1 => ?_) (fun hb1 => ?_)
    · skip
      have hi : i < l.length := by have := of_decide_eq_true hb1; (try simp only [List.length_map] at this); omega
      refine aw_skip ?_
      refine normal_thn ?_
      refine aw_seq ?_
      refine aw_block ?_
      refine aw_seq ?_
      refine aw_region ?_
      refine g_u (s_indexAddr rfl rfl rfl Tryd.underlying127 tS88 (by omega) (nth_map (d := fnd) hi)) ?_
      refine g_u (s_load_cp rfl rfl tA88 tS88 rfl rfl) ?_
      refine g_u (s_as_imm rfl rfl) ?_
      refine g_nil ?_
      refine normal_thn ?_
      refine aw_seq ?_
      refine aw_region ?_
      refine g_u (s_mv_imm rfl rfl) ?_
      refine g_u (s_callv1 (hf _ (nth_mem hi)) rfl rfl rfl) ?_
      refine g_u (s_as_imm rfl rfl) ?_
      refine g_nil ?_
      refine normal_thn ?_
      refine aw_seq ?_
      refine aw_region ?_
      refine g_u (s_mv_imm rfl rfl) ?_
      refine g_u (s_neI rfl rfl rfl) ?_
      refine g_nil ?_
      refine normal_thn ?_
      refine aw_cond rfl (fun hb2 => ?_) (fun hb2 => ?_)
      · skip
        have q := bne_iff_ne.1 hb2
        refine aw_seq ?_
        refine aw_region ?_
        refine g_u (s_mv_imm rfl rfl) ?_
        refine g_u (s_as_imm rfl rfl) ?_
        refine g_nil ?_
        refine normal_thn ?_
        refine aw_ret ?_
        refine ret_blk ?_
        refine ret_thn ?_
        refine ret_thn ?_
        refine ret_blk ?_
        refine ret_thn ?_
        exact ⟨⟨(rfl : toAV (Al.look _ _) = some _).trans (congrArg some (by (exact congrArg iv (by first | (rw [h2, firstC_drop hi, orC_pos _ _ q]; done) | (rw [h2, hin, List.drop_length]; rfl))))), rfl⟩, trivial⟩
      · skip
        have q := bne_eq_false_iff_eq.1 hb2
        refine aw_skip ?_
        refine normal_blk ?_
        refine normal_thn ?_
        refine aw_region ?_
        refine g_u (s_add rfl rfl rfl) ?_
        refine g_u (s_mv_imm rfl rfl) ?_
        refine g_nil ?_
        refine normal_thn ?_
        refine ⟨i + 1, ⟨hi, by (try dsimp only); rw [h2, firstC_drop hi, orC_zero _ _ q]⟩, ⟨rfl, rfl, look_int rfl (by rw [wrap64 (by omega) (by omega)]; rfl), trivial⟩, by (try dsimp only); omega⟩
    · skip
      have hin : i = l.length := by have := of_decide_eq_false hb1; (try simp only [List.length_map] at this); omega
      refine aw_exit ?_
      refine exit_thn ?_
      refine exit_thn ?_
      refine exit_blk ?_
      refine normal_thn ?_
      refine aw_seq ?_
      refine aw_region ?_
      refine g_u (s_as_imm rfl rfl) ?_
      refine g_nil ?_
      refine normal_thn ?_
      refine aw_ret ?_
      exact ⟨⟨(rfl : toAV (Al.look _ _) = some _).trans (congrArg some (by (exact congrArg iv (by first | (rw [h2, firstC_drop hi, orC_pos _ _ q]; done) | (rw [h2, hin, List.drop_length]; rfl))))), rfl⟩, trivial⟩

set_option maxHeartbeats 400000 in
theorem ev1_c (e : GE) (ho : e.name.size < 9223372036854775808) : PCall Tryd.prog Γ0 94 [.cp e.av] [iv (nameC e.name)] := by
  refine pcall_of Tryd.func94 rfl Tryd.ntmps94 (by kernel_rfl) rfl fun w0 I0 G0 => ?_
  refine aw_seq ?_
  refine aw_region ?_
  refine g_u (s_as_imm rfl rfl) ?_
  refine g_nil ?_
  refine normal_thn ?_
  refine aw_seq ?_
  refine aw_region ?_
  refine g_u (s_fieldAddr_cp rfl rfl fa70_1 rfl rfl) ?_
  refine g_u (s_load_cp rfl rfl tA9 tS9 rfl rfl) ?_
  refine g_u (s_call1 (words_c _ (by omega)) rfl rfl) ?_
  refine g_u (s_as_imm rfl rfl) ?_
  refine g_nil ?_
  refine normal_thn ?_
  refine aw_ret ?_
  exact ⟨⟨(rfl : toAV (Al.look _ _) = some _).trans (congrArg some (by rfl)), rfl⟩, trivial⟩

set_option maxHeartbeats 400000 in
theorem ev2_c (e : GE) (ho : ∀ a ∈ e.attrs, a.ok) (hw : wtAs e.attrs ≤ 1000000) : PCall Tryd.prog Γ0 95 [.cp e.av] [iv (attrsC e.attrs)] := by
  refine pcall_of Tryd.func95 rfl Tryd.ntmps95 (by kernel_rfl) rfl fun w0 I0 G0 => ?_
  refine aw_seq ?_
  refine aw_region ?_
  refine g_u (s_as_imm rfl rfl) ?_
  refine g_nil ?_
  refine normal_thn ?_
  refine aw_seq ?_
  refine aw_region ?_
  refine g_u (s_fieldAddr_cp rfl rfl fa70_2 rfl rfl) ?_
  refine g_u (s_load_cp rfl rfl tA27 tS27 rfl rfl) ?_
  refine g_u (s_call1 (checkAs_c _ ho (by omega)) rfl rfl) ?_
  refine g_u (s_as_imm rfl rfl) ?_
  refine g_nil ?_
  refine normal_thn ?_
  refine aw_ret ?_
  exact ⟨⟨(rfl : toAV (Al.look _ _) = some _).trans (congrArg some (by rfl)), rfl⟩, trivial⟩

set_option maxHeartbeats 2000000 in
theorem events_c (l : List GE) (ho : ∀ e ∈ l, e.ok) (hw : sumBy GE.wt l ≤ 1000000) : PCall Tryd.prog Γ0 58 [.sl 3 (l.map GE.av)] [iv (evsC l)] := by
  have ql := sumBy_len GE.wt (fun e => by unfold GE.wt; omega) l
  refine pcall_of Tryd.func58 rfl Tryd.ntmps58 (by kernel_rfl) rfl fun w0 I0 G0 => ?_
  refine aw_seq ?_
  refine aw_region ?_
  refine g_u (s_as_imm rfl rfl) ?_
  refine g_nil ?_
  refine normal_thn ?_
  refine aw_scope ?_
  refine aw_seq ?_
  refine aw_seq ?_
  refine aw_region ?_
  refine g_u (s_mv_imm rfl rfl) ?_
  refine g_u (s_lenL rfl rfl Tryd.underlying28) ?_
  refine g_u (s_gtI rfl rfl rfl) ?_
  refine g_nil ?_
  refine normal_thn ?_
  refine aw_cond rfl (fun hb1 => ?_) (fun hb1 => ?_)
  · skip
    have q16 : 16 < l.length := by have := of_decide_eq_true hb1; (try simp only [List.length_map] at this); omega
    refine aw_seq ?_
    refine aw_region ?_
    refine g_u (s_as_imm rfl rfl) ?_
    refine g_nil ?_
    refine normal_thn ?_
    refine aw_ret ?_
    refine ret_thn ?_
    refine ret_scp ?_
    exact ⟨⟨(rfl : toAV (Al.look _ _) = some _).trans (congrArg some (by (exact congrArg iv (by unfold evsC; first | (rw [if_pos q16]; done) | (rw [if_neg q16, h2, hin, List.drop_length]; rfl) | (rw [if_neg q16, h2, E, if_pos qt]; done) | (rw [if_neg q16, h2, E, if_neg qt, orC_pos _ _ (by simpa [firstC, fcodes, orC_right] using q)]; simp [firstC, fcodes, orC_right]; done))))), rfl⟩, trivial⟩
  · skip
    have q16 : ¬ 16 < l.length := by have := of_decide_eq_false hb1; (try simp only [List.length_map] at this); omega
    refine aw_skip ?_
    refine normal_thn ?_
    refine aw_seq ?_
    refine aw_region ?_
    refine g_u (s_as_imm rfl rfl) ?_
    refine g_nil ?_
    refine normal_thn ?_
    refine aw_seq ?_
    refine aw_label ?_
    refine normal_thn ?_
    refine aw_seq ?_
    refine aw_seq ?_
    refine aw_region ?_
    refine g_u (s_mv_imm rfl rfl) ?_
    refine g_u (s_lenL rfl rfl Tryd.underlying28) ?_
    refine g_u (s_mv_imm rfl rfl) ?_
    refine g_nil ?_
    refine normal_thn ?_
    refine aw_block ?_
    refine aw_loop' (fun i : Nat => [(3, .imm (iv 0)), (9, .imm (.sl 3 (l.map GE.av))), (10, .imm (iv (l.length : Int))), (11, .imm (iv (i : Int)))]) (fun i => i ≤ l.length ∧ evC l = evC (l.drop i)) (fun i => l.length - i) (0) ?_ ⟨rfl, rfl, look_int rfl (by rw [List.length_map]), rfl, trivial⟩ ?_
    · exact ⟨Nat.zero_le _, rfl⟩
    · rintro i ⟨h1, h2⟩; (try dsimp only at h1 h2)
      refine aw_seq ?_
      refine aw_region ?_
      refine g_u (s_ltI rfl rfl rfl) ?_
      refine g_nil ?_
      refine normal_thn ?_
      refine aw_seq ?_
      refine aw_cond rfl (fun hb2 => ?_) (fun hb2 => ?_)
      · skip
        have hi : i < l.length := by have := of_decide_eq_true hb2; (try simp only [List.length_map] at this); omega
        have hx := sumBy_mem GE.wt (nthE_mem hi)
        have hx2 : (nthE l i).wt = 1 + (nthE l i).name.size + wtAs (nthE l i).attrs := rfl
        have hxo := ho _ (nthE_mem hi)
        have c1 := ev1_c (nthE l i) (by omega)
        have c2 := ev2_c (nthE l i) hxo.2.2 (by omega)
        have E := evC_drop hi
        refine aw_skip ?_
        refine normal_thn ?_
        refine aw_seq ?_
        refine aw_block ?_
        refine aw_seq ?_
        refine aw_region ?_
        refine g_u (s_indexAddr rfl rfl rfl Tryd.underlying28 tS70 (by omega) (ixE hi)) ?_
        refine g_u (s_load_cp rfl rfl tA70 tS70 rfl rfl) ?_
        refine g_uG (s_alloc' 1005 rfl rfl rfl tZ70) rfl ?_
        refine g_u (s_store_imm rfl rfl rfl tS70 rfl rfl) ?_
        refine g_nil ?_
        refine normal_thn ?_
        refine aw_seq ?_
        refine aw_block ?_
        refine aw_seq ?_
        refine aw_region ?_
        refine g_u (s_fieldAddr rfl rfl fa70_0 rfl) ?_
        refine g_u (s_load_imm rfl rfl rfl tA26 tS26 rfl rfl) ?_
        refine g_u (s_gtI rfl rfl rfl) ?_
        refine g_u (s_as_imm rfl rfl) ?_
        refine g_nil ?_
        refine normal_thn ?_
        refine aw_cond rfl (fun hb3 => ?_) (fun hb3 => ?_)
        · skip
          have qt : 9223372036854775807 < (nthE l i).time := of_decide_eq_true hb3
          refine aw_seq ?_
          refine aw_region ?_
          refine g_u (s_as_imm rfl rfl) ?_
          refine g_nil ?_
          refine normal_thn ?_
          refine aw_exit ?_
          refine exit_blk_ne rfl ?_
          refine exit_thn ?_
          refine exit_blk_ne rfl ?_
          refine exit_thn ?_
          refine exit_thn ?_
          refine exit_blk ?_
          refine normal_thn ?_
          refine aw_seq ?_
          refine aw_region ?_
          refine g_u (s_mv_imm rfl rfl) ?_
          refine g_u (s_as_imm rfl rfl) ?_
          refine g_nil ?_
          refine normal_thn ?_
          refine aw_ret ?_
          refine ret_scp ?_
          exact ⟨⟨(rfl : toAV (Al.look _ _) = some _).trans (congrArg some (by (exact congrArg iv (by unfold evsC; first | (rw [if_pos q16]; done) | (rw [if_neg q16, h2, hin, List.drop_length]; rfl) | (rw [if_neg q16, h2, E, if_pos qt]; done) | (rw [if_neg q16, h2, E, if_neg qt, orC_pos _ _ (by simpa [firstC, fcodes, orC_right] using q)]; simp [firstC, fcodes, orC_right]; done))))), rfl⟩, trivial⟩
        · skip
          have qt : ¬ 9223372036854775807 < (nthE l i).time := of_decide_eq_false hb3
          refine aw_share 1005 rfl rfl ?_
          refine aw_region ?_
          refine g_u (s_makeFunc rfl rfl rfl) ?_
          refine g_u (s_makeFunc rfl rfl rfl) ?_
          refine g_u (s_buildSlice (X0 := z88) rfl Tryd.underlying127 tS88 tZ88 rfl rfl rfl rfl rfl rfl rfl rfl) ?_
          refine g_u (s_call1 (first_c [(94, [], [.cp (nthE l i).av], nameC (nthE l i).name), (95, [], [.cp (nthE l i).av], attrsC (nthE l i).attrs)] (by simp only [List.length_cons, List.length_nil]; omega) (fun x hx => by simp only [List.mem_cons, List.not_mem_nil, or_false] at hx; rcases hx with rfl | rfl <;> assumption)) rfl rfl) ?_
          refine g_u (s_as_imm rfl rfl) ?_
          refine g_nil ?_
          refine normal_blk ?_
          refine normal_thn ?_
          refine aw_seq ?_
          refine aw_region ?_
          refine g_u (s_mv_imm rfl rfl) ?_
          refine g_u (s_neI rfl rfl rfl) ?_
          refine g_nil ?_
          refine normal_thn ?_
          refine aw_cond rfl (fun hb4 => ?_) (fun hb4 => ?_)
          · skip
            have q := bne_iff_ne.1 hb4
            refine aw_exit ?_
            refine exit_blk_ne rfl ?_
            refine exit_thn ?_
            refine exit_thn ?_
            refine exit_blk ?_
            refine normal_thn ?_
            refine aw_seq ?_
            refine aw_region ?_
            refine g_u (s_mv_imm rfl rfl) ?_
            refine g_u (s_as_imm rfl rfl) ?_
            refine g_nil ?_
            refine normal_thn ?_
            refine aw_ret ?_
            refine ret_scp ?_
            exact ⟨⟨(rfl : toAV (Al.look _ _) = some _).trans (congrArg some (by (exact congrArg iv (by unfold evsC; first | (rw [if_pos q16]; done) | (rw [if_neg q16, h2, hin, List.drop_length]; rfl) | (rw [if_neg q16, h2, E, if_pos qt]; done) | (rw [if_neg q16, h2, E, if_neg qt, orC_pos _ _ (by simpa [firstC, fcodes, orC_right] using q)]; simp [firstC, fcodes, orC_right]; done))))), rfl⟩, trivial⟩
          · skip
            have q := bne_eq_false_iff_eq.1 hb4
            refine aw_skip ?_
            refine normal_blk ?_
            refine normal_thn ?_
            refine aw_region ?_
            refine g_u (s_add rfl rfl rfl) ?_
            refine g_u (s_mv_imm rfl rfl) ?_
            refine g_nil ?_
            refine normal_thn ?_
            refine ⟨i + 1, ⟨hi, by (try dsimp only); rw [h2, E, if_neg qt]; exact orC_zero _ _ (by simpa [firstC, fcodes, orC_right] using q)⟩, ⟨look_int rfl q, rfl, rfl, look_int rfl (by rw [wrap64 (by omega) (by omega)]; rfl), trivial⟩, by (try dsimp only); omega⟩
      · skip
        have hin : i = l.length := by have := of_decide_eq_false hb2; (try simp only [List.length_map] at this); omega
        refine aw_exit ?_
        refine exit_thn ?_
        refine exit_thn ?_
        refine exit_blk ?_
        refine normal_thn ?_
        refine aw_seq ?_
        refine aw_region ?_
        refine g_u (s_mv_imm rfl rfl) ?_
        refine g_u (s_as_imm rfl rfl) ?_
        refine g_nil ?_
        refine normal_thn ?_
        refine aw_ret ?_
        refine ret_scp ?_
        exact ⟨⟨(rfl : toAV (Al.look _ _) = some _).trans (congrArg some (by (exact congrArg iv (by unfold evsC; first | (rw [if_pos q16]; done) | (rw [if_neg q16, h2, hin, List.drop_length]; rfl) | (rw [if_neg q16, h2, E, if_pos qt]; done) | (rw [if_neg q16, h2, E, if_neg qt, orC_pos _ _ (by simpa [firstC, fcodes, orC_right] using q)]; simp [firstC, fcodes, orC_right]; done))))), rfl⟩, trivial⟩

set_option maxHeartbeats 400000 in
theorem lk1_c (e : GL) (h1 : e.trace.length = 16) (h2 : e.span.length = 8) : PCall Tryd.prog Γ0 96 [.cp e.av] [iv (if zeros e.trace || zeros e.span then 10 else 0)] := by
  refine pcall_of Tryd.func96 rfl Tryd.ntmps96 (by kernel_rfl) rfl fun w0 I0 G0 => ?_
  refine aw_seq ?_
  refine aw_region ?_
  refine g_u (s_as_imm rfl rfl) ?_
  refine g_nil ?_
  refine normal_thn ?_
  refine aw_seq ?_
  refine aw_region ?_
  refine g_u (s_fieldAddr_cp rfl rfl fa72_0 rfl rfl) ?_
  refine g_u (s_load_cp rfl rfl tA23 tS23 rfl rfl) ?_
  refine g_u (s_build_arr rfl tU23 Tryd.underlying23 tS5 rfl rfl rfl rfl) ?_
  refine g_u (s_eqA rfl rfl rfl eg23 rfl rfl (eq23 _ _)) ?_
  refine g_u (s_mv_imm rfl rfl) ?_
  refine g_case (t := 6) rfl ?_
  rintro (hb1 | hb1)
  · rw [hb1]
    have q : zeros e.trace = true := by have e := hb1; rw [zeros_beq h1] at e; exact e
    refine g_skip rfl rfl rfl ?_
    refine g_skip rfl rfl rfl ?_
    refine g_skip rfl rfl rfl ?_
    refine g_skip rfl rfl rfl ?_
    refine g_u (s_pick_t rfl rfl rfl) ?_
    refine g_u (s_call1 (when_c _ _) rfl rfl) ?_
    refine g_u (s_as_imm rfl rfl) ?_
    refine g_nil ?_
    refine normal_thn ?_
    refine aw_ret ?_
    exact ⟨⟨(rfl : toAV (Al.look _ _) = some _).trans (congrArg some (by (exact congrArg iv (by first | (rw [q, zeros_beq h2, Bool.false_or]; done) | (rw [q, Bool.true_or]; done) | (rw [q, Bool.true_or]; rfl))))), rfl⟩, trivial⟩
  · rw [hb1]
    have q : zeros e.trace = false := by have e := hb1; rw [zeros_beq h1] at e; exact e
    refine g_run rfl rfl (s_fieldAddr_cp rfl rfl fa72_1 rfl rfl) ?_
    refine g_run rfl rfl (s_load_cp rfl rfl tA25 tS25 rfl rfl) ?_
    refine g_run rfl rfl (s_build_arr rfl tU25 Tryd.underlying25 tS5 rfl rfl rfl rfl) ?_
    refine g_run rfl rfl (s_eqA rfl rfl rfl eg25 rfl rfl (eq25 _ _)) ?_
    refine g_u (s_pick_f rfl rfl rfl) ?_
    refine g_u (s_call1 (when_c _ _) rfl rfl) ?_
    refine g_u (s_as_imm rfl rfl) ?_
    refine g_nil ?_
    refine normal_thn ?_
    refine aw_ret ?_
    exact ⟨⟨(rfl : toAV (Al.look _ _) = some _).trans (congrArg some (by (exact congrArg iv (by first | (rw [q, zeros_beq h2, Bool.false_or]; done) | (rw [q, Bool.true_or]; done) | (rw [q, Bool.true_or]; rfl))))), rfl⟩, trivial⟩

set_option maxHeartbeats 400000 in
theorem lk2_c (e : GL) (ho : e.state.size < 9223372036854775808) : PCall Tryd.prog Γ0 97 [.cp e.av] [iv (nameC e.state)] := by
  refine pcall_of Tryd.func97 rfl Tryd.ntmps97 (by kernel_rfl) rfl fun w0 I0 G0 => ?_
  refine aw_seq ?_
  refine aw_region ?_
  refine g_u (s_as_imm rfl rfl) ?_
  refine g_nil ?_
  refine normal_thn ?_
  refine aw_seq ?_
  refine aw_region ?_
  refine g_u (s_fieldAddr_cp rfl rfl fa72_2 rfl rfl) ?_
  refine g_u (s_load_cp rfl rfl tA9 tS9 rfl rfl) ?_
  refine g_u (s_call1 (words_c _ (by omega)) rfl rfl) ?_
  refine g_u (s_as_imm rfl rfl) ?_
  refine g_nil ?_
  refine normal_thn ?_
  refine aw_ret ?_
  exact ⟨⟨(rfl : toAV (Al.look _ _) = some _).trans (congrArg some (by rfl)), rfl⟩, trivial⟩

set_option maxHeartbeats 400000 in
theorem lk3_c (e : GL) (ho : ∀ a ∈ e.attrs, a.ok) (hw : wtAs e.attrs ≤ 1000000) : PCall Tryd.prog Γ0 98 [.cp e.av] [iv (attrsC e.attrs)] := by
  refine pcall_of Tryd.func98 rfl Tryd.ntmps98 (by kernel_rfl) rfl fun w0 I0 G0 => ?_
  refine aw_seq ?_
  refine aw_region ?_
  refine g_u (s_as_imm rfl rfl) ?_
  refine g_nil ?_
  refine normal_thn ?_
  refine aw_seq ?_
  refine aw_region ?_
  refine g_u (s_fieldAddr_cp rfl rfl fa72_3 rfl rfl) ?_
  refine g_u (s_load_cp rfl rfl tA27 tS27 rfl rfl) ?_
  refine g_u (s_call1 (checkAs_c _ ho (by omega)) rfl rfl) ?_
  refine g_u (s_as_imm rfl rfl) ?_
  refine g_nil ?_
  refine normal_thn ?_
  refine aw_ret ?_
  exact ⟨⟨(rfl : toAV (Al.look _ _) = some _).trans (congrArg some (by rfl)), rfl⟩, trivial⟩

set_option maxHeartbeats 4000000 in
theorem links_c (l : List GL) (ho : ∀ e ∈ l, e.ok) (hw : sumBy GL.wt l ≤ 1000000) : PCall Tryd.prog Γ0 60 [.sl 26 (l.map GL.av)] [iv (lksC l)] := by
  have ql := sumBy_len GL.wt (fun e => by unfold GL.wt; omega) l
  refine pcall_of Tryd.func60 rfl Tryd.ntmps60 (by kernel_rfl) rfl fun w0 I0 G0 => ?_
  refine aw_seq ?_
  refine aw_region ?_
  refine g_u (s_as_imm rfl rfl) ?_
  refine g_nil ?_
  refine normal_thn ?_
  refine aw_scope ?_
  refine aw_seq ?_
  refine aw_seq ?_
  refine aw_region ?_
  refine g_u (s_mv_imm rfl rfl) ?_
  refine g_u (s_lenL rfl rfl Tryd.underlying29) ?_
  refine g_u (s_gtI rfl rfl rfl) ?_
  refine g_nil ?_
  refine normal_thn ?_
  refine aw_cond rfl (fun hb1 => ?_) (fun hb1 => ?_)
  · skip
    have q16 : 16 < l.length := by have := of_decide_eq_true hb1; (try simp only [List.length_map] at this); omega
    refine aw_seq ?_
    refine aw_region ?_
    refine g_u (s_as_imm rfl rfl) ?_
    refine g_nil ?_
    refine normal_thn ?_
    refine aw_ret ?_
    refine ret_thn ?_
    refine ret_scp ?_
    exact ⟨⟨(rfl : toAV (Al.look _ _) = some _).trans (congrArg some (by (exact congrArg iv (by unfold lksC; first | (rw [if_pos q16]; done) | (rw [if_neg q16, h2, hin, List.drop_length]; rfl) | (rw [if_neg q16, h2, E]; rw [EF] at q ⊢; split at q; (rename_i hz; rw [if_pos hz, if_pos hz]); (rename_i hz; rw [if_neg hz, if_neg hz, orC_pos _ _ q])))))), rfl⟩, trivial⟩
  · skip
    have q16 : ¬ 16 < l.length := by have := of_decide_eq_false hb1; (try simp only [List.length_map] at this); omega
    refine aw_skip ?_
    refine normal_thn ?_
    refine aw_seq ?_
    refine aw_region ?_
    refine g_u (s_as_imm rfl rfl) ?_
    refine g_nil ?_
    refine normal_thn ?_
    refine aw_seq ?_
    refine aw_label ?_
    refine normal_thn ?_
    refine aw_seq ?_
    refine aw_seq ?_
    refine aw_region ?_
    refine g_u (s_mv_imm rfl rfl) ?_
    refine g_u (s_lenL rfl rfl Tryd.underlying29) ?_
    refine g_u (s_mv_imm rfl rfl) ?_
    refine g_nil ?_
    refine normal_thn ?_
    refine aw_block ?_
    refine aw_loop' (fun i : Nat => [(3, .imm (iv 0)), (9, .imm (.sl 26 (l.map GL.av))), (10, .imm (iv (l.length : Int))), (11, .imm (iv (i : Int)))]) (fun i => i ≤ l.length ∧ lkC l = lkC (l.drop i)) (fun i => l.length - i) (0) ?_ ⟨rfl, rfl, look_int rfl (by rw [List.length_map]), rfl, trivial⟩ ?_
    · exact ⟨Nat.zero_le _, rfl⟩
    · rintro i ⟨h1, h2⟩; (try dsimp only at h1 h2)
      refine aw_seq ?_
      refine aw_region ?_
      refine g_u (s_ltI rfl rfl rfl) ?_
      refine g_nil ?_
      refine normal_thn ?_
      refine aw_seq ?_
      refine aw_cond rfl (fun hb2 => ?_) (fun hb2 => ?_)
      · skip
        have hi : i < l.length := by have := of_decide_eq_true hb2; (try simp only [List.length_map] at this); omega
        have hx := sumBy_mem GL.wt (nthL_mem hi)
        have hx2 : (nthL l i).wt = 1 + (nthL l i).state.size + wtAs (nthL l i).attrs := rfl
        have hxo := ho _ (nthL_mem hi)
        have c1 := lk1_c (nthL l i) hxo.1 hxo.2.1
        have c2 := lk2_c (nthL l i) (by omega)
        have c3 := lk3_c (nthL l i) hxo.2.2.2 (by omega)
        have E := lkC_drop hi
        have EF : firstC (fcodes [(96, [], [.cp (nthL l i).av], (if zeros (nthL l i).trace || zeros (nthL l i).span then 10 else 0)), (97, [], [.cp (nthL l i).av], nameC (nthL l i).state), (98, [], [.cp (nthL l i).av], attrsC (nthL l i).attrs)]) = if zeros (nthL l i).trace || zeros (nthL l i).span then 10 else orC (nameC (nthL l i).state) (attrsC (nthL l i).attrs) := by show orC (if zeros (nthL l i).trace || zeros (nthL l i).span then 10 else 0) (orC (nameC (nthL l i).state) (orC (attrsC (nthL l i).attrs) 0)) = _; rw [orC_right]; split; exact orC_pos _ _ (by decide); exact orC_zero _ _ rfl
        refine aw_skip ?_
        refine normal_thn ?_
        refine aw_seq ?_
        refine aw_block ?_
        refine aw_seq ?_
        refine aw_region ?_
        refine g_u (s_indexAddr rfl rfl rfl Tryd.underlying29 tS72 (by omega) (ixL hi)) ?_
        refine g_u (s_load_cp rfl rfl tA72 tS72 rfl (by first | exact getS_w (GL.width _) rfl | rfl)) ?_
        refine g_uG (s_alloc' 1005 rfl rfl rfl tZ72) rfl ?_
        refine g_u (s_store_imm rfl rfl rfl tS72 (by first | exact beqW (GL.width _) | rfl) (by first | exact setS_w (z72_w.trans (GL.width _).symm) rfl | rfl)) ?_
        refine g_nil ?_
        refine normal_thn ?_
        refine aw_seq ?_
        refine aw_share 1005 rfl rfl ?_
        refine aw_region ?_
        refine g_u (s_makeFunc rfl rfl rfl) ?_
        refine g_u (s_makeFunc rfl rfl rfl) ?_
        refine g_u (s_makeFunc rfl rfl rfl) ?_
        refine g_u (s_buildSlice (X0 := z88) rfl Tryd.underlying127 tS88 tZ88 rfl rfl rfl rfl rfl rfl rfl rfl) ?_
        refine g_u (s_call1 (first_c [(96, [], [.cp (nthL l i).av], (if zeros (nthL l i).trace || zeros (nthL l i).span then 10 else 0)), (97, [], [.cp (nthL l i).av], nameC (nthL l i).state), (98, [], [.cp (nthL l i).av], attrsC (nthL l i).attrs)] (by simp only [List.length_cons, List.length_nil]; omega) (fun x hx => by simp only [List.mem_cons, List.not_mem_nil, or_false] at hx; rcases hx with rfl | rfl | rfl <;> assumption)) rfl rfl) ?_
        refine g_u (s_as_imm rfl rfl) ?_
        refine g_nil ?_
        refine normal_thn ?_
        refine aw_seq ?_
        refine aw_region ?_
        refine g_u (s_mv_imm rfl rfl) ?_
        refine g_u (s_neI rfl rfl rfl) ?_
        refine g_nil ?_
        refine normal_thn ?_
        refine aw_cond rfl (fun hb3 => ?_) (fun hb3 => ?_)
        · skip
          have q := bne_iff_ne.1 hb3
          refine aw_exit ?_
          refine exit_blk_ne rfl ?_
          refine exit_thn ?_
          refine exit_thn ?_
          refine exit_blk ?_
          refine normal_thn ?_
          refine aw_seq ?_
          refine aw_region ?_
          refine g_u (s_mv_imm rfl rfl) ?_
          refine g_u (s_as_imm rfl rfl) ?_
          refine g_nil ?_
          refine normal_thn ?_
          refine aw_ret ?_
          refine ret_scp ?_
          exact ⟨⟨(rfl : toAV (Al.look _ _) = some _).trans (congrArg some (by (exact congrArg iv (by unfold lksC; first | (rw [if_pos q16]; done) | (rw [if_neg q16, h2, hin, List.drop_length]; rfl) | (rw [if_neg q16, h2, E]; rw [EF] at q ⊢; split at q; (rename_i hz; rw [if_pos hz, if_pos hz]); (rename_i hz; rw [if_neg hz, if_neg hz, orC_pos _ _ q])))))), rfl⟩, trivial⟩
        · skip
          have q := bne_eq_false_iff_eq.1 hb3
          refine aw_skip ?_
          refine normal_blk ?_
          refine normal_thn ?_
          refine aw_region ?_
          refine g_u (s_add rfl rfl rfl) ?_
          refine g_u (s_mv_imm rfl rfl) ?_
          refine g_nil ?_
          refine normal_thn ?_
          have qz := q
          rw [EF] at qz
          refine ⟨i + 1, ⟨hi, by (try dsimp only); rw [h2, E]; split at qz; (exact absurd qz (by decide)); (rename_i hz; rw [if_neg hz, orC_zero _ _ qz])⟩, ⟨look_int rfl q, rfl, rfl, look_int rfl (by rw [wrap64 (by omega) (by omega)]; rfl), trivial⟩, by (try dsimp only); omega⟩
      · skip
        have hin : i = l.length := by have := of_decide_eq_false hb2; (try simp only [List.length_map] at this); omega
        refine aw_exit ?_
        refine exit_thn ?_
        refine exit_thn ?_
        refine exit_blk ?_
        refine normal_thn ?_
        refine aw_seq ?_
        refine aw_region ?_
        refine g_u (s_mv_imm rfl rfl) ?_
        refine g_u (s_as_imm rfl rfl) ?_
        refine g_nil ?_
        refine normal_thn ?_
        refine aw_ret ?_
        refine ret_scp ?_
        exact ⟨⟨(rfl : toAV (Al.look _ _) = some _).trans (congrArg some (by (exact congrArg iv (by unfold lksC; first | (rw [if_pos q16]; done) | (rw [if_neg q16, h2, hin, List.drop_length]; rfl) | (rw [if_neg q16, h2, E]; rw [EF] at q ⊢; split at q; (rename_i hz; rw [if_pos hz, if_pos hz]); (rename_i hz; rw [if_neg hz, if_neg hz, orC_pos _ _ q])))))), rfl⟩, trivial⟩

end Go.Proofs

namespace Go.Proofs
open Go Go.Al
set_option maxRecDepth 10000
set_option maxHeartbeats 1000000 in
theorem ck1_c (s : GSpan) (h1 : s.trace.length = 16) (h2 : s.id.length = 8) : PCall Tryd.prog Γ0 48 [.cp s.av] [iv (if zeros s.trace || zeros s.id then 10 else 0)] := by
  refine pcall_of Tryd.func48 rfl Tryd.ntmps48 (by kernel_rfl) rfl fun w0 I0 G0 => ?_
  refine aw_seq ?_
  refine aw_region ?_
  refine g_u (s_as_imm rfl rfl) ?_
  refine g_nil ?_
  refine normal_thn ?_
  refine aw_seq ?_
  refine aw_region ?_
  refine g_u (s_fieldAddr_cp rfl rfl fa33_0 rfl rfl) ?_
  refine g_u (s_load_cp rfl rfl tA23 tS23 rfl rfl) ?_
  refine g_u (s_build_arr rfl tU23 Tryd.underlying23 tS5 rfl rfl rfl rfl) ?_
  refine g_u (s_eqA rfl rfl rfl eg23 rfl rfl (eq23 _ _)) ?_
  refine g_u (s_mv_imm rfl rfl) ?_
  refine g_case (t := 6) rfl ?_
  rintro (hb1 | hb1)
  · rw [hb1]
    have q : zeros s.trace = true := by have e := hb1; rw [zeros_beq h1] at e; exact e
    refine g_skip rfl rfl rfl ?_
    refine g_skip rfl rfl rfl ?_
    refine g_skip rfl rfl rfl ?_
    refine g_skip rfl rfl rfl ?_
    refine g_u (s_pick_t rfl rfl rfl) ?_
    refine g_u (s_call1 (when_c _ _) rfl rfl) ?_
    refine g_u (s_as_imm rfl rfl) ?_
    refine g_nil ?_
    refine normal_thn ?_
    refine aw_ret ?_
    exact ⟨⟨(rfl : toAV (Al.look _ _) = some _).trans (congrArg some (by (exact congrArg iv (by first | (rw [q, zeros_beq h2, Bool.false_or]; done) | (rw [q, Bool.true_or]; done) | (rw [q, Bool.true_or]; rfl))))), rfl⟩, trivial⟩
  · rw [hb1]
    have q : zeros s.trace = false := by have e := hb1; rw [zeros_beq h1] at e; exact e
    refine g_run rfl rfl (s_fieldAddr_cp rfl rfl fa33_1 rfl rfl) ?_
    refine g_run rfl rfl (s_load_cp rfl rfl tA25 tS25 rfl rfl) ?_
    refine g_run rfl rfl (s_build_arr rfl tU25 Tryd.underlying25 tS5 rfl rfl rfl rfl) ?_
    refine g_run rfl rfl (s_eqA rfl rfl rfl eg25 rfl rfl (eq25 _ _)) ?_
    refine g_u (s_pick_f rfl rfl rfl) ?_
    refine g_u (s_call1 (when_c _ _) rfl rfl) ?_
    refine g_u (s_as_imm rfl rfl) ?_
    refine g_nil ?_
    refine normal_thn ?_
    refine aw_ret ?_
    exact ⟨⟨(rfl : toAV (Al.look _ _) = some _).trans (congrArg some (by (exact congrArg iv (by first | (rw [q, zeros_beq h2, Bool.false_or]; done) | (rw [q, Bool.true_or]; done) | (rw [q, Bool.true_or]; rfl))))), rfl⟩, trivial⟩

set_option maxHeartbeats 1000000 in
theorem ck2_c (s : GSpan) (ht : s.state.size < 9223372036854775808) : PCall Tryd.prog Γ0 50 [.cp s.av] [iv (nameC s.state)] := by
  refine pcall_of Tryd.func50 rfl Tryd.ntmps50 (by kernel_rfl) rfl fun w0 I0 G0 => ?_
  refine aw_seq ?_
  refine aw_region ?_
  refine g_u (s_as_imm rfl rfl) ?_
  refine g_nil ?_
  refine normal_thn ?_
  refine aw_seq ?_
  refine aw_region ?_
  refine g_u (s_fieldAddr_cp rfl rfl fa33_3 rfl rfl) ?_
  refine g_u (s_load_cp rfl rfl tA9 tS9 rfl rfl) ?_
  refine g_u (s_call1 (words_c _ (by omega)) rfl rfl) ?_
  refine g_u (s_as_imm rfl rfl) ?_
  refine g_nil ?_
  refine normal_thn ?_
  refine aw_ret ?_
  exact ⟨⟨(rfl : toAV (Al.look _ _) = some _).trans (congrArg some (by rfl)), rfl⟩, trivial⟩

set_option maxHeartbeats 1000000 in
theorem ck3_c (s : GSpan) (ht : s.name.size < 9223372036854775808) : PCall Tryd.prog Γ0 52 [.cp s.av] [iv (nameC s.name)] := by
  refine pcall_of Tryd.func52 rfl Tryd.ntmps52 (by kernel_rfl) rfl fun w0 I0 G0 => ?_
  refine aw_seq ?_
  refine aw_region ?_
  refine g_u (s_as_imm rfl rfl) ?_
  refine g_nil ?_
  refine normal_thn ?_
  refine aw_seq ?_
  refine aw_region ?_
  refine g_u (s_fieldAddr_cp rfl rfl fa33_4 rfl rfl) ?_
  refine g_u (s_load_cp rfl rfl tA9 tS9 rfl rfl) ?_
  refine g_u (s_call1 (words_c _ (by omega)) rfl rfl) ?_
  refine g_u (s_as_imm rfl rfl) ?_
  refine g_nil ?_
  refine normal_thn ?_
  refine aw_ret ?_
  exact ⟨⟨(rfl : toAV (Al.look _ _) = some _).trans (congrArg some (by rfl)), rfl⟩, trivial⟩

set_option maxHeartbeats 1000000 in
theorem ck9_c (s : GSpan) (ht : s.note.size < 9223372036854775808) : PCall Tryd.prog Γ0 62 [.cp s.av] [iv (nameC s.note)] := by
  refine pcall_of Tryd.func62 rfl Tryd.ntmps62 (by kernel_rfl) rfl fun w0 I0 G0 => ?_
  refine aw_seq ?_
  refine aw_region ?_
  refine g_u (s_as_imm rfl rfl) ?_
  refine g_nil ?_
  refine normal_thn ?_
  refine aw_seq ?_
  refine aw_region ?_
  refine g_u (s_fieldAddr_cp rfl rfl fa33_11 rfl rfl) ?_
  refine g_u (s_fieldAddr_cp rfl rfl fa31_1 rfl rfl) ?_
  refine g_u (s_load_cp rfl rfl tA9 tS9 rfl rfl) ?_
  refine g_u (s_call1 (words_c _ (by omega)) rfl rfl) ?_
  refine g_u (s_as_imm rfl rfl) ?_
  refine g_nil ?_
  refine normal_thn ?_
  refine aw_ret ?_
  exact ⟨⟨(rfl : toAV (Al.look _ _) = some _).trans (congrArg some (by rfl)), rfl⟩, trivial⟩

set_option maxHeartbeats 1000000 in
theorem ck4_c (s : GSpan) : PCall Tryd.prog Γ0 53 [.cp s.av] [iv (if s.kind < 0 ∨ 5 < s.kind then 7 else 0)] := by
  refine pcall_of Tryd.func53 rfl Tryd.ntmps53 (by kernel_rfl) rfl fun w0 I0 G0 => ?_
  refine aw_seq ?_
  refine aw_region ?_
  refine g_u (s_as_imm rfl rfl) ?_
  refine g_nil ?_
  refine normal_thn ?_
  refine aw_seq ?_
  refine aw_region ?_
  refine g_u (s_fieldAddr_cp rfl rfl fa33_5 rfl rfl) ?_
  refine g_u (s_load_cp rfl rfl tA3 tS3 rfl rfl) ?_
  refine g_u (s_ltI rfl rfl rfl) ?_
  refine g_u (s_mv_imm rfl rfl) ?_
  refine g_case (t := 5) rfl ?_
  rintro (hb1 | hb1)
  · rw [hb1]
    have q : s.kind < 0 := of_decide_eq_true hb1
    refine g_skip rfl rfl rfl ?_
    refine g_skip rfl rfl rfl ?_
    refine g_skip rfl rfl rfl ?_
    refine g_u (s_pick_t rfl rfl rfl) ?_
    refine g_u (s_call1 (when_c _ _) rfl rfl) ?_
    refine g_u (s_as_imm rfl rfl) ?_
    refine g_nil ?_
    refine normal_thn ?_
    refine aw_ret ?_
    exact ⟨⟨(rfl : toAV (Al.look _ _) = some _).trans (congrArg some (by (exact congrArg iv (by first | (rw [if_pos (Or.inl q)]; done) | (rw [if_pos (Or.inl q)]; rfl) | (simp only [decide_eq_true_eq, gt_iff_lt]; (repeat' split) <;> omega))))), rfl⟩, trivial⟩
  · rw [hb1]
    have q : ¬ s.kind < 0 := of_decide_eq_false hb1
    refine g_run rfl rfl (s_fieldAddr_cp rfl rfl fa33_5 rfl rfl) ?_
    refine g_run rfl rfl (s_load_cp rfl rfl tA3 tS3 rfl rfl) ?_
    refine g_run rfl rfl (s_gtI rfl rfl rfl) ?_
    refine g_u (s_pick_f rfl rfl rfl) ?_
    refine g_u (s_call1 (when_c _ _) rfl rfl) ?_
    refine g_u (s_as_imm rfl rfl) ?_
    refine g_nil ?_
    refine normal_thn ?_
    refine aw_ret ?_
    exact ⟨⟨(rfl : toAV (Al.look _ _) = some _).trans (congrArg some (by (exact congrArg iv (by first | (rw [if_pos (Or.inl q)]; done) | (rw [if_pos (Or.inl q)]; rfl) | (simp only [decide_eq_true_eq, gt_iff_lt]; (repeat' split) <;> omega))))), rfl⟩, trivial⟩

set_option maxHeartbeats 1000000 in
theorem ck8_c (s : GSpan) : PCall Tryd.prog Γ0 61 [.cp s.av] [iv (if s.code < 0 ∨ 2 < s.code then 7 else 0)] := by
  refine pcall_of Tryd.func61 rfl Tryd.ntmps61 (by kernel_rfl) rfl fun w0 I0 G0 => ?_
  refine aw_seq ?_
  refine aw_region ?_
  refine g_u (s_as_imm rfl rfl) ?_
  refine g_nil ?_
  refine normal_thn ?_
  refine aw_seq ?_
  refine aw_region ?_
  refine g_u (s_fieldAddr_cp rfl rfl fa33_11 rfl rfl) ?_
  refine g_u (s_fieldAddr_cp rfl rfl fa31_0 rfl rfl) ?_
  refine g_u (s_load_cp rfl rfl tA3 tS3 rfl rfl) ?_
  refine g_u (s_ltI rfl rfl rfl) ?_
  refine g_u (s_mv_imm rfl rfl) ?_
  refine g_case (t := 6) rfl ?_
  rintro (hb1 | hb1)
  · rw [hb1]
    have q : s.code < 0 := of_decide_eq_true hb1
    refine g_skip rfl rfl rfl ?_
    refine g_skip rfl rfl rfl ?_
    refine g_skip rfl rfl rfl ?_
    refine g_skip rfl rfl rfl ?_
    refine g_u (s_pick_t rfl rfl rfl) ?_
    refine g_u (s_call1 (when_c _ _) rfl rfl) ?_
    refine g_u (s_as_imm rfl rfl) ?_
    refine g_nil ?_
    refine normal_thn ?_
    refine aw_ret ?_
    exact ⟨⟨(rfl : toAV (Al.look _ _) = some _).trans (congrArg some (by (exact congrArg iv (by first | (rw [if_pos (Or.inl q)]; done) | (rw [if_pos (Or.inl q)]; rfl) | (simp only [decide_eq_true_eq, gt_iff_lt]; (repeat' split) <;> omega))))), rfl⟩, trivial⟩
  · rw [hb1]
    have q : ¬ s.code < 0 := of_decide_eq_false hb1
    refine g_run rfl rfl (s_fieldAddr_cp rfl rfl fa33_11 rfl rfl) ?_
    refine g_run rfl rfl (s_fieldAddr_cp rfl rfl fa31_0 rfl rfl) ?_
    refine g_run rfl rfl (s_load_cp rfl rfl tA3 tS3 rfl rfl) ?_
    refine g_run rfl rfl (s_gtI rfl rfl rfl) ?_
    refine g_u (s_pick_f rfl rfl rfl) ?_
    refine g_u (s_call1 (when_c _ _) rfl rfl) ?_
    refine g_u (s_as_imm rfl rfl) ?_
    refine g_nil ?_
    refine normal_thn ?_
    refine aw_ret ?_
    exact ⟨⟨(rfl : toAV (Al.look _ _) = some _).trans (congrArg some (by (exact congrArg iv (by first | (rw [if_pos (Or.inl q)]; done) | (rw [if_pos (Or.inl q)]; rfl) | (simp only [decide_eq_true_eq, gt_iff_lt]; (repeat' split) <;> omega))))), rfl⟩, trivial⟩

set_option maxHeartbeats 1000000 in
theorem ck5_c (s : GSpan) (ho : ∀ a ∈ s.attrs, a.ok) (hw : wtAs s.attrs ≤ 1000000) : PCall Tryd.prog Γ0 55 [.cp s.av] [iv (attrsC s.attrs)] := by
  refine pcall_of Tryd.func55 rfl Tryd.ntmps55 (by kernel_rfl) rfl fun w0 I0 G0 => ?_
  refine aw_seq ?_
  refine aw_region ?_
  refine g_u (s_as_imm rfl rfl) ?_
  refine g_nil ?_
  refine normal_thn ?_
  refine aw_seq ?_
  refine aw_region ?_
  refine g_u (s_fieldAddr_cp rfl rfl fa33_8 rfl rfl) ?_
  refine g_u (s_load_cp rfl rfl tA27 tS27 rfl rfl) ?_
  refine g_u (s_call1 (checkAs_c _ ho (by omega)) rfl rfl) ?_
  refine g_u (s_as_imm rfl rfl) ?_
  refine g_nil ?_
  refine normal_thn ?_
  refine aw_ret ?_
  exact ⟨⟨(rfl : toAV (Al.look _ _) = some _).trans (congrArg some (by rfl)), rfl⟩, trivial⟩

set_option maxHeartbeats 1000000 in
theorem ck6_c (s : GSpan) (ho : ∀ e ∈ s.events, e.ok) (hw : sumBy GE.wt s.events ≤ 1000000) : PCall Tryd.prog Γ0 57 [.cp s.av] [iv (evsC s.events)] := by
  refine pcall_of Tryd.func57 rfl Tryd.ntmps57 (by kernel_rfl) rfl fun w0 I0 G0 => ?_
  refine aw_seq ?_
  refine aw_region ?_
  refine g_u (s_as_imm rfl rfl) ?_
  refine g_nil ?_
  refine normal_thn ?_
  refine aw_seq ?_
  refine aw_region ?_
  refine g_u (s_fieldAddr_cp rfl rfl fa33_9 rfl rfl) ?_
  refine g_u (s_load_cp rfl rfl tA28 tS28 rfl rfl) ?_
  refine g_u (s_call1 (events_c _ ho (by omega)) rfl rfl) ?_
  refine g_u (s_as_imm rfl rfl) ?_
  refine g_nil ?_
  refine normal_thn ?_
  refine aw_ret ?_
  exact ⟨⟨(rfl : toAV (Al.look _ _) = some _).trans (congrArg some (by rfl)), rfl⟩, trivial⟩

set_option maxHeartbeats 1000000 in
theorem ck7_c (s : GSpan) (ho : ∀ e ∈ s.links, e.ok) (hw : sumBy GL.wt s.links ≤ 1000000) : PCall Tryd.prog Γ0 59 [.cp s.av] [iv (lksC s.links)] := by
  refine pcall_of Tryd.func59 rfl Tryd.ntmps59 (by kernel_rfl) rfl fun w0 I0 G0 => ?_
  refine aw_seq ?_
  refine aw_region ?_
  refine g_u (s_as_imm rfl rfl) ?_
  refine g_nil ?_
  refine normal_thn ?_
  refine aw_seq ?_
  refine aw_region ?_
  refine g_u (s_fieldAddr_cp rfl rfl fa33_10 rfl rfl) ?_
  refine g_u (s_load_cp rfl rfl tA29 tS29 rfl rfl) ?_
  refine g_u (s_call1 (links_c _ ho (by omega)) rfl rfl) ?_
  refine g_u (s_as_imm rfl rfl) ?_
  refine g_nil ?_
  refine normal_thn ?_
  refine aw_ret ?_
  exact ⟨⟨(rfl : toAV (Al.look _ _) = some _).trans (congrArg some (by rfl)), rfl⟩, trivial⟩

set_option maxHeartbeats 8000000 in
theorem spanCheck_c (s : GSpan) (ho : s.ok) (hw : s.wt ≤ 1000000) : PCall Tryd.prog Γ0 15 [s.av] [iv (spanOk s)] := by
  have qw : s.wt = 1 + s.state.size + s.name.size + s.note.size + wtAs s.attrs + sumBy GE.wt s.events + sumBy GL.wt s.links := rfl
  have ql := sumBy_len GE.wt (fun e => by unfold GE.wt; omega) s.events
  have qm := sumBy_len GL.wt (fun e => by unfold GL.wt; omega) s.links
  obtain ⟨⟨o1, o2, o3⟩, ⟨o4, o5, o6⟩, o7, ho8, ho9, ho10⟩ := ho
  have c1 := ck1_c s o1 o2
  have c2 := ck2_c s (by omega)
  have c3 := ck3_c s (by omega)
  have c4 := ck4_c s
  have c5 : PCall Tryd.prog Γ0 54 ([.agg [uv s.start, uv s.fin]] ++ [] ++ []) [iv (rgCheckM ⟨s.start, s.fin⟩)] := rgCheck_c ⟨s.start, s.fin⟩
  have c6 := ck5_c s ho8 (by omega)
  have c7 := ck6_c s ho9 (by omega)
  have c8 := ck7_c s ho10 (by omega)
  have c9 := ck8_c s
  have c10 := ck9_c s (by omega)
  refine pcall_of Tryd.func15 rfl Tryd.ntmps15 (by kernel_rfl) rfl fun w0 I0 G0 => ?_
  refine aw_seq ?_
  refine aw_region ?_
  refine g_uG (s_box_imm 1001 rfl rfl rfl rfl) rfl ?_
  refine g_u (s_as_imm rfl rfl) ?_
  refine g_nil ?_
  refine normal_thn ?_
  refine aw_seq ?_
  refine aw_share 1001 rfl rfl ?_
  refine aw_region ?_
  refine g_u (s_makeFunc rfl rfl rfl) ?_
  refine g_u (s_makeFunc rfl rfl rfl) ?_
  refine g_u (s_makeFunc rfl rfl rfl) ?_
  refine g_u (s_makeFunc rfl rfl rfl) ?_
  refine g_u (s_fieldAddr_cp rfl rfl fa33_6 rfl rfl) ?_
  refine g_u (s_load_cp rfl rfl tA26 tS26 rfl rfl) ?_
  refine g_u (s_fieldAddr_cp rfl rfl fa33_7 rfl rfl) ?_
  refine g_u (s_load_cp rfl rfl tA26 tS26 rfl rfl) ?_
  refine g_u (s_build rfl tU90 us90 pl90 rfl rfl rfl rfl) ?_
  refine g_u (s_makeFunc rfl rfl rfl) ?_
  refine g_u (s_makeFunc rfl rfl rfl) ?_
  refine g_u (s_makeFunc rfl rfl rfl) ?_
  refine g_u (s_makeFunc rfl rfl rfl) ?_
  refine g_u (s_makeFunc rfl rfl rfl) ?_
  refine g_u (s_makeFunc rfl rfl rfl) ?_
  refine g_u (s_buildSlice (X0 := z88) rfl Tryd.underlying127 tS88 tZ88 rfl rfl rfl rfl rfl rfl rfl rfl) ?_
  refine g_u (s_call1 (first_c [(48, [], [.cp s.av], if zeros s.trace || zeros s.id then 10 else 0), (50, [], [.cp s.av], nameC s.state), (52, [], [.cp s.av], nameC s.name), (53, [], [.cp s.av], if s.kind < 0 ∨ 5 < s.kind then 7 else 0), (54, [.agg [uv s.start, uv s.fin]], [], rgCheckM ⟨s.start, s.fin⟩), (55, [], [.cp s.av], attrsC s.attrs), (57, [], [.cp s.av], evsC s.events), (59, [], [.cp s.av], lksC s.links), (61, [], [.cp s.av], if s.code < 0 ∨ 2 < s.code then 7 else 0), (62, [], [.cp s.av], nameC s.note)] (by simp only [List.length_cons, List.length_nil]; omega) (fun x hx => by simp only [List.mem_cons, List.not_mem_nil, or_false] at hx; rcases hx with rfl | rfl | rfl | rfl | rfl | rfl | rfl | rfl | rfl | rfl <;> assumption)) rfl rfl) ?_
  refine g_u (s_as_imm rfl rfl) ?_
  refine g_nil ?_
  refine normal_thn ?_
  refine aw_ret ?_
  exact ⟨⟨(rfl : toAV (Al.look _ _) = some _).trans (congrArg some (by rfl)), rfl⟩, trivial⟩

end Go.Proofs

