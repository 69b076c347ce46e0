/- Texts that the proofs of this claim share, part 6: the abstract logic, plain Lean on values and batches, and walks. No condition but those typed in each lemma. -/
import Derived.Shelf.Sort.Plain
import Derived.Shelf.Slices.In.SortNone
import Derived.RangeFuncLeaves
import Derived.RangeFuncRecord
import Derived.RangeFuncSeq
import Derived.Test.YtilolbiefnbccaaDoorP5
set_option linter.unusedSimpArgs false
set_option linter.unusedVariables false
namespace Go.Al
open Go.RowKit

/-! ### The library's sort of texts -/

def sortB (l : List ByteArray) : List ByteArray := ((l.map fun s => s.data.toList).mergeSort fun x y => decide (x ≤ y)).map fun b => ⟨b.toArray⟩

theorem sortB_length (l : List ByteArray) : (sortB l).length = l.length := by simp [sortB]

structure SortC (P : Program) (Γ : List (Nat × AV)) (f : FuncId) : Prop where
  call : callable P f = true
  sorts : ∀ (blk cap : Nat) (ss : List (List UInt8)) (w : World), Sort.Holds Proofs.encStr w blk 0 ss.toArray → blk < w.heap.size → ss.length < 4611686018427387904 →
    Calls P f #[.slice (some ⟨blk, 0, none⟩) ss.length cap] w fun e w' =>
      e = .returned (.tuple #[]) ∧ ∃ n os, w' = Sort.grow (Sort.putRow Proofs.encStr (Sort.ahead w n) blk 0 (ss.mergeSort fun x y => decide (x ≤ y)).toArray) os
  empty : PCall P Γ f [.v (.slice none 0 0)] []

theorem repM_strs {w : World} {I : Nat → Nat → Prop} {b : Nat} : ∀ (ts : List ByteArray) (o : Nat), (∀ j (h : j < ts.length), w.cell? ⟨b, o + j, none⟩ = some (.string ts[j]) ∧ I b (o + j)) → RepM w I 1 (strs ts) b o
  | [], o, _ => by simp only [strs, List.map_nil, RepM]
  | t :: ts, o, h => by
    simp only [strs, List.map_cons, RepM]
    refine ⟨⟨[.string t], rfl, by simp [RepC, Value.cells, plain], fun j hj => ?_⟩, ?_⟩
    · have : j = 0 := by simpa using hj
      subst this
      exact h 0 (by simp)
    · refine repM_strs ts (o + 1) fun j hj => ?_
      have := h (j + 1) (by simpa using hj)
      rw [show o + 1 + j = o + (j + 1) from by omega]
      exact this

theorem enc_map (l : List ByteArray) : (l.map fun s => s.data.toList).map Proofs.encStr = l.map Value.string := by
  simp [Proofs.encStr]

section
variable {C : Cx} {A : Nat → SV} {d : Nat} {ty : TypeId} {pos : String} {af : Array Edge} {gd : Option (Nat × Bool)} {x y z : Operand} {T T' : TypeId}

/-- Slots may be told anew. -/
theorem SimG.retell {A B : Nat → SV} {G : Gh} {a : Act} {w : World} (S : SimG C A G a w) (h : ∀ k, B k = A k ∨ B k = .dead ∨ (k < C.N ∧ SlotS w G (B k) (a.tmps.getD k Go.undef))) : SimG C B G a w := by
  have hno : ∀ k b, ownsB G k b (B k) → B k = A k := by
    intro k b hb
    rcases h k with e | e | ⟨_, e⟩
    · exact e
    · rw [e] at hb; simp only [ownsB] at hb
    · exact absurd hb (e.notOwn k b)
  refine ⟨S.os, S.tape, S.output, S.size, S.block, S.sub, S.rel, S.glob, S.new, S.val, S.nts, S.dfs, fun k => ?_, fun k j b hkj h1 h2 => ?_⟩
  · rcases h k with e | e | ⟨h1, h2⟩
    · rw [e]; exact S.holds k
    · rw [e]; simp only [Holds]
    · exact Holds.slot (by rw [S.nts]; exact h1) h2
  · rw [hno k b h1] at h1; rw [hno j b h2] at h2
    exact S.apart k j b hkj h1 h2

theorem SimG.sorted {A B : Nat → SV} {G : Gh} {a : Act} {w : World} (S : SimG C A G a w) {g b cap n : Nat} {l : List ByteArray} {cs : Array Value} {T0 : TypeId} {os : Array Obj} (hA : A g = .row l)
    (hc : G.cur g = .slice (some ⟨b, 0, none⟩) l.length cap) (h2 : l.length ≤ cap) (h3 : cap ≤ maxLen) (h4 : Owned C.w0 C.E w b) (h5 : w.heap[b]? = some (.cells cs T0 (0, 0))) (h6 : cs.size = cap) (h8 : ∀ o, ¬ G.I b o)
    (hB : ∀ j, (j ≠ g ∧ B j = A j) ∨ B j = .dead ∨ (B j = .imm (.sl 1 (strs (sortB l))) ∧ j < C.N ∧ a.tmps.getD j Go.undef = .slice (some ⟨b, 0, none⟩) l.length cap)) :
    Sim C B a (Sort.grow (Sort.putRow Proofs.encStr (Sort.ahead w n) b 0 ((l.map fun s => s.data.toList).mergeSort fun x y => decide (x ≤ y)).toArray) os) := by
  obtain ⟨ts, hts⟩ : ∃ ts, ts = (l.map fun s => s.data.toList).mergeSort fun x y => decide (x ≤ y) := ⟨_, rfl⟩
  have htl : ts.length = l.length := by rw [hts]; simp
  have hsb : sortB l = ts.map fun b => (⟨b.toArray⟩ : ByteArray) := by rw [hts]; rfl
  rw [← hts]
  obtain ⟨w', hw'⟩ : ∃ w', w' = Sort.grow (Sort.putRow Proofs.encStr (Sort.ahead w n) b 0 ts.toArray) os := ⟨_, rfl⟩
  have hb' := heap_sorted (n := n) (os := os) ts.toArray h5
  have hgr : w.grownBy w' (some b) := by rw [hw']; exact grownBy_sorted _
  rw [← hw'] at hb' ⊢
  obtain ⟨g1, g2, g3, g4, g5⟩ := hgr
  let G' : Gh := { G with I := fun b' o => G.I b' o ∨ (b' = b ∧ o < l.length) }
  have hblk : ∀ k, k < w.heap.size → k ≠ b → w'.heap[k]? = w.heap[k]? := fun k hk hne => g5 k hk (fun e => hne (by cases e; rfl))
  have hle : Le w G.I w' G'.I := fun b' o h => ⟨.inl h, kp_of_block (hblk b' (S.val b' o h) fun e => h8 o (e ▸ h))⟩
  have hg : GRel [] G G' := fun j _ => ⟨rfl, .inl ⟨rfl, rfl⟩⟩
  have hbg : inRow G g b := ⟨_, _, _, hc, rfl⟩
  have hown : ownsB G g b (A g) := by rw [hA]; simp only [ownsB]; exact hbg
  have conv : ∀ j c, ownsB G' j c (B j) → j ≠ g ∧ ownsB G j c (A j) := by
    intro j c h
    rcases hB j with ⟨h1, e⟩ | e | ⟨e, _⟩
    · rw [e] at h
      refine ⟨h1, ?_⟩
      revert h
      generalize A j = y
      cases y <;> exact id
    · rw [e] at h; simp only [ownsB] at h
    · rw [e] at h; simp only [ownsB] at h
  refine ⟨G', g1.trans S.os, g2.trans S.tape, g3.trans S.output, Nat.le_trans S.size g4, fun j h1 h2 => ?_, S.sub.trans hle, fun j hj => (S.rel j hj).trans (hg j (by simp)), S.glob.mono hle, fun b' o h => ?_, fun b' o h => ?_, S.nts, S.dfs, fun j => ?_, fun i j c hij p1 p2 => S.apart i j c hij (conv i c p1).2 (conv j c p2).2⟩
  · rw [hblk j (Nat.lt_of_lt_of_le h1 S.size) ?_]
    · exact S.block j h1 h2
    · rintro rfl
      rcases h4.1 with h | h
      · omega
      · exact h2 h
  · rcases h with h | ⟨rfl, _⟩
    · exact S.new b' o h
    · exact .inr h4.1
  · rcases h with h | ⟨rfl, _⟩
    · exact Nat.lt_of_lt_of_le (S.val b' o h) g4
    · exact Nat.lt_of_lt_of_le h4.2 g4
  · rcases hB j with ⟨hj, e⟩ | e | ⟨e, hjN, hv⟩
    · rw [e]
      refine (S.holds j).keep hle hg (noG_nil.1 _) g4 (fun h => ⟨h, rfl⟩) (fun _ => ⟨rfl, rfl, rfl⟩) (fun c hc' => ?_)
      have hcb : c ≠ b := by rintro rfl; exact S.apart j g c hj hc' hown
      refine ⟨hblk c (ownsB_lt S hc') hcb, fun o hi => ?_⟩
      rcases hi with hi | ⟨rfl, _⟩
      · exact hi
      · exact absurd rfl hcb
    · rw [e]; simp only [Holds]
    · rw [e]
      simp only [Holds]
      refine ⟨by rw [S.nts]; exact hjN, ?_⟩
      rw [hv]
      simp only [SlotS]
      refine valS_imm.2 ⟨[.slice (some ⟨b, 0, none⟩) l.length cap], ?_, rfl⟩
      simp only [RepC]
      refine ⟨_, rfl, .inr ⟨b, 0, cap, by simp [strs, sortB_length], by simpa [strs, sortB_length] using h2, h3, ?_⟩⟩
      refine repM_strs _ 0 fun i hi => ?_
      have hi' : i < ts.length := by rw [hsb] at hi; simpa using hi
      refine ⟨?_, .inr ⟨rfl, by omega⟩⟩
      have ht := take_putCells cs ts (by omega)
      have h9 : ((Sort.putCells Proofs.encStr 0 ts.toArray cs).toList.take ts.length)[i]? = (ts.map Proofs.encStr)[i]? := by rw [ht]
      rw [List.getElem?_take_of_lt hi', Array.getElem?_toList] at h9
      simp only [World.cell?, hb', Nat.zero_add]
      simp only [Option.isSome_none, Bool.false_eq_true, if_false]
      rw [h9]
      simp only [hsb, List.getElem?_map, List.getElem_map, List.getElem?_eq_getElem hi', Option.map_some]

/-- slices.Sort of a row of texts: nobody writes to it any more. k2: another slot that holds it. -/
theorem s_sort {g k : Nat} (k2 : Nat) {l : List ByteArray} {f : FuncId} {ats : Array TypeId} (hc : SortC C.P C.Γ f) (hgN : Nat.ble C.N g = true) (hN : Nat.blt d C.N = true) (hkN : Nat.blt k C.N = true) (hkN2 : Nat.blt k2 C.N = true) (hkd : Nat.beq k d = false) (hkd2 : Nat.beq k2 d = false) (hx : A k = .slg g 0 (units l.length)) (hx2 : A k2 = .slg g 0 (units l.length)) (hg : A g = .row l) (hL : l.length < 4611686018427387904) :
    StepU C ⟨some d, .call { callee := .value (.func f), args := #[.tmp k], argTypes := ats }, ty, pos, af, gd⟩ [g, k, k2] [] A [(g, .dead), (k, .imm (.sl 1 (strs (sortB l)))), (k2, .imm (.sl 1 (strs (sortB l)))), (d, .tup [])] := by
  intro A' a w hR hF ⟨G, S⟩
  have hgA : A' g = .row l := (hR g (by simp)).trans hg
  have hN' : d < C.N := by simpa [Nat.blt_eq] using hN
  have hkN' : k < C.N := by simpa [Nat.blt_eq] using hkN
  have hkN2' : k2 < C.N := by simpa [Nat.blt_eq] using hkN2
  have hgN' : C.N ≤ g := Nat.le_of_ble_eq_true hgN
  have ht := S.holds g
  rw [hgA] at ht
  simp only [Holds] at ht
  obtain ⟨hlen, ht⟩ := ht
  have val : ∀ k, A' k = .slg g 0 (units l.length) → a.tmps.getD k Go.undef = G.cur g := by
    intro k hkA
    obtain ⟨c, hc1, hc2⟩ := S.slot hkA rfl
    simp only [RepS] at hc1
    obtain ⟨v, rfl, hv1, hv2, hv3⟩ := hc1
    have hval : a.tmps.getD k Go.undef = v := hc2
    rw [hval]; exact hv3 (by simpa using hlen.symm)
  have hval := val k ((hR k (by simp)).trans hx)
  have hval2 := val k2 ((hR k2 (by simp)).trans hx2)
  have hkd' : k ≠ d := by rintro rfl; rw [Nat.beq_refl] at hkd; cases hkd
  have hkd2' : k2 ≠ d := by rintro rfl; rw [Nat.beq_refl] at hkd2; cases hkd2
  obtain ⟨B, hBdef⟩ : ∃ B, B = upd A' [(g, .dead), (k, .imm (.sl 1 (strs (sortB l)))), (k2, .imm (.sl 1 (strs (sortB l))))] := ⟨_, rfl⟩
  have hu : upd A' [(g, .dead), (k, .imm (.sl 1 (strs (sortB l)))), (k2, .imm (.sl 1 (strs (sortB l)))), (d, .tup [])] = upd B [(d, .tup [])] := by
    funext j
    have hgd : g ≠ d := by omega
    rw [hBdef]
    simp only [upd]
    by_cases hjd : d = j
    · subst hjd; rw [nat_beq_false hgd, nat_beq_false hkd', nat_beq_false hkd2']; simp
    · rw [nat_beq_false hjd]; simp
  have hBj : ∀ j, B j = if j = g then .dead else if j = k then .imm (.sl 1 (strs (sortB l))) else if j = k2 then .imm (.sl 1 (strs (sortB l))) else A' j := by
    intro j
    rw [hBdef]
    simp only [upd]
    by_cases h1 : j = g
    · subst h1; simp
    · rw [nat_beq_false (Ne.symm h1), if_neg h1]
      by_cases h2 : j = k
      · subst h2; simp
      · rw [nat_beq_false (Ne.symm h2), if_neg h2]
        by_cases h3 : j = k2
        · subst h3; simp
        · rw [nat_beq_false (Ne.symm h3), if_neg h3]; rfl
  have hev : (#[Operand.tmp k].map a.eval) = #[G.cur g] := by
    have : a.eval (.tmp k) = G.cur g := hval
    simp [this]
  unfold Oper.wp
  have hrun : (execOp a.eval ⟨some d, .call { callee := .value (.func f), args := #[.tmp k], argTypes := ats }, ty, pos, af, gd⟩).run C.P w = .ok (.enter f #[G.cur g]) w := by
    have hfn : a.eval (.func f) = .func (.func f) #[] #[] := rfl
    simp only [execOp, resolve, hfn, Deferred.ofValue, Sem.run_bind, Sem.run_pure, Result.andThen_ok, invoke, hev]
    have := run_callFunc hc.call (#[] ++ #[G.cur g] ++ #[]) w
    simpa using this
  rw [hrun, Oper.upon_enter, hu]
  rcases ht with ⟨e, rfl⟩ | ⟨b, cap, e, h2, h3, h4, ⟨cs, T0, h5, h6, h7⟩, h8⟩
  · rw [e]
    refine (hc.empty.2 w G.I [.slice none 0 0] S.val S.glob (by simp only [RepVs]; exact ⟨[.slice none 0 0], [], rfl, by simp [RepC, Value.cells, plain], rfl⟩)).mono ?_
    rintro e' w' ⟨v', I', rfl, hb, hle, hn, hv, hres⟩
    have S' := S.called hb hle hn hv
    have hs : ∀ j, a.tmps.getD j Go.undef = G.cur g → SlotS w' { G with I := I' } (.imm (.sl 1 (strs (sortB [])))) (a.tmps.getD j Go.undef) := by
      intro j hj
      rw [hj, e]
      simp only [SlotS]
      refine valS_imm.2 ⟨[.slice none 0 0], ?_, rfl⟩
      simp only [RepC]
      exact ⟨_, rfl, .inl (by simpa [strs, sortB] using nil_sl 0)⟩
    have S2 : SimG C B { G with I := I' } a w' := S'.retell fun j => by
      rw [hBj]
      split
      · exact .inr (.inl rfl)
      · split
        · rename_i hj; subst hj; exact .inr (.inr ⟨hkN', hs _ hval⟩)
        · split
          · rename_i hj; subst hj; exact .inr (.inr ⟨hkN2', hs _ hval2⟩)
          · exact .inl rfl
    have S3 := S2.put (d := d) hN' (x := .tup []) (v := v') (by
      have := resV_slot (w := w') (G := { G with I := I' }) (rs := []) hres
      simpa [resSV] using this)
    exact ⟨_, S3⟩
  · have hH : Sort.Holds Proofs.encStr w b 0 (l.map fun s => s.data.toList).toArray := holds_of_block h5 (by rw [enc_map]; simpa using h7)
    have hcall := hc.sorts b cap (l.map fun s => s.data.toList) w hH h4.2 (by simpa using hL)
    rw [List.length_map, ← e] at hcall
    refine hcall.mono ?_
    rintro e' w' ⟨rfl, n, os, rfl⟩
    obtain ⟨G', S'⟩ := S.sorted (B := B) (n := n) (os := os) hgA e h2 h3 h4 h5 h6 h8 (fun j => by
      rw [hBj]
      split
      · exact .inr (.inl rfl)
      · rename_i hjg
        split
        · rename_i hj; subst hj; exact .inr (.inr ⟨rfl, hkN', hval.trans e⟩)
        · split
          · rename_i hj; subst hj; exact .inr (.inr ⟨rfl, hkN2', hval2.trans e⟩)
          · exact .inl ⟨hjg, rfl⟩)
    have S3 := S'.put (d := d) hN' (x := .tup []) (v := .tuple #[]) (by
      simp only [SlotS]
      exact ⟨[], rfl, by simp only [ValSs]⟩)
    exact ⟨_, S3⟩
end
end Go.Al

namespace Go.Proofs
open Go Go.Al

/-! ### Keys collected in a map, sorted: the own form -/

/-- The last place of a key. -/
def lastAt : List GA → ByteArray → Nat → Option Nat
  | [], _, _ => none
  | x :: xs, k, i => match lastAt xs k (i + 1) with
    | some j => some j
    | none => if x.key = k then some i else none
def lastI (l : List GA) (k : ByteArray) : Nat := (lastAt l k 0).getD 0
def mks (l : List GA) : List ByteArray := l.foldl (fun acc x => mputK acc x.key) []
def mvs (l : List GA) : List AV := (mks l).map fun k => iv (lastI l k : Int)

theorem lastAt_snoc (k : ByteArray) (x : GA) : ∀ (m : List GA) (i : Nat), lastAt (m ++ [x]) k i = if x.key = k then some (i + m.length) else lastAt m k i
  | [], i => by simp only [List.nil_append, lastAt]; split <;> simp
  | y :: m, i => by
    simp only [List.cons_append, lastAt]
    rw [lastAt_snoc k x m (i + 1)]
    by_cases h : x.key = k
    · simp only [h, if_true, List.length_cons]; congr 1; omega
    · simp only [if_neg h]
theorem lastAt_lt {k : ByteArray} : ∀ {m : List GA} {i j : Nat}, lastAt m k i = some j → i ≤ j ∧ j < i + m.length
  | [], i, j, h => by simp [lastAt] at h
  | x :: xs, i, j, h => by
    simp only [lastAt] at h
    split at h
    · rename_i j' hj; cases h; have := lastAt_lt hj; simp; omega
    · split at h
      · cases h; simp
      · cases h
theorem mks_snoc (m : List GA) (x : GA) : mks (m ++ [x]) = mputK (mks m) x.key := by simp [mks, List.foldl_append]

theorem mfind_none : ∀ {l : List ByteArray} {s : ByteArray} {i : Nat}, mfind l s i = none ↔ s ∉ l
  | [], s, i => by simp [mfind]
  | x :: xs, s, i => by
    rw [mfind]
    by_cases h : s = x
    · simp [h]
    · simp [h, mfind_none]
theorem nodup_mks (l : List GA) : (mks l).Nodup := by
  have key : ∀ (l : List GA) (acc : List ByteArray), acc.Nodup → (l.foldl (fun acc x => mputK acc x.key) acc).Nodup := by
    intro l
    induction l with
    | nil => intro acc h; exact h
    | cons x l ih =>
      intro acc h
      refine ih _ ?_
      show (mputK acc x.key).Nodup
      unfold mputK
      split
      · exact h
      · rename_i hm
        have := mfind_none.1 hm
        rw [List.nodup_append]
        refine ⟨h, by simp, ?_⟩
        intro a ha b hb
        simp at hb; subst hb
        rintro rfl; exact this ha
  exact key l [] (by simp)
theorem mem_mputK {l : List ByteArray} {s k : ByteArray} : k ∈ mputK l s ↔ k = s ∨ k ∈ l := by
  unfold mputK
  split
  · rename_i j hm
    have := mfind_get hm
    have hs : s ∈ l := List.mem_of_getElem? this
    constructor
    · exact .inr
    · rintro (rfl | h)
      · exact hs
      · exact h
  · simp; exact Or.comm
theorem mks_spec (l : List GA) (k : ByteArray) : k ∈ mks l ↔ ∃ j, lastAt l k 0 = some j := by
  induction l using snocInd with
  | nil => simp [mks, lastAt]
  | snoc m x ih =>
    rw [mks_snoc, mem_mputK, lastAt_snoc, ih]
    by_cases h : x.key = k
    · simp [h]
    · have : ¬ k = x.key := fun e => h e.symm
      simp [h, this]
where
  snocInd {motive : List GA → Prop} (l : List GA) (nil : motive []) (snoc : ∀ m x, motive m → motive (m ++ [x])) : motive l := by
    have : ∀ n (l : List GA), l.length = n → motive l := by
      intro n
      induction n with
      | zero => intro l h; rw [List.eq_nil_of_length_eq_zero h]; exact nil
      | succ n ih =>
        intro l h
        have hne : l ≠ [] := by rintro rfl; simp at h
        rw [← List.dropLast_concat_getLast hne]
        exact snoc _ _ (ih _ (by simp [h]))
    exact this _ l rfl
theorem mvs_snoc (m : List GA) (x : GA) : mvs (m ++ [x]) = mputV (mks m) (mvs m) x.key (iv (m.length : Int)) := by
  have hl : ∀ k, lastI (m ++ [x]) k = if x.key = k then m.length else lastI m k := by
    intro k
    unfold lastI
    rw [lastAt_snoc]
    split <;> simp
  unfold mvs mputV
  rw [mks_snoc]
  unfold mputK
  cases hm : mfind (mks m) x.key 0 with
  | some i =>
    have h1 := mfind_lt hm
    have h2 := mfind_get hm
    simp only [Nat.sub_zero] at h2
    refine List.ext_getElem? fun j => ?_
    simp only [List.getElem?_map]
    by_cases hj : j = i
    · subst hj
      rw [h2, List.getElem?_set_self (by simp; omega)]
      simp [hl]
    · rw [List.getElem?_set_ne (Ne.symm hj), List.getElem?_map]
      cases hk : (mks m)[j]? with
      | none => rfl
      | some k =>
        have hne : ¬ x.key = k := by
          intro e
          rw [e] at h2
          have hn := nodup_mks m
          have hji : j < (mks m).length := (List.getElem?_eq_some_iff.1 hk).1
          have := (List.getElem?_inj hji hn).1 (hk.trans h2.symm)
          exact hj this
        simp [hl, hne]
  | none =>
    have h1 := mfind_none.1 hm
    simp only [List.map_append, List.map_cons, List.map_nil, hl, if_true]
    congr 1
    refine List.map_congr_left fun k hk => ?_
    rw [if_neg (fun e => h1 (by rw [e]; exact hk))]
theorem mks_len (l : List GA) : (mks l).length ≤ l.length := by
  have key : ∀ (l : List GA) (acc : List ByteArray), (l.foldl (fun acc x => mputK acc x.key) acc).length ≤ acc.length + l.length := by
    intro l
    induction l with
    | nil => intro acc; simp
    | cons x l ih =>
      intro acc
      have h1 := ih (mputK acc x.key)
      have h2 : (mputK acc x.key).length ≤ acc.length + 1 := by unfold mputK; split <;> simp
      simp only [List.foldl_cons, List.length_cons] at *; omega
  have := key l []
  simp only [List.length_nil, Nat.zero_add] at this
  exact this

/-! ### What stands under a key of the own form -/
theorem getA_intoP {l : List GA} {p : Option ByteArray} (a : GA) (k : ByteArray) (h : risA p l) : getA (intoA l a) k = if a.key = k then some a.val else getA l k := by
  induction l generalizing p with
  | nil => simp only [intoA, getA]
  | cons x xs ih =>
    rw [intoA]
    split
    · rename_i hx
      simp only [getA]
      rw [ih h.2]
      by_cases h1 : a.key = k
      · have : ¬ x.key = k := by rintro e; rw [e, h1, ltB_irrefl] at hx; cases hx
        simp [h1, this]
      · simp only [if_neg h1]
    · rename_i hx
      split
      · rename_i he
        simp only [getA]
        by_cases h1 : a.key = k
        · simp [h1]
        · have : ¬ x.key = k := by rw [he]; exact h1
          simp [h1, this]
      · simp only [getA]
theorem nthA_append_lt {m : List GA} {x : GA} {j : Nat} (h : j < m.length) : nthA (m ++ [x]) j = nthA m j := by
  unfold nthA nth; rw [List.getD_eq_getElem?_getD, List.getD_eq_getElem?_getD, List.getElem?_append_left h]
theorem nthA_append_last {m : List GA} {x : GA} : nthA (m ++ [x]) m.length = x := by
  unfold nthA nth; simp
theorem getA_canonAs (l : List GA) (k : ByteArray) : getA (canonAs l) k = (lastAt l k 0).map fun j => canonV (nthA l j).val := by
  unfold canonAs
  induction l using mks_spec.snocInd with
  | nil => rfl
  | snoc m x ih =>
    rw [List.map_append, List.map_cons, List.map_nil, intoAll_snoc, getA_intoP _ _ (ris_intoAll _ [] trivial), lastAt_snoc, ih]
    have e1 : (canonP x).key = x.key := by rw [canonP_eq]; rfl
    have e2 : (canonP x).val = canonV x.val := by rw [canonP_eq]; rfl
    rw [e1, e2]
    by_cases h : x.key = k
    · simp only [h, if_true, Option.map_some, Nat.zero_add, nthA_append_last]
    · simp only [if_neg h]
      cases hl : lastAt m k 0 with
      | none => rfl
      | some j =>
        have := lastAt_lt hl
        simp only [Option.map_some]
        rw [nthA_append_lt (by omega)]

theorem risA_ext : ∀ {l m : List GA} {p q : Option ByteArray}, risA p l → risA q m → (∀ k, getA l k = getA m k) → l = m
  | [], [], _, _, _, _, _ => rfl
  | [], y :: m, _, _, _, _, h => by have := h y.key; simp [getA] at this
  | x :: l, [], _, _, _, _, h => by have := h x.key; simp [getA] at this
  | x :: l, y :: m, p, q, h1, h2, h => by
    have memk : ∀ {l : List GA} {k : ByteArray} {v : GV}, getA l k = some v → ∃ a ∈ l, a.val = v ∧ a.key = k := getA_mem
    have hk : x.key = y.key := by
      have a1 := h x.key
      have a2 := h y.key
      simp only [getA, if_true] at a1 a2
      by_cases e : y.key = x.key
      · exact e.symm
      · have e' : ¬ x.key = y.key := fun q => e q.symm
        rw [if_neg e] at a1
        rw [if_neg e'] at a2
        obtain ⟨b, hb, _, hbk⟩ := memk a1.symm
        obtain ⟨c, hc, _, hck⟩ := memk a2
        have h3 := risA_mem h2.2 b hb
        have h4 := risA_mem h1.2 c hc
        rw [hbk] at h3; rw [hck] at h4
        rw [ltB_asymm h3] at h4; cases h4
    have hv : x.val = y.val := by
      have a1 := h x.key
      simp only [getA, if_true, hk] at a1
      exact Option.some.inj a1
    have hxy : x = y := by
      cases x; cases y; simp only [GA.key, GA.val] at hk hv; rw [hk, hv]
    subst hxy
    congr 1
    refine risA_ext h1.2 h2.2 fun k => ?_
    by_cases e : x.key = k
    · have none1 : ∀ {m : List GA}, risA (some x.key) m → getA m k = none := by
        intro m hm
        cases hg : getA m k with
        | none => rfl
        | some v =>
          obtain ⟨b, hb, _, hbk⟩ := memk hg
          have := risA_mem hm b hb
          rw [hbk, e, ltB_irrefl] at this; cases this
      rw [none1 h1.2, none1 h2.2]
    · have := h k
      simp only [getA, if_neg e] at this
      exact this

/-! ### Sorted -/
theorem bl_lt : ∀ a b : List UInt8, Op.bytesLess a b = decide (a < b)
  | [], [] => by simp [Op.bytesLess]
  | [], _ :: _ => by simp [Op.bytesLess]
  | _ :: _, [] => by simp [Op.bytesLess]
  | x :: a, y :: b => by
    have ih := bl_lt a b
    simp only [Op.bytesLess, List.cons_lt_cons_iff]
    by_cases h : x < y
    · simp [h]
    · by_cases h2 : y < x
      · have : ¬ x = y := by rintro rfl; exact absurd h2 (UInt8.lt_irrefl _)
        simp [h, h2, this]
      · have : x = y := UInt8.le_antisymm (UInt8.not_lt.1 h2) (UInt8.not_lt.1 h)
        subst this
        simp [h, ih]
theorem le_iff (s t : ByteArray) : decide (s.data.toList ≤ t.data.toList) = !ltB t s := by
  have e : ltB t s = decide (t.data.toList < s.data.toList) := by
    unfold ltB
    have hl : ∀ s : ByteArray, lst s = s.data.toList := fun s => rfl
    rw [hl, hl]; exact bl_lt _ _
  rw [e, ← decide_not]
  exact decide_eq_decide.2 List.not_lt.symm
theorem sortB_perm (l : List ByteArray) : (sortB l).Perm l := by
  have h := (List.mergeSort_perm (l.map fun s => s.data.toList) (fun x y => decide (x ≤ y))).map (fun b : List UInt8 => (⟨b.toArray⟩ : ByteArray))
  simpa [sortB, Function.comp_def] using h
theorem sortB_sorted (l : List ByteArray) : (sortB l).Pairwise fun s t => ltB t s = false := by
  have h := List.pairwise_mergeSort (le := fun x y : List UInt8 => decide (x ≤ y)) (fun a b c h1 h2 => by simp only [decide_eq_true_eq] at *; exact List.le_trans h1 h2) (fun a b => by simp only [Bool.or_eq_true, decide_eq_true_eq]; exact List.le_total a b) (l.map fun s => s.data.toList)
  unfold sortB
  rw [List.pairwise_map]
  refine h.imp ?_
  intro a b hab
  have := le_iff ⟨a.toArray⟩ ⟨b.toArray⟩
  simp only [List.toList_toArray] at this
  rw [hab] at this
  simpa using this.symm
theorem ris_of_pairwise {f : ByteArray → GA} (hf : ∀ k, (f k).key = k) : ∀ (l : List ByteArray) (p : Option ByteArray), (∀ q, p = some q → ∀ k ∈ l, ltB q k = true) → l.Pairwise (fun s t => ltB s t = true) → risA p (l.map f)
  | [], _, _, _ => trivial
  | k :: l, p, hp, h => by
    rw [List.pairwise_cons] at h
    simp only [List.map_cons, risA, hf]
    refine ⟨?_, ris_of_pairwise hf l _ (fun q e => by cases e; exact h.1) h.2⟩
    cases p with
    | none => trivial
    | some q => exact hp q rfl k List.mem_cons_self
theorem getA_mapped {v : ByteArray → GV} (k : ByteArray) : ∀ l : List ByteArray, (k ∈ l → getA (l.map fun k => GA.mk k (v k)) k = some (v k)) ∧ (k ∉ l → getA (l.map fun k => GA.mk k (v k)) k = none)
  | [] => ⟨fun h => by simp at h, fun _ => rfl⟩
  | x :: l => by
    have ih := getA_mapped (v := v) k l
    rw [List.map_cons, getA, List.mem_cons]
    by_cases h : (GA.mk x (v x)).key = k
    · rw [if_pos h]
      have h' : x = k := h
      subst h'
      exact ⟨fun _ => rfl, fun hk => absurd (.inl rfl) hk⟩
    · rw [if_neg h]
      have h' : ¬ k = x := fun e => h e.symm
      exact ⟨fun hk => ih.1 (hk.resolve_left h'), fun hk => ih.2 fun q => hk (.inr q)⟩

/-- The program's way to the own form. -/
theorem canonAs_sorted (l : List GA) {ks : List ByteArray} (h : ks.Perm (mks l)) : (sortB ks).map (fun k => GA.mk k (canonV (nthA l (lastI l k)).val)) = canonAs l := by
  have hp : (sortB ks).Perm (mks l) := (sortB_perm ks).trans h
  have hn : (sortB ks).Nodup := hp.nodup_iff.2 (nodup_mks l)
  have hs : (sortB ks).Pairwise fun s t => ltB s t = true := by
    have h1 := sortB_sorted ks
    have h2 : (sortB ks).Pairwise (· ≠ ·) := hn
    refine (h1.and h2).imp ?_
    rintro a b ⟨h3, h4⟩
    cases h5 : ltB a b with
    | true => rfl
    | false => exact absurd (ltB_tri h5 h3) h4
  refine risA_ext (p := none) (q := none) (ris_of_pairwise (f := fun k => GA.mk k (canonV (nthA l (lastI l k)).val)) (fun _ => rfl) _ none (fun q e => by cases e) hs) (ris_canonAs l) fun k => ?_
  have hgm := getA_mapped (v := fun k => canonV (nthA l (lastI l k)).val) k (sortB ks)
  rw [getA_canonAs]
  have hm : k ∈ sortB ks ↔ ∃ j, lastAt l k 0 = some j := (hp.mem_iff).trans (mks_spec l k)
  cases hl : lastAt l k 0 with
  | none =>
    rw [hgm.2 (fun hk => by obtain ⟨j, hj⟩ := hm.1 hk; rw [hl] at hj; cases hj)]; rfl
  | some j =>
    rw [hgm.1 (hm.2 ⟨j, hl⟩)]
    simp only [lastI, hl, Option.getD_some, Option.map_some]

/-- Who has seen all has seen each key once. -/
theorem seen_perm {ks : List ByteArray} {seen : List Nat} (hn : seen.Nodup) (hl : ∀ i ∈ seen, i < ks.length) (hall : ∀ i, i < ks.length → i ∈ seen) : (seen.map fun i => ks.getD i ⟨#[]⟩).Perm ks := by
  have h1 : seen.Perm (List.range ks.length) := by
    refine (List.perm_ext_iff_of_nodup hn List.nodup_range).2 fun i => ?_
    rw [List.mem_range]
    exact ⟨hl i, hall i⟩
  have h2 := h1.map fun i => ks.getD i ⟨#[]⟩
  have h3 : (List.range ks.length).map (fun i => ks.getD i ⟨#[]⟩) = ks := by
    refine List.ext_getElem (by simp) fun i h4 h5 => ?_
    rw [List.getElem_map, List.getElem_range, List.getD_eq_getElem?_getD, List.getElem?_eq_getElem h5]; rfl
  rw [h3] at h2
  exact h2
end Go.Proofs

namespace Go.Al
open Go.RowKit

/-! ### The step of a range over a map -/

/-- A region whose first operation goes one of several ways. -/
theorem aw_first {C : Cx} {id : Nat} {o : Oper} {os : List Oper} {ops : Array Oper} {st : St} {Q : Exit → St → Prop} (hl : ops.toList = o :: os) (hg : o.guard = none)
    (h : ∀ a w, Sim C (look st) a w → ∃ p : St, o.wp C.P a w (fun a' w' => Sim C (look (p ++ st)) a' w') (fun _ _ _ => False) ∧ Go1 C ops os (p ++ st) [] (fun st' _ => Q .normal st')) (hnd : noDef ops.toList = true := by rfl) : AW C (.region id ops false) st Q := by
  intro a w S n
  obtain ⟨p, h1, h2⟩ := h a w S
  obtain ⟨tr, st', r, f, k, _⟩ := Go1.sound _ _ _ _ h2
  refine wpIn_region ?_
  have h0 : ops[0]? = some o := by rw [← Array.getElem?_toList, hl]; rfl
  have hsz : ops.size = os.length + 1 := by rw [← Array.length_toList, hl]; rfl
  rw [List.range_eq_range', hsz, List.range'_succ]
  simp only [wpOpsIn, h0]
  have hw : Region.wanted o (yielded ops a.tmps) = true := by simp [Region.wanted, hg]
  simp only [hw, if_true]
  refine Oper.wpIn_of_wp (noDef_get hnd h0) (wpOps_run.Oper.wp_mono' (fun a' w' S' => ?_) (fun _ _ _ h => h.elim) h1)
  exact wpOps_run hnd os 1 _ tr a' w' (fun j => by rw [← Array.getElem?_toList, hl, Nat.add_comm, List.getElem?_cons_succ]) r S' (fun a' w' S' => ⟨st', k, f ▸ S'⟩)

theorem leftOf_mem {es : Array MapEntry} {seen : Array Nat} {e : MapEntry} (h : e ∈ (leftOf es seen).toList) : e ∈ es.toList ∧ e.born ∉ seen := by
  unfold leftOf at h
  simp at h
  simpa using h

theorem leftOf_none {es : Array MapEntry} {seen : Array Nat} (h : (leftOf es seen).size = 0) : ∀ e ∈ es.toList, e.born ∈ seen := by
  intro e he
  have h0 : leftOf es seen = #[] := Array.eq_empty_of_size_eq_zero h
  unfold leftOf at h0
  rw [Array.filter_eq_empty_iff] at h0
  have := h0 e (by simpa using he)
  simpa using this

section
variable {C : Cx} {d : Nat} {ty : TypeId} {pos : String} {af : Array Edge} {x : Operand}

/-- A draw, or none. -/
theorem SimG.draws {A : Nat → SV} {G : Gh} {a : Act} {w w1 : World} (S : SimG C A G a w) (h : w1 = w ∨ w1 = w.drew) : SimG C A G a w1 := by
  rcases h with rfl | rfl
  · exact S
  · exact S.heap rfl rfl rfl rfl

theorem wp_next {st : St} {a : Act} {w : World} {gi gm n : Nat} {seen : List Nat} {l : List ByteArray} {vs : List AV} (S : Sim C (look st) a w) (hN : Nat.blt d C.N = true) (hx : opS (look st) x = .ptr gi 0) (hg : look st gi = .itr gm n seen) (hm : look st gm = .mpr (strs l) vs) (hn : Nat.beq n l.length = true) (hgN : Nat.ble C.N gi = true) :
    ((∀ i, i < n → i ∈ seen) ∧ Oper.wp C.P ⟨some d, .next x false, ty, pos, af, none⟩ a w (fun a' w' => Sim C (look ([(d, .tup [.imm (.v (.bool false))])] ++ st)) a' w') (fun _ _ _ => False)) ∨
    ∃ i s v, i < n ∧ i ∉ seen ∧ l[i]? = some s ∧ vs[i]? = some v ∧
      Oper.wp C.P ⟨some d, .next x false, ty, pos, af, none⟩ a w (fun a' w' => Sim C (look ([(d, .tup [.imm (.v (.bool true)), .imm (.v (.string s)), .imm v]), (gi, .itr gm n (seen ++ [i]))] ++ st)) a' w') (fun _ _ _ => False) := by
  obtain ⟨G, S⟩ := S
  have hN' : d < C.N := by simpa [Nat.blt_eq] using hN
  have hgN' : C.N ≤ gi := Nat.le_of_ble_eq_true hgN
  have hn' : n = l.length := Nat.eq_of_beq_eq_true hn
  obtain ⟨c, hc1, hc2⟩ := S.opS hx rfl
  simp only [RepS] at hc1
  have hev : a.eval x = .pointer (some ⟨G.blk gi, 0, none⟩) := by rw [hc2, hc1]; rfl
  have hi := S.holds gi
  rw [hg] at hi
  simp only [Holds] at hi
  obtain ⟨ho1, hi1, hi2⟩ := hi
  have hb := S.holds gm
  rw [hm] at hb
  simp only [Holds] at hb
  obtain ⟨ho2, ⟨es, h1, h2, h3, h4⟩, hni⟩ := hb
  have hkeys : es.toList.map (·.key) = l.map Value.string := repVs_strs h3
  have hlen : es.size = l.length := by have := congrArg List.length hkeys; simpa using this
  have hold : ∀ x ∈ es.toList, x.born < n := by
    intro x hx
    obtain ⟨i, hi, rfl⟩ := List.getElem_of_mem hx
    have := h2 i (by simpa using hi)
    simp only [Array.getElem_toList, this]
    have : i < es.size := by simpa using hi
    omega
  have hes : es.size = n := by omega
  rcases run_next_at (P := C.P) w ty (G.blk gi) (G.blk gm) n n seen.toArray es es.size hi1 h1 hold (Nat.le_refl _) with ⟨h0, hrun⟩ | ⟨e, he, w1, hw1, hrun⟩
  · refine .inl ⟨fun i hi => ?_, ?_⟩
    · have hie : i < es.size := by omega
      have := leftOf_none h0 es[i] (by simp)
      rw [h2 i hie] at this
      simpa using this
    · unfold Oper.wp
      have : (execOp a.eval ⟨some d, .next x false, ty, pos, af, none⟩).run C.P w = .ok (.value (.tuple #[.bool false])) w := by
        simp only [execOp, hev, Sem.run_bind, hrun, Result.andThen_ok, Sem.run_pure]
      rw [this, Oper.upon_value]
      have S2 := S.put (d := d) hN' (x := .tup [.imm (.v (.bool false))]) (v := .tuple #[.bool false]) (by
        simp only [SlotS]
        exact ⟨[.bool false], rfl, .bool false, [], rfl, valS_imm.2 (rep_p _ _ rfl), rfl⟩)
      rw [upd_look] at S2
      exact ⟨G, S2⟩
  · obtain ⟨he1, he2⟩ := leftOf_mem he
    obtain ⟨i, hi, rfl⟩ := List.getElem_of_mem he1
    have hie : i < es.size := by simpa using hi
    have hbi := h2 i hie
    simp only [Array.getElem_toList] at he2 hrun ⊢
    have hki : es[i].key = .string (l[i]'(by omega)) := by
      have hk2 : (es.toList.map (·.key))[i]? = (l.map Value.string)[i]? := by rw [hkeys]
      simp only [List.getElem?_map, Array.getElem?_toList, Array.getElem?_eq_getElem hie, Option.map_some] at hk2
      rw [List.getElem?_eq_getElem (by omega), Option.map_some] at hk2
      exact Option.some.inj hk2
    have hvl := repVs_len h4
    have hvl' : vs.length = es.size := by simpa using hvl.symm
    obtain ⟨u, hu1, hu2⟩ := repVs_get h4 (List.getElem?_eq_getElem (show i < vs.length by omega))
    simp only [List.getElem?_map, Array.getElem?_toList, Array.getElem?_eq_getElem hie, Option.map_some, Option.some.injEq] at hu1
    refine .inr ⟨i, l[i]'(by omega), vs[i]'(by omega), by omega, ?_, List.getElem?_eq_getElem _, List.getElem?_eq_getElem _, ?_⟩
    · rw [hbi] at he2; simpa using he2
    · unfold Oper.wp
      have : (execOp a.eval ⟨some d, .next x false, ty, pos, af, none⟩).run C.P w = .ok (.value (.tuple #[.bool true, es[i].key, es[i].val])) (setBlk w1 (G.blk gi) (.mapIter (some (G.blk gm)) n (seen ++ [i]).toArray n)) := by
        simp only [execOp, hev, Sem.run_bind, hrun, Result.andThen_ok, Sem.run_pure]
        simp only [hbi, hes]
        congr 1
        simp only [ChangeMaps.setBlock, setBlk]
        congr 2
        simp
      rw [this, Oper.upon_value]
      have S1 := S.draws hw1
      have hhe : w1.heap = w.heap := by rcases hw1 with rfl | rfl <;> rfl
      have hle1 : Le w G.I w1 G.I := fun b o h => ⟨h, kp_of_block (by rw [hhe])⟩
      have S2 := S1.turnOG (g := gi) (X' := .itr gm n (seen ++ [i])) (o' := .mapIter (some (G.blk gm)) n (seen ++ [i]).toArray n) ⟨ho1.1, by rw [hhe]; exact ho1.2⟩ hi2 (by rw [hg]; simp [ownsB]) (fun b h => by simpa only [ownsB] using h) (fun hle => by
        simp only [Holds]
        exact ⟨⟨ho1.1, by rw [setBlk_size, hhe]; exact ho1.2⟩, setBlk_get (by rw [hhe]; exact ho1.2), hi2⟩)
      rw [upd_look] at S2
      have hle2 : Le w1 G.I (setBlk w1 (G.blk gi) (.mapIter (some (G.blk gm)) n (seen ++ [i]).toArray n)) G.I := fun b o h => ⟨h, by
        have : b ≠ G.blk gi := by rintro rfl; exact hi2 o h
        exact kp_of_block (setBlk_ne this)⟩
      have S3 := S2.put (d := d) hN' (x := .tup [.imm (.v (.bool true)), .imm (.v (.string (l[i]'(by omega)))), .imm (vs[i]'(by omega))]) (v := .tuple #[.bool true, es[i].key, es[i].val]) (by
        simp only [SlotS]
        refine ⟨[.bool true, es[i].key, es[i].val], rfl, .bool true, _, rfl, valS_imm.2 (rep_p _ _ rfl), es[i].key, _, rfl, valS_imm.2 (by rw [hki]; exact rep_p _ _ rfl), es[i].val, [], rfl, valS_imm.2 ?_, rfl⟩
        rw [hu1]; exact hu2.mono (hle1.trans hle2))
      rw [upd_look] at S3
      exact ⟨G, S3⟩

theorem aw_next {id : Nat} {ops : Array Oper} {os : List Oper} {st : St} {Q : Exit → St → Prop} {gi gm n : Nat} {seen : List Nat} {l : List ByteArray} {vs : List AV} (hl : ops.toList = ⟨some d, .next x false, ty, pos, af, none⟩ :: os)
    (hN : Nat.blt d C.N = true) (hx : opS (look st) x = .ptr gi 0) (hg : look st gi = .itr gm n seen) (hm : look st gm = .mpr (strs l) vs) (hn : Nat.beq n l.length = true) (hgN : Nat.ble C.N gi = true)
    (hdone : (∀ i, i < n → i ∈ seen) → Go1 C ops os ((d, .tup [.imm (.v (.bool false))]) :: st) [] (fun st' _ => Q .normal st'))
    (hmore : ∀ i s v, i < n → i ∉ seen → l[i]? = some s → vs[i]? = some v → Go1 C ops os ((d, .tup [.imm (.v (.bool true)), .imm (.v (.string s)), .imm v]) :: (gi, .itr gm n (seen ++ [i])) :: st) [] (fun st' _ => Q .normal st')) (hnd : noDef ops.toList = true := by rfl) :
    AW C (.region id ops false) st Q := by
  refine aw_first (hnd := hnd) hl rfl fun a w S => ?_
  rcases wp_next (ty := ty) (pos := pos) (af := af) S hN hx hg hm hn hgN with ⟨h1, h2⟩ | ⟨i, s, v, h1, h2, h3, h4, h5⟩
  · exact ⟨_, h2, hdone h1⟩
  · exact ⟨_, h5, hmore i s v h1 h2 h3 h4⟩
end
end Go.Al
namespace Go.Al
section
variable {C : Cx} {A : Nat → SV} {d : Nat} {ty : TypeId} {pos : String} {af : Array Edge} {gd : Option (Nat × Bool)} {x : Operand}
/-- What the step has handed out. -/
theorem s_entry {gi gm n i : Nat} {seen : List Nat} {l : List ByteArray} {vs : List AV} {s : ByteArray} {v : AV} (hN : Nat.blt d C.N = true) (hx : opS A x = .ptr gi 0) (hg : A gi = .itr gm n (seen ++ [i])) (hm : A gm = .mpr (strs l) vs) (hn : Nat.beq n l.length = true) (hs : l[i]? = some s) (hv : vs[i]? = some v) :
    StepU C ⟨some d, .entry x, ty, pos, af, gd⟩ (gi :: gm :: opR x) [] A [(d, .tup [.imm (.v (.string s)), .imm v])] := by
  refine StepU.value rfl hN fun A' G a w hR S => ?_
  have hgA : A' gi = .itr gm n (seen ++ [i]) := (hR gi (by simp)).trans hg
  have hmA : A' gm = .mpr (strs l) vs := (hR gm (by simp)).trans hm
  have hn' : n = l.length := Nat.eq_of_beq_eq_true hn
  obtain ⟨c, hc1, hc2⟩ := S.opS ((opS_congr (fun k hk => hR k (List.mem_cons_of_mem _ (List.mem_cons_of_mem _ hk)))).trans hx) rfl
  simp only [RepS] at hc1
  have hev : a.eval x = .pointer (some ⟨G.blk gi, 0, none⟩) := by rw [hc2, hc1]; rfl
  have hi := S.holds gi
  rw [hgA] at hi
  simp only [Holds] at hi
  obtain ⟨ho1, hi1, hi2⟩ := hi
  have hb := S.holds gm
  rw [hmA] at hb
  simp only [Holds] at hb
  obtain ⟨ho2, ⟨es, h1, h2, h3, h4⟩, hni⟩ := hb
  have hkeys : es.toList.map (·.key) = l.map Value.string := repVs_strs h3
  have hlen : es.size = l.length := by have := congrArg List.length hkeys; simpa using this
  have hil : i < l.length := (List.getElem?_eq_some_iff.1 hs).1
  have hie : i < es.size := by omega
  have hki : es[i].key = .string s := by
    have hk2 : (es.toList.map (·.key))[i]? = (l.map Value.string)[i]? := by rw [hkeys]
    simp only [List.getElem?_map, Array.getElem?_toList, Array.getElem?_eq_getElem hie, Option.map_some, hs] at hk2
    exact Option.some.inj hk2
  obtain ⟨u, hu1, hu2⟩ := repVs_get h4 hv
  simp only [List.getElem?_map, Array.getElem?_toList, Array.getElem?_eq_getElem hie, Option.map_some, Option.some.injEq] at hu1
  have hnd : (es.toList.map (·.born)).Nodup := by
    have : es.toList.map (·.born) = List.range es.size := by
      refine List.ext_getElem (by simp) fun j h5 h6 => ?_
      have : j < es.size := by simpa using h5
      simp [h2 j this]
    rw [this]; exact List.nodup_range
  have hi1' : w.heap[G.blk gi]? = some (.mapIter (some (G.blk gm)) n (seen.toArray.push es[i].born) es.size) := by
    rw [hi1, h2 i hie, hn', hlen]; simp
  have hrun := run_entry_at (P := C.P) w (G.blk gi) (G.blk gm) n seen.toArray es es.size es[i] hi1' h1 (by simp) hnd
  refine ⟨.tuple #[es[i].key, es[i].val], ?_, ?_⟩
  · simp only [execOp, hev, Sem.run_bind, hrun, Result.andThen_ok, Sem.run_pure]
  · simp only [SlotS]
    exact ⟨[es[i].key, es[i].val], rfl, es[i].key, _, rfl, valS_imm.2 (by rw [hki]; exact rep_p _ _ rfl), es[i].val, [], rfl, valS_imm.2 (by rw [hu1]; exact hu2), rfl⟩
end
theorem look_row {st : St} {k : Nat} {l m : List ByteArray} (h : look st k = .row l) (e : l = m) : look st k = .row m := by rw [h, e]
theorem look_units {st : St} {k g n m : Nat} (h : look st k = .slg g 0 (units n)) (e : n = m) : look st k = .slg g 0 (units m) := by rw [h, e]
theorem look_itr {st : St} {k g n m : Nat} {s t : List Nat} (h : look st k = .itr g n s) (e : n = m) (e2 : s = t) : look st k = .itr g m t := by rw [h, e, e2]
theorem look_mpr {st : St} {k : Nat} {a a' b b' : List AV} (h : look st k = .mpr a b) (e : a = a') (e2 : b = b') : look st k = .mpr a' b' := by rw [h, e, e2]
theorem strs_length (l : List ByteArray) : (strs l).length = l.length := by simp [strs]
end Go.Al

namespace Go.Proofs
open Go Go.Al

theorem sameVs_ne {a b : List GV} (h : a ≠ b) : sameVs a b = false := by cases hs : sameVs a b; rfl; exact absurd ((sameVs_iff _ _).1 hs) h
theorem sameA_ne {a b : GA} (h : a ≠ b) : sameA a b = false := by cases hs : sameA a b; rfl; exact absurd ((sameA_iff _ _).1 hs) h
theorem sameA_refl (a : GA) : sameA a a = true := (sameA_iff a a).2 rfl
theorem sameVs_refl (a : List GV) : sameVs a a = true := (sameVs_iff a a).2 rfl

/-! ### How deep -/

/-! ### Keys met so far -/
theorem nodup_lt : ∀ (n : Nat) (s : List Nat), s.Nodup → (∀ i ∈ s, i < n) → s.length ≤ n
  | 0, s, _, h => by
    cases s with
    | nil => simp
    | cons x s => exact absurd (h x (by simp)) (by omega)
  | n + 1, s, hn, h => by
    by_cases hm : n ∈ s
    · have h1 := nodup_lt n (s.erase n) (hn.erase n) (fun i hi => by
        have h2 := h i (List.mem_of_mem_erase hi)
        have h3 := ((List.Nodup.mem_erase_iff hn).1 hi).1
        omega)
      have := List.length_erase_of_mem hm
      omega
    · have := nodup_lt n s hn (fun i hi => by
        have h1 := h i hi
        have : i ≠ n := by rintro rfl; exact hm hi
        omega)
      omega
def ksOf (l : List GA) (seen : List Nat) : List ByteArray := seen.map fun i => (mks l).getD i ⟨#[]⟩
theorem ksOf_snoc {l : List GA} {seen : List Nat} {q : Nat} {tx : ByteArray} (h : (mks l)[q]? = some tx) : ksOf l (seen ++ [q]) = ksOf l seen ++ [tx] := by
  simp only [ksOf, List.map_append, List.map_cons, List.map_nil, List.getD_eq_getElem?_getD, h, Option.getD_some]
theorem ksOf_len (l : List GA) (seen : List Nat) : (ksOf l seen).length = seen.length := by simp [ksOf]
theorem nodup_snoc {s : List Nat} {q : Nat} (h : s.Nodup) (hq : q ∉ s) : (s ++ [q]).Nodup := by
  rw [List.nodup_append]
  refine ⟨h, by simp, fun a ha b hb => ?_⟩
  simp at hb; subst hb; rintro rfl; exact hq ha
theorem look_key {l : List GA} {k : ByteArray} (h : k ∈ mks l) : ∃ p, mfind (mks l) k 0 = some p ∧ (mvs l)[p]? = some (iv (lastI l k : Int)) ∧ lastI l k < l.length := by
  cases hm : mfind (mks l) k 0 with
  | none => exact absurd h (mfind_none.1 hm)
  | some p =>
    have h1 := mfind_get hm
    simp only [Nat.sub_zero] at h1
    refine ⟨p, rfl, by unfold mvs; rw [List.getElem?_map, h1]; rfl, ?_⟩
    obtain ⟨j, hj⟩ := (mks_spec l k).1 h
    have := lastAt_lt hj
    unfold lastI
    rw [hj]; simp; omega
end Go.Proofs

namespace Go.Proofs
open Go Go.Al Go.Shelf
def Tryd.lays190_ren : Go.Shelf.Ren := ⟨fun | 190 => 60 | 125 => 92 | 258 => 91 | 128 => 119 | 129 => 120 | 302 => 110 | 303 => 111 | 304 => 112 | 305 => 113 | 306 => 114 | 307 => 115 | 308 => 116 | 309 => 117 | 310 => 118 | 333 => 135 | 329 => 136 | 330 => 137 | 334 => 138 | 335 => 139 | 336 => 140 | 344 => 148 | n => n, fun | 31 => 59 | 9 => 9 | 3 => 3 | 46 => 137 | 0 => 0 | 51 => 163 | 53 => 46 | 4 => 4 | 183 => 156 | 182 => 155 | 131 => 130 | 5 => 5 | 218 => 176 | 222 => 179 | 228 => 185 | 229 => 186 | n => n, fun | n => n⟩
theorem Tryd.lays190 : Go.Proofs.Lays.n190 Tryd.prog Tryd.lays190_ren := {
  mixed := by kernel_rfl
  f125 := Tryd.func92.trans (congrArg some (by kernel_rfl))
  f128 := Tryd.func119.trans (congrArg some (by kernel_rfl))
  f129 := Tryd.func120.trans (congrArg some (by kernel_rfl))
  f190 := Tryd.func60.trans (congrArg some (by kernel_rfl))
  f258 := Tryd.func91.trans (congrArg some (by kernel_rfl))
  f302 := Tryd.func110.trans (congrArg some (by kernel_rfl))
  f303 := Tryd.func111.trans (congrArg some (by kernel_rfl))
  f304 := Tryd.func112.trans (congrArg some (by kernel_rfl))
  f305 := Tryd.func113.trans (congrArg some (by kernel_rfl))
  f306 := Tryd.func114.trans (congrArg some (by kernel_rfl))
  f307 := Tryd.func115.trans (congrArg some (by kernel_rfl))
  f308 := Tryd.func116.trans (congrArg some (by kernel_rfl))
  f309 := Tryd.func117.trans (congrArg some (by kernel_rfl))
  f310 := Tryd.func118.trans (congrArg some (by kernel_rfl))
  f329 := Tryd.func136.trans (congrArg some (by kernel_rfl))
  f330 := Tryd.func137.trans (congrArg some (by kernel_rfl))
  f333 := Tryd.func135.trans (congrArg some (by kernel_rfl))
  f334 := Tryd.func138.trans (congrArg some (by kernel_rfl))
  f335 := Tryd.func139.trans (congrArg some (by kernel_rfl))
  f336 := Tryd.func140.trans (congrArg some (by kernel_rfl))
  f344 := Tryd.func148.trans (congrArg some (by kernel_rfl))
  t0 := Tryd.underlying0
  a0 := Tryd.isAgg0
  z0 := Tryd.sizeOf0
  v0 := Tryd.zeroValue0
  t3 := Tryd.underlying3
  a3 := Tryd.isAgg3
  z3 := Tryd.sizeOf3
  v3 := Tryd.zeroValue3
  t4 := Tryd.underlying4
  a4 := Tryd.isAgg4
  z4 := Tryd.sizeOf4
  v4 := Tryd.zeroValue4
  t5 := Tryd.underlying5
  a5 := Tryd.isAgg5
  z5 := Tryd.sizeOf5
  v5 := Tryd.zeroValue5
  t9 := Tryd.underlying9
  a9 := Tryd.isAgg9
  z9 := Tryd.sizeOf9
  v9 := Tryd.zeroValue9
  t31 := Tryd.underlying59
  a31 := Tryd.isAgg59
  z31 := Tryd.sizeOf59
  v31 := Tryd.zeroValue59
  t46 := Tryd.underlying137
  a46 := Tryd.isAgg137
  z46 := Tryd.sizeOf137
  v46 := Tryd.zeroValue137
  t51 := Tryd.underlying163
  a51 := Tryd.isAgg163
  z51 := Tryd.sizeOf163
  v51 := Tryd.zeroValue163
  t53 := Tryd.underlying46
  a53 := Tryd.isAgg46
  z53 := Tryd.sizeOf46
  v53 := Tryd.zeroValue46
  t131 := Tryd.underlying130
  a131 := Tryd.isAgg130
  z131 := Tryd.sizeOf130
  v131 := Tryd.zeroValue130
  t182 := Tryd.underlying155
  a182 := Tryd.isAgg155
  z182 := Tryd.sizeOf155
  v182 := Tryd.zeroValue155
  t183 := Tryd.underlying156
  a183 := Tryd.isAgg156
  z183 := Tryd.sizeOf156
  v183 := Tryd.zeroValue156
  t218 := Tryd.underlying176
  a218 := Tryd.isAgg176
  z218 := Tryd.sizeOf176
  v218 := Tryd.zeroValue176
  t222 := Tryd.underlying179
  a222 := Tryd.isAgg179
  z222 := Tryd.sizeOf179
  v222 := Tryd.zeroValue179
  t228 := Tryd.underlying185
  a228 := Tryd.isAgg185
  z228 := Tryd.sizeOf185
  v228 := Tryd.zeroValue185
  t229 := Tryd.underlying186
  a229 := Tryd.isAgg186
  z229 := Tryd.sizeOf186
  v229 := Tryd.zeroValue186 }
theorem sort_c : SortC Tryd.prog Γ0 60 where
  call := by kernel_rfl
  sorts := fun blk cap ss w hH hb hs => Any.slices_Sort_string Tryd.lays190 blk 0 cap ss w hH hb hs
  empty := ⟨by kernel_rfl, fun w I args hv hg hr => by
    simp only [RepVs] at hr
    obtain ⟨cc, r, rfl, h1, rfl⟩ := hr
    have e : mkV (.v (.slice none 0 0)) cc = .slice none 0 0 := by
      simp only [RepC] at h1
      rw [h1.1]; rfl
    rw [e]
    refine (Any.slices_Sort_string_none Tryd.lays190 none 0 w).mono ?_
    rintro e w' ⟨rfl, rfl⟩
    exact ⟨_, I, rfl, RowKit.Below.refl _ _, Le.refl _ _, fun b o h => .inl h, hv, [], rfl, by simp only [RepVs]⟩⟩
end Go.Proofs

namespace Go.Proofs
open Go Go.Al
set_option maxRecDepth 10000
set_option maxHeartbeats 1000000 in
theorem eqfV_c (a b : List GV) (fn : FuncId) (hl : a.length ≤ 1000000000) (hf : ∀ x ∈ a, ∀ y : GV, PCall Tryd.prog Γ0 fn ([] ++ [x.av, y.av] ++ []) [bv (sameV x y)]) : PCall Tryd.prog Γ0 105 [(.sl 6 (a.map avV)), (.sl 6 (b.map avV)), .fn (.func fn) [] []] [bv (sameVs a b)] := by
  refine pcall_of Tryd.func105 rfl Tryd.ntmps105 (by kernel_rfl) rfl fun w0 I0 G0 => ?_
  refine aw_seq ?_
  refine aw_region ?_
  refine g_u (s_as_imm rfl rfl) ?_
  refine g_nil ?_
  refine normal_thn ?_
  refine aw_seq ?_
  refine aw_seq ?_
  refine aw_region ?_
  refine g_u (s_mv_imm rfl rfl) ?_
  refine g_u (s_lenL rfl rfl Tryd.underlying68) ?_
  refine g_u (s_mv_imm rfl rfl) ?_
  refine g_u (s_lenL rfl rfl Tryd.underlying68) ?_
  refine g_u (s_neI rfl rfl rfl) ?_
  refine g_nil ?_
  refine normal_thn ?_
  refine aw_cond rfl (fun hb1 => ?_) (fun hb1 => ?_)
  · skip
    have q : ¬ a.length = b.length := by have e := bne_iff_ne.1 hb1; simp only [List.length_map] at e; omega
    refine aw_seq ?_
    refine aw_region ?_
    refine g_u (s_as_imm rfl rfl) ?_
    refine g_nil ?_
    refine normal_thn ?_
    refine aw_ret ?_
    refine ret_thn ?_
    exact ⟨⟨(rfl : toAV (Al.look _ _) = some _).trans (congrArg some (by (exact congrArg bv (by first | exact (sameVs_ne (fun e => q (by rw [e]))).symm | exact ((sameVs_iff _ _).2 (ext_nth v0 el (fun j hj => h2 j (by omega)))).symm)))), rfl⟩, trivial⟩
  · skip
    have el : a.length = b.length := by have e := bne_eq_false_iff_eq.1 hb1; simp only [List.length_map] at e; omega
    refine aw_skip ?_
    refine normal_thn ?_
    refine aw_seq ?_
    refine aw_seq ?_
    refine aw_region ?_
    refine g_u (s_mv_imm rfl rfl) ?_
    refine g_u (s_lenL rfl rfl Tryd.underlying68) ?_
    refine g_u (s_mv_imm rfl rfl) ?_
    refine g_nil ?_
    refine normal_thn ?_
    refine aw_block ?_
    refine aw_loop' (fun i : Nat => [(1, .imm (.sl 6 (b.map avV))), (2, .imm (.fn (.func fn) [] [])), (15, .imm (.sl 6 (a.map avV))), (16, .imm (iv (a.length : Int))), (17, .imm (iv (i : Int)))]) (fun i => i ≤ a.length ∧ ∀ j, j < i → nth a j v0 = nth b j v0) (fun i => a.length - i) (0) ?_ ⟨rfl, rfl, rfl, look_int rfl (by rw [List.length_map]), rfl, trivial⟩ ?_
    · exact ⟨Nat.zero_le _, fun j h => absurd h (Nat.not_lt_zero _)⟩
    · rintro i ⟨h1, h2⟩; (try dsimp only at h1 h2)
      refine aw_seq ?_
      refine aw_region ?_
      refine g_u (s_ltI rfl rfl rfl) ?_
      refine g_nil ?_
      refine normal_thn ?_
      refine aw_seq ?_
      refine aw_cond rfl (fun hb2 => ?_) (fun hb2 => ?_)
      · skip
        have hi : i < a.length := by have := of_decide_eq_true hb2; (try simp only [List.length_map] at this); omega
        have hib : i < b.length := by omega
        refine aw_skip ?_
        refine normal_thn ?_
        refine aw_seq ?_
        refine aw_block ?_
        refine aw_seq ?_
        refine aw_region ?_
        refine g_u (s_mv_imm rfl rfl) ?_
        refine g_u (s_indexAddr rfl rfl rfl Tryd.underlying68 tS70 (by omega) (ixV hi)) ?_
        refine g_u (s_load_cp rfl rfl tA70 tS70 rfl rfl) ?_
        refine g_uG (s_alloc' 1008 rfl rfl rfl tZ70) rfl ?_
        refine g_u (s_as_imm rfl rfl) ?_
        refine g_u (s_store_imm rfl rfl rfl tS70 rfl rfl) ?_
        refine g_nil ?_
        refine normal_thn ?_
        refine aw_seq ?_
        refine aw_region ?_
        refine g_u (s_mv_imm rfl rfl) ?_
        refine g_u (s_mv_imm rfl rfl) ?_
        refine g_u (s_indexAddr rfl rfl rfl Tryd.underlying68 tS70 (by omega) (ixV hib)) ?_
        refine g_u (s_load_cp rfl rfl tA70 tS70 rfl rfl) ?_
        refine g_uG (s_alloc' 1009 rfl rfl rfl tZ70) rfl ?_
        refine g_u (s_store_imm rfl rfl rfl tS70 rfl rfl) ?_
        refine g_nil ?_
        refine normal_thn ?_
        refine aw_seq ?_
        refine aw_region ?_
        refine g_u (s_mv_imm rfl rfl) ?_
        refine g_u (s_load_agg rfl rfl rfl tA70 tS70 rfl rfl) ?_
        refine g_u (s_load_agg rfl rfl rfl tA70 tS70 rfl rfl) ?_
        refine g_u (s_callv1 (hf _ (nthV_mem hi) _) rfl rfl rfl) ?_
        refine g_u (s_not rfl rfl) ?_
        refine g_nil ?_
        refine normal_thn ?_
        refine aw_cond rfl (fun hb3 => ?_) (fun hb3 => ?_)
        · skip
          have q : ¬ nthV a i = nthV b i := fun h => by have e := hb3; rw [h, sameV_refl] at e; cases e
          refine aw_seq ?_
          refine aw_region ?_
          refine g_u (s_as_imm rfl rfl) ?_
          refine g_nil ?_
          refine normal_thn ?_
          refine aw_ret ?_
          refine ret_blk ?_
          refine ret_thn ?_
          refine ret_thn ?_
          refine ret_blk ?_
          refine ret_thn ?_
          exact ⟨⟨(rfl : toAV (Al.look _ _) = some _).trans (congrArg some (by (exact congrArg bv (by first | exact (sameVs_ne (fun e => q (by rw [e]))).symm | exact ((sameVs_iff _ _).2 (ext_nth v0 el (fun j hj => h2 j (by omega)))).symm)))), rfl⟩, trivial⟩
        · skip
          have ev : nthV a i = nthV b i := (sameV_iff _ _).1 (by have e := hb3; simpa using e)
          refine aw_skip ?_
          refine normal_blk ?_
          refine normal_thn ?_
          refine aw_region ?_
          refine g_u (s_add rfl rfl rfl) ?_
          refine g_u (s_mv_imm rfl rfl) ?_
          refine g_nil ?_
          refine normal_thn ?_
          refine ⟨i + 1, ⟨hi, fun j hj => by rcases Nat.lt_or_ge j i with h | h; exact h2 j h; rw [show j = i by omega]; exact ev⟩, ⟨rfl, rfl, rfl, rfl, look_int rfl (by rw [wrap64 (by omega) (by omega)]; rfl), trivial⟩, by (try dsimp only); omega⟩
      · skip
        have hin : i = a.length := by have := of_decide_eq_false hb2; (try simp only [List.length_map] at this); omega
        refine aw_exit ?_
        refine exit_thn ?_
        refine exit_thn ?_
        refine exit_blk ?_
        refine normal_thn ?_
        refine aw_seq ?_
        refine aw_region ?_
        refine g_u (s_as_imm rfl rfl) ?_
        refine g_nil ?_
        refine normal_thn ?_
        refine aw_ret ?_
        exact ⟨⟨(rfl : toAV (Al.look _ _) = some _).trans (congrArg some (by (exact congrArg bv (by first | exact (sameVs_ne (fun e => q (by rw [e]))).symm | exact ((sameVs_iff _ _).2 (ext_nth v0 el (fun j hj => h2 j (by omega)))).symm)))), rfl⟩, trivial⟩

set_option maxHeartbeats 1000000 in
theorem eqfA_c (a b : List GA) (fn : FuncId) (hl : a.length ≤ 1000000000) (hf : ∀ x ∈ a, ∀ y : GA, PCall Tryd.prog Γ0 fn ([] ++ [x.av, y.av] ++ []) [bv (sameA x y)]) : PCall Tryd.prog Γ0 86 [(.sl 7 (a.map avA)), (.sl 7 (b.map avA)), .fn (.func fn) [] []] [bv (sameAs a b)] := by
  refine pcall_of Tryd.func86 rfl Tryd.ntmps86 (by kernel_rfl) rfl fun w0 I0 G0 => ?_
  refine aw_seq ?_
  refine aw_region ?_
  refine g_u (s_as_imm rfl rfl) ?_
  refine g_nil ?_
  refine normal_thn ?_
  refine aw_seq ?_
  refine aw_seq ?_
  refine aw_region ?_
  refine g_u (s_mv_imm rfl rfl) ?_
  refine g_u (s_lenL rfl rfl Tryd.underlying30) ?_
  refine g_u (s_mv_imm rfl rfl) ?_
  refine g_u (s_lenL rfl rfl Tryd.underlying30) ?_
  refine g_u (s_neI rfl rfl rfl) ?_
  refine g_nil ?_
  refine normal_thn ?_
  refine aw_cond rfl (fun hb1 => ?_) (fun hb1 => ?_)
  · skip
    have q : ¬ a.length = b.length := by have e := bne_iff_ne.1 hb1; simp only [List.length_map] at e; omega
    refine aw_seq ?_
    refine aw_region ?_
    refine g_u (s_as_imm rfl rfl) ?_
    refine g_nil ?_
    refine normal_thn ?_
    refine aw_ret ?_
    refine ret_thn ?_
    exact ⟨⟨(rfl : toAV (Al.look _ _) = some _).trans (congrArg some (by (exact congrArg bv (by first | exact (sameAs_ne (fun e => q (by rw [e]))).symm | exact ((sameAs_iff _ _).2 (ext_nth a0 el (fun j hj => h2 j (by omega)))).symm)))), rfl⟩, trivial⟩
  · skip
    have el : a.length = b.length := by have e := bne_eq_false_iff_eq.1 hb1; simp only [List.length_map] at e; omega
    refine aw_skip ?_
    refine normal_thn ?_
    refine aw_seq ?_
    refine aw_seq ?_
    refine aw_region ?_
    refine g_u (s_mv_imm rfl rfl) ?_
    refine g_u (s_lenL rfl rfl Tryd.underlying30) ?_
    refine g_u (s_mv_imm rfl rfl) ?_
    refine g_nil ?_
    refine normal_thn ?_
    refine aw_block ?_
    refine aw_loop' (fun i : Nat => [(1, .imm (.sl 7 (b.map avA))), (2, .imm (.fn (.func fn) [] [])), (15, .imm (.sl 7 (a.map avA))), (16, .imm (iv (a.length : Int))), (17, .imm (iv (i : Int)))]) (fun i => i ≤ a.length ∧ ∀ j, j < i → nth a j a0 = nth b j a0) (fun i => a.length - i) (0) ?_ ⟨rfl, rfl, rfl, look_int rfl (by rw [List.length_map]), rfl, trivial⟩ ?_
    · exact ⟨Nat.zero_le _, fun j h => absurd h (Nat.not_lt_zero _)⟩
    · rintro i ⟨h1, h2⟩; (try dsimp only at h1 h2)
      refine aw_seq ?_
      refine aw_region ?_
      refine g_u (s_ltI rfl rfl rfl) ?_
      refine g_nil ?_
      refine normal_thn ?_
      refine aw_seq ?_
      refine aw_cond rfl (fun hb2 => ?_) (fun hb2 => ?_)
      · skip
        have hi : i < a.length := by have := of_decide_eq_true hb2; (try simp only [List.length_map] at this); omega
        have hib : i < b.length := by omega
        refine aw_skip ?_
        refine normal_thn ?_
        refine aw_seq ?_
        refine aw_block ?_
        refine aw_seq ?_
        refine aw_region ?_
        refine g_u (s_mv_imm rfl rfl) ?_
        refine g_u (s_indexAddr rfl rfl rfl Tryd.underlying30 tS72 (by omega) (ixA hi)) ?_
        refine g_u (s_load_cp rfl rfl tA72 tS72 rfl rfl) ?_
        refine g_uG (s_alloc' 1008 rfl rfl rfl tZ72) rfl ?_
        refine g_u (s_as_imm rfl rfl) ?_
        refine g_u (s_store_imm rfl rfl rfl tS72 rfl rfl) ?_
        refine g_nil ?_
        refine normal_thn ?_
        refine aw_seq ?_
        refine aw_region ?_
        refine g_u (s_mv_imm rfl rfl) ?_
        refine g_u (s_mv_imm rfl rfl) ?_
        refine g_u (s_indexAddr rfl rfl rfl Tryd.underlying30 tS72 (by omega) (ixA hib)) ?_
        refine g_u (s_load_cp rfl rfl tA72 tS72 rfl rfl) ?_
        refine g_uG (s_alloc' 1009 rfl rfl rfl tZ72) rfl ?_
        refine g_u (s_store_imm rfl rfl rfl tS72 rfl rfl) ?_
        refine g_nil ?_
        refine normal_thn ?_
        refine aw_seq ?_
        refine aw_region ?_
        refine g_u (s_mv_imm rfl rfl) ?_
        refine g_u (s_load_agg rfl rfl rfl tA72 tS72 rfl rfl) ?_
        refine g_u (s_load_agg rfl rfl rfl tA72 tS72 rfl rfl) ?_
        refine g_u (s_callv1 (hf _ (nthA_mem hi) _) rfl rfl rfl) ?_
        refine g_u (s_not rfl rfl) ?_
        refine g_nil ?_
        refine normal_thn ?_
        refine aw_cond rfl (fun hb3 => ?_) (fun hb3 => ?_)
        · skip
          have q : ¬ nthA a i = nthA b i := fun h => by have e := hb3; rw [h, sameA_refl] at e; cases e
          refine aw_seq ?_
          refine aw_region ?_
          refine g_u (s_as_imm rfl rfl) ?_
          refine g_nil ?_
          refine normal_thn ?_
          refine aw_ret ?_
          refine ret_blk ?_
          refine ret_thn ?_
          refine ret_thn ?_
          refine ret_blk ?_
          refine ret_thn ?_
          exact ⟨⟨(rfl : toAV (Al.look _ _) = some _).trans (congrArg some (by (exact congrArg bv (by first | exact (sameAs_ne (fun e => q (by rw [e]))).symm | exact ((sameAs_iff _ _).2 (ext_nth a0 el (fun j hj => h2 j (by omega)))).symm)))), rfl⟩, trivial⟩
        · skip
          have ev : nthA a i = nthA b i := (sameA_iff _ _).1 (by have e := hb3; simpa using e)
          refine aw_skip ?_
          refine normal_blk ?_
          refine normal_thn ?_
          refine aw_region ?_
          refine g_u (s_add rfl rfl rfl) ?_
          refine g_u (s_mv_imm rfl rfl) ?_
          refine g_nil ?_
          refine normal_thn ?_
          refine ⟨i + 1, ⟨hi, fun j hj => by rcases Nat.lt_or_ge j i with h | h; exact h2 j h; rw [show j = i by omega]; exact ev⟩, ⟨rfl, rfl, rfl, rfl, look_int rfl (by rw [wrap64 (by omega) (by omega)]; rfl), trivial⟩, by (try dsimp only); omega⟩
      · skip
        have hin : i = a.length := by have := of_decide_eq_false hb2; (try simp only [List.length_map] at this); omega
        refine aw_exit ?_
        refine exit_thn ?_
        refine exit_thn ?_
        refine exit_blk ?_
        refine normal_thn ?_
        refine aw_seq ?_
        refine aw_region ?_
        refine g_u (s_as_imm rfl rfl) ?_
        refine g_nil ?_
        refine normal_thn ?_
        refine aw_ret ?_
        exact ⟨⟨(rfl : toAV (Al.look _ _) = some _).trans (congrArg some (by (exact congrArg bv (by first | exact (sameAs_ne (fun e => q (by rw [e]))).symm | exact ((sameAs_iff _ _).2 (ext_nth a0 el (fun j hj => h2 j (by omega)))).symm)))), rfl⟩, trivial⟩

set_option maxHeartbeats 400000 in
theorem psameA_st (a b : GA) (ih : PCall Tryd.prog Γ0 88 [a.val.av, b.val.av] [bv (sameV a.val b.val)]) : PCall Tryd.prog Γ0 87 [a.av, b.av] [bv (sameA a b)] := by
  refine pcall_of Tryd.func87 rfl Tryd.ntmps87 (by kernel_rfl) rfl fun w0 I0 G0 => ?_
  refine aw_seq ?_
  refine aw_region ?_
  refine g_uG (s_box_imm 1002 rfl rfl rfl rfl) rfl ?_
  refine g_uG (s_box_imm 1003 rfl rfl rfl rfl) rfl ?_
  refine g_u (s_as_imm rfl rfl) ?_
  refine g_nil ?_
  refine normal_thn ?_
  refine aw_seq ?_
  refine aw_region ?_
  refine g_u (s_fieldAddr rfl rfl fa72_0 rfl) ?_
  refine g_u (s_load_imm rfl rfl rfl tA9 tS9 rfl rfl) ?_
  refine g_u (s_fieldAddr rfl rfl fa72_0 rfl) ?_
  refine g_u (s_load_imm rfl rfl rfl tA9 tS9 rfl rfl) ?_
  refine g_u (s_eqS rfl rfl rfl) ?_
  refine g_u (s_mv_imm rfl rfl) ?_
  refine g_case (t := 10) rfl ?_
  rintro (hb1 | hb1)
  · rw [hb1]
    have ek : a.key = b.key := by have e := hb1; rw [str_beq] at e; exact of_decide_eq_true e
    refine g_run rfl rfl (s_fieldAddr rfl rfl fa72_1 rfl) ?_
    refine g_run rfl rfl (s_load_imm rfl rfl rfl tA70 tS70 rfl rfl) ?_
    refine g_run rfl rfl (s_fieldAddr rfl rfl fa72_1 rfl) ?_
    refine g_run rfl rfl (s_load_imm rfl rfl rfl tA70 tS70 rfl rfl) ?_
    refine g_run rfl rfl (s_call1 (ih) rfl rfl) ?_
    refine g_u (s_pick_t rfl rfl rfl) ?_
    refine g_u (s_as_imm rfl rfl) ?_
    refine g_nil ?_
    refine normal_thn ?_
    refine aw_ret ?_
    exact ⟨⟨(rfl : toAV (Al.look _ _) = some _).trans (congrArg some (by (exact congrArg bv (by first | exact (sameA_ne (fun e => q (by rw [e]))).symm | (rw [Bool.eq_iff_iff, sameV_iff, sameA_iff]; exact ⟨fun h => GA.ext' ek h, fun h => by rw [h]⟩))))), rfl⟩, trivial⟩
  · rw [hb1]
    have q : ¬ a.key = b.key := by have e := hb1; rw [str_beq] at e; exact of_decide_eq_false e
    refine g_skip rfl rfl rfl ?_
    refine g_skip rfl rfl rfl ?_
    refine g_skip rfl rfl rfl ?_
    refine g_skip rfl rfl rfl ?_
    refine g_skip rfl rfl rfl ?_
    refine g_u (s_pick_f rfl rfl rfl) ?_
    refine g_u (s_as_imm rfl rfl) ?_
    refine g_nil ?_
    refine normal_thn ?_
    refine aw_ret ?_
    exact ⟨⟨(rfl : toAV (Al.look _ _) = some _).trans (congrArg some (by (exact congrArg bv (by first | exact (sameA_ne (fun e => q (by rw [e]))).symm | (rw [Bool.eq_iff_iff, sameV_iff, sameA_iff]; exact ⟨fun h => GA.ext' ek h, fun h => by rw [h]⟩))))), rfl⟩, trivial⟩

set_option maxHeartbeats 400000 in
theorem psameAs_st (a b : List GA) (hl : a.length ≤ 1000000000) (ih : ∀ x ∈ a, ∀ y : GA, PCall Tryd.prog Γ0 88 [x.val.av, y.val.av] [bv (sameV x.val y.val)]) : PCall Tryd.prog Γ0 56 [.sl 7 (a.map avA), .sl 7 (b.map avA)] [bv (sameAs a b)] := by
  refine pcall_of Tryd.func56 rfl Tryd.ntmps56 (by kernel_rfl) rfl fun w0 I0 G0 => ?_
  refine aw_seq ?_
  refine aw_region ?_
  refine g_u (s_as_imm rfl rfl) ?_
  refine g_nil ?_
  refine normal_thn ?_
  refine aw_seq ?_
  refine aw_region ?_
  refine g_u (s_mv_imm rfl rfl) ?_
  refine g_u (s_mv_imm rfl rfl) ?_
  refine g_u (s_call1 (eqfA_c a b 87 hl (fun x hx y => psameA_st x y (ih x hx y))) rfl rfl) ?_
  refine g_u (s_as_imm rfl rfl) ?_
  refine g_nil ?_
  refine normal_thn ?_
  refine aw_ret ?_
  exact ⟨⟨(rfl : toAV (Al.look _ _) = some _).trans (congrArg some (by rfl)), rfl⟩, trivial⟩

set_option maxHeartbeats 2000000 in
theorem psameV_st (a b : GV) (ihl : PCall Tryd.prog Γ0 105 [.sl 6 (a.list.map avV), .sl 6 (b.list.map avV), .fn (.func 88) [] []] [bv (sameVs a.list b.list)]) (ihm : PCall Tryd.prog Γ0 56 [.sl 7 (a.map.map avA), .sl 7 (b.map.map avA)] [bv (sameAs a.map b.map)]) : PCall Tryd.prog Γ0 88 [a.av, b.av] [bv (sameV a b)] := by
  refine pcall_of Tryd.func88 rfl Tryd.ntmps88 (by kernel_rfl) rfl fun w0 I0 G0 => ?_
  refine aw_seq ?_
  refine aw_region ?_
  refine g_uG (s_box_imm 1002 rfl rfl rfl rfl) rfl ?_
  refine g_uG (s_box_imm 1003 rfl rfl rfl rfl) rfl ?_
  refine g_u (s_as_imm rfl rfl) ?_
  refine g_nil ?_
  refine normal_thn ?_
  refine aw_seq ?_
  refine aw_seq ?_
  refine aw_region ?_
  refine g_u (s_fieldAddr rfl rfl fa70_0 rfl) ?_
  refine g_u (s_load_imm rfl rfl rfl tA5 tS5 rfl rfl) ?_
  refine g_u (s_fieldAddr rfl rfl fa70_0 rfl) ?_
  refine g_u (s_load_imm rfl rfl rfl tA5 tS5 rfl rfl) ?_
  refine g_u (s_neI rfl rfl rfl) ?_
  refine g_u (s_mv_imm rfl rfl) ?_
  refine g_case (t := 10) rfl ?_
  rintro (hb1 | hb1)
  · rw [hb1]
    have q : ¬ a.kind = b.kind := bne_iff_ne.1 hb1
    refine g_skip rfl rfl rfl ?_
    refine g_skip rfl rfl rfl ?_
    refine g_skip rfl rfl rfl ?_
    refine g_skip rfl rfl rfl ?_
    refine g_skip rfl rfl rfl ?_
    refine g_u (s_pick_t rfl rfl rfl) ?_
    refine g_u (s_mv_imm rfl rfl) ?_
    refine g_skip rfl rfl rfl ?_
    refine g_skip rfl rfl rfl ?_
    refine g_skip rfl rfl rfl ?_
    refine g_skip rfl rfl rfl ?_
    refine g_skip rfl rfl rfl ?_
    refine g_u (s_pick_t rfl rfl rfl) ?_
    refine g_u (s_mv_imm rfl rfl) ?_
    refine g_skip rfl rfl rfl ?_
    refine g_skip rfl rfl rfl ?_
    refine g_skip rfl rfl rfl ?_
    refine g_skip rfl rfl rfl ?_
    refine g_skip rfl rfl rfl ?_
    refine g_u (s_pick_t rfl rfl rfl) ?_
    refine g_nil ?_
    refine normal_thn ?_
    refine aw_cond_true rfl ?_
    refine aw_seq ?_
    refine aw_region ?_
    refine g_u (s_as_imm rfl rfl) ?_
    refine g_nil ?_
    refine normal_thn ?_
    refine aw_ret ?_
    refine ret_thn ?_
    exact ⟨⟨(rfl : toAV (Al.look _ _) = some _).trans (congrArg some (by (exact congrArg bv (by first | exact (sameV_ne (fun e => q (by rw [e]))).symm | exact sameV_map e1 e2 e3 e4 e5)))), rfl⟩, trivial⟩
  · rw [hb1]
    have e1 : a.kind = b.kind := bne_eq_false_iff_eq.1 hb1
    refine g_run rfl rfl (s_fieldAddr rfl rfl fa70_1 rfl) ?_
    refine g_run rfl rfl (s_load_imm rfl rfl rfl tA9 tS9 rfl rfl) ?_
    refine g_run rfl rfl (s_fieldAddr rfl rfl fa70_1 rfl) ?_
    refine g_run rfl rfl (s_load_imm rfl rfl rfl tA9 tS9 rfl rfl) ?_
    refine g_run rfl rfl (s_neS rfl rfl rfl) ?_
    refine g_u (s_pick_f rfl rfl rfl) ?_
    refine g_u (s_mv_imm rfl rfl) ?_
    refine g_case (t := 17) rfl ?_
    rintro (hb2 | hb2)
    · rw [hb2]
      have q : ¬ a.text = b.text := by have e := hb2; rw [str_beq] at e; simpa using e
      refine g_skip rfl rfl rfl ?_
      refine g_skip rfl rfl rfl ?_
      refine g_skip rfl rfl rfl ?_
      refine g_skip rfl rfl rfl ?_
      refine g_skip rfl rfl rfl ?_
      refine g_u (s_pick_t rfl rfl rfl) ?_
      refine g_u (s_mv_imm rfl rfl) ?_
      refine g_skip rfl rfl rfl ?_
      refine g_skip rfl rfl rfl ?_
      refine g_skip rfl rfl rfl ?_
      refine g_skip rfl rfl rfl ?_
      refine g_skip rfl rfl rfl ?_
      refine g_u (s_pick_t rfl rfl rfl) ?_
      refine g_nil ?_
      refine normal_thn ?_
      refine aw_cond_true rfl ?_
      refine aw_seq ?_
      refine aw_region ?_
      refine g_u (s_as_imm rfl rfl) ?_
      refine g_nil ?_
      refine normal_thn ?_
      refine aw_ret ?_
      refine ret_thn ?_
      exact ⟨⟨(rfl : toAV (Al.look _ _) = some _).trans (congrArg some (by (exact congrArg bv (by first | exact (sameV_ne (fun e => q (by rw [e]))).symm | exact sameV_map e1 e2 e3 e4 e5)))), rfl⟩, trivial⟩
    · rw [hb2]
      have e2 : a.text = b.text := by have e := hb2; rw [str_beq] at e; simpa using e
      refine g_run rfl rfl (s_fieldAddr rfl rfl fa70_2 rfl) ?_
      refine g_run rfl rfl (s_load_imm rfl rfl rfl tA3 tS3 rfl rfl) ?_
      refine g_run rfl rfl (s_fieldAddr rfl rfl fa70_2 rfl) ?_
      refine g_run rfl rfl (s_load_imm rfl rfl rfl tA3 tS3 rfl rfl) ?_
      refine g_run rfl rfl (s_neI rfl rfl rfl) ?_
      refine g_u (s_pick_f rfl rfl rfl) ?_
      refine g_u (s_mv_imm rfl rfl) ?_
      refine g_case (t := 24) rfl ?_
      rintro (hb3 | hb3)
      · rw [hb3]
        have q : ¬ a.num = b.num := bne_iff_ne.1 hb3
        refine g_skip rfl rfl rfl ?_
        refine g_skip rfl rfl rfl ?_
        refine g_skip rfl rfl rfl ?_
        refine g_skip rfl rfl rfl ?_
        refine g_skip rfl rfl rfl ?_
        refine g_u (s_pick_t rfl rfl rfl) ?_
        refine g_nil ?_
        refine normal_thn ?_
        refine aw_cond_true rfl ?_
        refine aw_seq ?_
        refine aw_region ?_
        refine g_u (s_as_imm rfl rfl) ?_
        refine g_nil ?_
        refine normal_thn ?_
        refine aw_ret ?_
        refine ret_thn ?_
        exact ⟨⟨(rfl : toAV (Al.look _ _) = some _).trans (congrArg some (by (exact congrArg bv (by first | exact (sameV_ne (fun e => q (by rw [e]))).symm | exact sameV_map e1 e2 e3 e4 e5)))), rfl⟩, trivial⟩
      · rw [hb3]
        have e3 : a.num = b.num := bne_eq_false_iff_eq.1 hb3
        refine g_run rfl rfl (s_fieldAddr rfl rfl fa70_3 rfl) ?_
        refine g_run rfl rfl (s_load_imm rfl rfl rfl tA46 tS46 rfl rfl) ?_
        refine g_run rfl rfl (s_fieldAddr rfl rfl fa70_3 rfl) ?_
        refine g_run rfl rfl (s_load_imm rfl rfl rfl tA46 tS46 rfl rfl) ?_
        refine g_run rfl rfl (s_neI rfl rfl rfl) ?_
        refine g_u (s_pick_f rfl rfl rfl) ?_
        refine g_nil ?_
        refine normal_thn ?_
        refine aw_cond rfl (fun hb4 => ?_) (fun hb4 => ?_)
        · skip
          have q : ¬ a.bits = b.bits := bne_iff_ne.1 hb4
          refine aw_seq ?_
          refine aw_region ?_
          refine g_u (s_as_imm rfl rfl) ?_
          refine g_nil ?_
          refine normal_thn ?_
          refine aw_ret ?_
          refine ret_thn ?_
          exact ⟨⟨(rfl : toAV (Al.look _ _) = some _).trans (congrArg some (by (exact congrArg bv (by first | exact (sameV_ne (fun e => q (by rw [e]))).symm | exact sameV_map e1 e2 e3 e4 e5)))), rfl⟩, trivial⟩
        · skip
          have e4 : a.bits = b.bits := bne_eq_false_iff_eq.1 hb4
          refine aw_skip ?_
          refine normal_thn ?_
          refine aw_seq ?_
          refine aw_region ?_
          refine g_u (s_fieldAddr rfl rfl fa70_4 rfl) ?_
          refine g_u (s_load_imm rfl rfl rfl tA68 tS68 rfl rfl) ?_
          refine g_u (s_fieldAddr rfl rfl fa70_4 rfl) ?_
          refine g_u (s_load_imm rfl rfl rfl tA68 tS68 rfl rfl) ?_
          refine g_u (s_call1 (ihl) rfl rfl) ?_
          refine g_u (s_mv_imm rfl rfl) ?_
          refine g_case (t := 36) rfl ?_
          rintro (hb5 | hb5)
          · rw [hb5]
            have e5 : a.list = b.list := (sameVs_iff _ _).1 hb5
            refine g_run rfl rfl (s_fieldAddr rfl rfl fa70_5 rfl) ?_
            refine g_run rfl rfl (s_load_imm rfl rfl rfl tA30 tS30 rfl rfl) ?_
            refine g_run rfl rfl (s_fieldAddr rfl rfl fa70_5 rfl) ?_
            refine g_run rfl rfl (s_load_imm rfl rfl rfl tA30 tS30 rfl rfl) ?_
            refine g_run rfl rfl (s_call1 (ihm) rfl rfl) ?_
            refine g_u (s_pick_t rfl rfl rfl) ?_
            refine g_u (s_as_imm rfl rfl) ?_
            refine g_nil ?_
            refine normal_thn ?_
            refine aw_ret ?_
            exact ⟨⟨(rfl : toAV (Al.look _ _) = some _).trans (congrArg some (by (exact congrArg bv (by first | exact (sameV_ne (fun e => q (by rw [e]))).symm | exact sameV_map e1 e2 e3 e4 e5)))), rfl⟩, trivial⟩
          · rw [hb5]
            have q : ¬ a.list = b.list := fun h => by have e := hb5; rw [h, sameVs_refl] at e; cases e
            refine g_skip rfl rfl rfl ?_
            refine g_skip rfl rfl rfl ?_
            refine g_skip rfl rfl rfl ?_
            refine g_skip rfl rfl rfl ?_
            refine g_skip rfl rfl rfl ?_
            refine g_u (s_pick_f rfl rfl rfl) ?_
            refine g_u (s_as_imm rfl rfl) ?_
            refine g_nil ?_
            refine normal_thn ?_
            refine aw_ret ?_
            exact ⟨⟨(rfl : toAV (Al.look _ _) = some _).trans (congrArg some (by (exact congrArg bv (by first | exact (sameV_ne (fun e => q (by rw [e]))).symm | exact sameV_map e1 e2 e3 e4 e5)))), rfl⟩, trivial⟩

theorem psameV_c (a : GV) : a.wt ≤ 1000000000 → ∀ b : GV, PCall Tryd.prog Γ0 88 [a.av, b.av] [bv (sameV a b)] := by
  refine GV.ind (P := fun a => a.wt ≤ 1000000000 → ∀ b : GV, PCall Tryd.prog Γ0 88 [a.av, b.av] [bv (sameV a b)]) ?_ a
  intro a h1 h2 hw b
  have ek := a.wt_eq
  have la := len_wtAs a.map
  have lv := len_wtVs a.list
  exact psameV_st a b (eqfV_c a.list b.list 88 (by omega) fun y hy z => h1 y hy (by have := wtVs_mem hy; omega) z) (psameAs_st a.map b.map (by omega) fun x hx y => h2 x hx (by have := wtAs_mem hx; have := x.wt_eq; omega) y.val)
theorem psameAs_c (a b : List GA) (hw : wtAs a ≤ 1000000000) : PCall Tryd.prog Γ0 56 [.sl 7 (a.map avA), .sl 7 (b.map avA)] [bv (sameAs a b)] := by
  have la := len_wtAs a
  exact psameAs_st a b (by omega) fun x hx y => psameV_c x.val (by have := wtAs_mem hx; have := x.wt_eq; omega) y.val

set_option maxHeartbeats 2000000 in
theorem pcanonAs_st (l : List GA) (hl : l.length ≤ 10000000) (ih : ∀ a ∈ l, PCall Tryd.prog Γ0 61 [a.val.av] [(canonV a.val).av]) : PCall Tryd.prog Γ0 36 [(.sl 7 (l.map avA))] [.sl 7 ((canonAs l).map avA)] := by
  refine pcall_of Tryd.func36 rfl Tryd.ntmps36 (by kernel_rfl) rfl fun w0 I0 G0 => ?_
  refine aw_seq ?_
  refine aw_region ?_
  refine g_u (s_as_imm rfl rfl) ?_
  refine g_nil ?_
  refine normal_thn ?_
  refine aw_seq ?_
  refine aw_region ?_
  refine g_uG (s_makeMap 1011 rfl rfl rfl) rfl ?_
  refine g_u (s_as_mref rfl rfl) ?_
  refine g_nil ?_
  refine normal_thn ?_
  refine aw_seq ?_
  refine aw_seq ?_
  refine aw_region ?_
  refine g_u (s_mv_imm rfl rfl) ?_
  refine g_u (s_lenL rfl rfl Tryd.underlying30) ?_
  refine g_u (s_mv_imm rfl rfl) ?_
  refine g_nil ?_
  refine normal_thn ?_
  refine aw_block ?_
  refine aw_loop' (fun i : Nat => [(0, .imm (.sl 7 (l.map avA))), (3, .mref 1011), (1011, .mpr (strs (mks (l.take i))) (mvs (l.take i))), (12, .imm (.sl 7 (l.map avA))), (13, .imm (iv (l.length : Int))), (14, .imm (iv (i : Int)))]) (fun i => i ≤ l.length) (fun i => l.length - i) (0) ?_ ⟨rfl, rfl, rfl, rfl, look_int rfl (by rw [List.length_map]), rfl, trivial⟩ ?_
  · exact Nat.zero_le _
  · rintro i h1; have h1 : i ≤ l.length := h1
    refine aw_seq ?_
    refine aw_region ?_
    refine g_u (s_ltI rfl rfl rfl) ?_
    refine g_nil ?_
    refine normal_thn ?_
    refine aw_seq ?_
    refine aw_cond rfl (fun hb1 => ?_) (fun hb1 => ?_)
    · skip
      have hi : i < l.length := by have := of_decide_eq_true hb1; (try simp only [List.length_map] at this); omega
      refine aw_skip ?_
      refine normal_thn ?_
      refine aw_seq ?_
      refine aw_block ?_
      refine aw_seq ?_
      refine aw_region ?_
      refine g_u (s_mv_imm rfl rfl) ?_
      refine g_u (s_indexAddr rfl rfl rfl Tryd.underlying30 tS72 (by omega) (ixA hi)) ?_
      refine g_u (s_load_cp rfl rfl tA72 tS72 rfl rfl) ?_
      refine g_uG (s_alloc' 1005 rfl rfl rfl tZ72) rfl ?_
      refine g_u (s_as_imm rfl rfl) ?_
      refine g_u (s_store_imm rfl rfl rfl tS72 rfl rfl) ?_
      refine g_nil ?_
      refine normal_thn ?_
      refine aw_region ?_
      refine g_u (s_mv_mref rfl rfl) ?_
      refine g_u (s_fieldAddr rfl rfl fa72_0 rfl) ?_
      refine g_u (s_load_imm rfl rfl rfl tA9 tS9 rfl rfl) ?_
      refine g_u (s_mv_imm rfl rfl) ?_
      refine g_u (s_mapUpdate rfl rfl rfl rfl Tryd.underlying101 Tryd.underlying9) ?_
      refine g_nil ?_
      refine normal_blk ?_
      refine normal_thn ?_
      refine aw_region ?_
      refine g_u (s_add rfl rfl rfl) ?_
      refine g_u (s_mv_imm rfl rfl) ?_
      refine g_nil ?_
      refine normal_thn ?_
      have et : l.take (i + 1) = l.take i ++ [nthA l i] := take_snoc (nth_get (d := a0) hi)
      have el : (l.take i).length = i := by rw [List.length_take]; omega
      refine ⟨i + 1, hi, ⟨rfl, rfl, look_mpr rfl (by rw [et, mks_snoc]) (by rw [et, mvs_snoc, el]), rfl, rfl, look_int rfl (by rw [wrap64 (by omega) (by omega)]; rfl), trivial⟩, by (try dsimp only); omega⟩
    · skip
      have hin : i = l.length := by have := of_decide_eq_false hb1; (try simp only [List.length_map] at this); omega
      refine aw_exit ?_
      refine exit_thn ?_
      refine exit_thn ?_
      refine exit_blk ?_
      refine normal_thn ?_
      refine aw_seq ?_
      refine aw_region ?_
      refine g_u (s_as_imm rfl rfl) ?_
      refine g_nil ?_
      refine normal_thn ?_
      refine aw_newrow 3006 6 rfl rfl rfl rfl ?_
      refine aw_seq ?_
      refine aw_seq ?_
      refine aw_region ?_
      refine g_u (s_mv_mref rfl rfl) ?_
      refine g_uG (s_range 1025 rfl rfl rfl rfl rfl rfl Tryd.underlying101) rfl ?_
      refine g_nil ?_
      refine normal_thn ?_
      refine aw_block ?_
      refine aw_loop' (fun seen : List Nat => [(0, .imm (.sl 7 (l.map avA))), (3, .mref 1011), (1011, .mpr (strs (mks l)) (mvs l)), (6, .slg 3006 0 (units (ksOf l seen).length)), (3006, .row (ksOf l seen)), (25, .ptr 1025 0), (1025, .itr 1011 (mks l).length seen)]) (fun seen => seen.Nodup ∧ ∀ j ∈ seen, j < (mks l).length) (fun seen => (mks l).length - seen.length) ([]) ?_ ⟨rfl, rfl, look_mpr rfl (by rw [hin, List.take_length]) (by rw [hin, List.take_length]), rfl, rfl, rfl, look_itr rfl (by rw [hin, List.take_length, strs_length]) rfl, trivial⟩ ?_
      · exact ⟨List.nodup_nil, fun j h => by cases h⟩
      · rintro seen ⟨h1, h2⟩; (try dsimp only at h1 h2)
        have hsl := nodup_lt _ seen h1 h2
        have hml := mks_len l
        have hkl := ksOf_len l seen
        refine aw_seq ?_
        refine aw_next rfl rfl rfl rfl rfl (Nat.beq_refl _) rfl (fun hall => ?_) (fun q tx va hq hs hk hv => ?_)
        · skip
          have hp := seen_perm h1 h2 hall
          have hp : (ksOf l seen).Perm (mks l) := hp
          have hcs := canonAs_sorted l hp
          have hskl : (sortB (ksOf l seen)).length = seen.length := by rw [sortB_length, ksOf_len]
          refine g_u (s_extract rfl rfl rfl rfl) ?_
          refine g_nil ?_
          refine normal_thn ?_
          refine aw_seq ?_
          refine aw_cond_false rfl ?_
          refine aw_exit ?_
          refine exit_thn ?_
          refine exit_thn ?_
          refine exit_blk ?_
          refine normal_thn ?_
          refine aw_seq ?_
          refine aw_region ?_
          refine g_u (s_mv_slg rfl rfl) ?_
          refine g_u (s_sort 6 (sort_c) rfl rfl rfl rfl rfl rfl rfl rfl rfl (by omega)) ?_
          refine g_nil ?_
          refine normal_thn ?_
          refine aw_seq ?_
          refine aw_region ?_
          refine g_u (s_as_imm rfl rfl) ?_
          refine g_nil ?_
          refine normal_thn ?_
          refine aw_newtok 3008 8 7 rfl rfl rfl rfl ?_
          refine aw_seq ?_
          refine aw_seq ?_
          refine aw_region ?_
          refine g_u (s_mv_imm rfl rfl) ?_
          refine g_u (s_lenL rfl rfl Tryd.underlying59) ?_
          refine g_u (s_mv_imm rfl rfl) ?_
          refine g_nil ?_
          refine normal_thn ?_
          refine aw_block ?_
          refine aw_loop' (fun j : Nat => [(0, .imm (.sl 7 (l.map avA))), (3, .mref 1011), (1011, .mpr (strs (mks l)) (mvs l)), (36, .imm (.sl 1 (strs (sortB (ksOf l seen))))), (37, .imm (iv ((sortB (ksOf l seen)).length : Int))), (8, .slg 3008 7 (((sortB (ksOf l seen)).take j).map (fun k => (GA.mk k (canonV (nthA l (lastI l k)).val)).av))), (3008, .tok 7 (((sortB (ksOf l seen)).take j).map (fun k => (GA.mk k (canonV (nthA l (lastI l k)).val)).av))), (38, .imm (iv (j : Int)))]) (fun j => j ≤ (sortB (ksOf l seen)).length) (fun j => (sortB (ksOf l seen)).length - j) (0) ?_ ⟨rfl, rfl, rfl, rfl, look_int rfl (by rw [strs_length]), rfl, rfl, rfl, trivial⟩ ?_
          · exact Nat.zero_le _
          · rintro j g1; have g1 : j ≤ (sortB (ksOf l seen)).length := g1
            refine aw_seq ?_
            refine aw_region ?_
            refine g_u (s_ltI rfl rfl rfl) ?_
            refine g_nil ?_
            refine normal_thn ?_
            refine aw_seq ?_
            refine aw_cond rfl (fun hb2 => ?_) (fun hb2 => ?_)
            · skip
              have hj : j < (sortB (ksOf l seen)).length := by have := of_decide_eq_true hb2; omega
              obtain ⟨p, hp1, hp2, hp3⟩ := look_key (l := l) (k := nth (sortB (ksOf l seen)) j ⟨#[]⟩) (((sortB_perm _).trans hp).mem_iff.1 (nth_mem hj))
              refine aw_skip ?_
              refine normal_thn ?_
              refine aw_seq ?_
              refine aw_block ?_
              refine aw_seq ?_
              refine aw_region ?_
              refine g_u (s_indexAddr rfl rfl rfl Tryd.underlying59 tS9 (by omega) (str_nth hj)) ?_
              refine g_u (s_load_cp rfl rfl tA9 tS9 rfl rfl) ?_
              refine g_u (s_as_imm rfl rfl) ?_
              refine g_nil ?_
              refine normal_thn ?_
              refine aw_region ?_
              refine g_u (s_mv_slg rfl rfl) ?_
              refine g_u (s_mv_imm rfl rfl) ?_
              refine g_u (s_mv_imm rfl rfl) ?_
              refine g_u (s_mv_mref rfl rfl) ?_
              refine g_u (s_mv_imm rfl rfl) ?_
              refine g_u (s_lookup rfl rfl rfl rfl Tryd.underlying101 Tryd.underlying9 hp1 hp2) ?_
              refine g_u (s_indexAddr rfl rfl rfl Tryd.underlying30 tS72 (by omega) (ixA hp3)) ?_
              refine g_u (s_fieldAddr_cp rfl rfl fa72_1 rfl rfl) ?_
              refine g_u (s_load_cp rfl rfl tA70 tS70 rfl rfl) ?_
              refine g_u (s_call1 (ih _ (nthA_mem hp3)) rfl rfl) ?_
              refine g_u (s_build rfl tU72 us72 pl72 rfl rfl rfl rfl) ?_
              refine g_u (s_buildSlice (X0 := z72) rfl Tryd.underlying30 tS72 tZ72 rfl rfl rfl rfl rfl rfl rfl rfl) ?_
              refine g_u (s_append rfl rfl rfl rfl rfl Tryd.underlying30 Tryd.underlying30 tS72 zv72 rfl (by decide) by72 (by (try dsimp only); simp only [List.length_append, List.length_cons, List.length_nil, List.length_map, List.length_take]; omega) (by (try dsimp only); simp only [List.length_append, List.length_cons, List.length_nil, List.length_map, List.length_take]; omega)) ?_
              refine g_u (s_as_slg rfl rfl) ?_
              refine g_nil ?_
              refine normal_blk ?_
              refine normal_thn ?_
              refine aw_region ?_
              refine g_u (s_add rfl rfl rfl) ?_
              refine g_u (s_mv_imm rfl rfl) ?_
              refine g_nil ?_
              refine normal_thn ?_
              have et : (((sortB (ksOf l seen)).take (j + 1)).map (fun k => (GA.mk k (canonV (nthA l (lastI l k)).val)).av)) = (((sortB (ksOf l seen)).take j).map (fun k => (GA.mk k (canonV (nthA l (lastI l k)).val)).av)) ++ [(fun k => (GA.mk k (canonV (nthA l (lastI l k)).val)).av) (nth (sortB (ksOf l seen)) j ⟨#[]⟩)] := by rw [take_snoc (nth_get (d := ⟨#[]⟩) hj), List.map_append]; rfl
              refine ⟨j + 1, hj, ⟨rfl, rfl, rfl, rfl, rfl, look_slg rfl et.symm, look_tok rfl et.symm, look_int rfl (by rw [wrap64 (by omega) (by omega)]; rfl), trivial⟩, by (try dsimp only); omega⟩
            · skip
              have hjn : j = (sortB (ksOf l seen)).length := by have := of_decide_eq_false hb2; omega
              refine aw_exit ?_
              refine exit_thn ?_
              refine exit_thn ?_
              refine exit_blk ?_
              refine normal_thn ?_
              refine aw_seq ?_
              refine aw_region ?_
              refine g_u (s_mv_slg rfl rfl) ?_
              refine g_u (s_as_slg rfl rfl) ?_
              refine g_nil ?_
              refine normal_thn ?_
              refine aw_ret ?_
              exact ⟨⟨(rfl : toAV (Al.look _ _) = some _).trans (congrArg some (by (refine congrArg (AV.sl 7) ?_; rw [hjn, List.take_length, ← hcs, List.map_map]; exact List.map_congr_left fun k _ => (avA_eq _).symm))), rfl⟩, trivial⟩
        · skip
          refine g_u (s_extract rfl rfl rfl rfl) ?_
          refine g_nil ?_
          refine normal_thn ?_
          refine aw_seq ?_
          refine aw_cond_true rfl ?_
          refine aw_skip ?_
          refine normal_thn ?_
          refine aw_block ?_
          refine aw_seq ?_
          refine aw_region ?_
          refine g_u (s_entry rfl rfl rfl rfl (Nat.beq_refl _) hk hv) ?_
          refine g_u (s_extract rfl rfl rfl rfl) ?_
          refine g_u (s_as_imm rfl rfl) ?_
          refine g_nil ?_
          refine normal_thn ?_
          refine aw_region ?_
          refine g_u (s_mv_slg rfl rfl) ?_
          refine g_u (s_mv_imm rfl rfl) ?_
          refine g_u (s_buildSlice (X0 := z9) rfl Tryd.underlying59 tS9 tZ9 rfl rfl rfl rfl rfl rfl rfl rfl) ?_
          refine g_u (s_appendR rfl rfl rfl rfl rfl Tryd.underlying59 Tryd.underlying59 tS9 zv9 rfl by9 (by omega) (by omega)) ?_
          refine g_u (s_as_slg rfl rfl) ?_
          refine g_nil ?_
          refine normal_blk ?_
          refine normal_thn ?_
          have hn2 := nodup_snoc h1 hs
          have hl2 : ∀ j ∈ seen ++ [q], j < (mks l).length := fun j hj => by rcases List.mem_append.1 hj with h | h; exact h2 j h; rw [List.mem_singleton.1 h]; exact hq
          have hsl2 := nodup_lt _ _ hn2 hl2
          rw [List.length_append] at hsl2
          refine ⟨seen ++ [q], ⟨hn2, hl2⟩, ⟨rfl, rfl, rfl, look_units rfl (by rw [ksOf_snoc hk, List.length_append]; rfl), look_row rfl (ksOf_snoc hk).symm, rfl, rfl, trivial⟩, by (try dsimp only); rw [List.length_append]; simp only [List.length_cons, List.length_nil] at *; omega⟩

set_option maxHeartbeats 400000 in
theorem pcanonV_st (v : GV) (hw : v.wt ≤ 10000000) (ih : ∀ y ∈ v.list, PCall Tryd.prog Γ0 61 [y.av] [(canonV y).av]) (ihm : PCall Tryd.prog Γ0 36 [.sl 7 (v.map.map avA)] [.sl 7 ((canonAs v.map).map avA)]) : PCall Tryd.prog Γ0 61 [v.av] [(canonV v).av] := by
  have ek := v.wt_eq
  have lv := len_wtVs v.list
  refine pcall_of Tryd.func61 rfl Tryd.ntmps61 (by kernel_rfl) rfl fun w0 I0 G0 => ?_
  refine aw_seq ?_
  refine aw_region ?_
  refine g_uG (s_box_imm 1001 rfl rfl rfl rfl) rfl ?_
  refine g_uG (s_alloc' 1002 rfl rfl rfl tZ70) rfl ?_
  refine g_nil ?_
  refine normal_thn ?_
  refine aw_seq ?_
  refine aw_region ?_
  refine g_u (s_as_imm rfl rfl) ?_
  refine g_nil ?_
  refine normal_thn ?_
  refine aw_newtok 3003 3 6 rfl rfl rfl rfl ?_
  refine aw_seq ?_
  refine aw_seq ?_
  refine aw_region ?_
  refine g_u (s_fieldAddr rfl rfl fa70_4 rfl) ?_
  refine g_u (s_load_imm rfl rfl rfl tA68 tS68 rfl rfl) ?_
  refine g_u (s_lenL rfl rfl Tryd.underlying68) ?_
  refine g_u (s_mv_imm rfl rfl) ?_
  refine g_nil ?_
  refine normal_thn ?_
  refine aw_block ?_
  refine aw_loop' (fun i : Nat => [(1, .ptr 1001 0), (1001, .box 70 (.imm v.av)), (2, .ptr 1002 0), (1002, .box 70 (.imm z70)), (3, .slg 3003 6 ((v.list.take i).map fun x => (canonV x).av)), (3003, .tok 6 ((v.list.take i).map fun x => (canonV x).av)), (7, .imm (.sl 6 (v.list.map avV))), (8, .imm (iv (v.list.length : Int))), (9, .imm (iv (i : Int)))]) (fun i => i ≤ v.list.length) (fun i => v.list.length - i) (0) ?_ ⟨rfl, rfl, rfl, rfl, rfl, rfl, rfl, look_int rfl (by rw [List.length_map]), rfl, trivial⟩ ?_
  · exact Nat.zero_le _
  · rintro i h1; have h1 : i ≤ v.list.length := h1
    refine aw_seq ?_
    refine aw_region ?_
    refine g_u (s_ltI rfl rfl rfl) ?_
    refine g_nil ?_
    refine normal_thn ?_
    refine aw_seq ?_
    refine aw_cond rfl (fun hb1 => ?_) (fun hb1 => ?_)
    · skip
      have hi : i < v.list.length := by have := of_decide_eq_true hb1; (try simp only [List.length_map] at this); omega
      refine aw_skip ?_
      refine normal_thn ?_
      refine aw_seq ?_
      refine aw_block ?_
      refine aw_seq ?_
      refine aw_region ?_
      refine g_u (s_indexAddr rfl rfl rfl Tryd.underlying68 tS70 (by omega) (ixV hi)) ?_
      refine g_u (s_load_cp rfl rfl tA70 tS70 rfl rfl) ?_
      refine g_uG (s_alloc' 1005 rfl rfl rfl tZ70) rfl ?_
      refine g_u (s_store_imm rfl rfl rfl tS70 rfl rfl) ?_
      refine g_nil ?_
      refine normal_thn ?_
      refine aw_region ?_
      refine g_u (s_mv_slg rfl rfl) ?_
      refine g_u (s_load_agg rfl rfl rfl tA70 tS70 rfl rfl) ?_
      refine g_u (s_call1 (ih _ (nthV_mem hi)) rfl rfl) ?_
      refine g_u (s_buildSlice (X0 := z70) rfl Tryd.underlying68 tS70 tZ70 rfl rfl rfl rfl rfl rfl rfl rfl) ?_
      refine g_u (s_append rfl rfl rfl rfl rfl Tryd.underlying68 Tryd.underlying68 tS70 zv70 rfl (by decide) by70 (by (try dsimp only); simp only [List.length_append, List.length_cons, List.length_nil, List.length_map, List.length_take, List.length_drop]; omega) (by (try dsimp only); simp only [List.length_append, List.length_cons, List.length_nil, List.length_map, List.length_take, List.length_drop]; omega)) ?_
      refine g_u (s_as_slg rfl rfl) ?_
      refine g_nil ?_
      refine normal_blk ?_
      refine normal_thn ?_
      refine aw_region ?_
      refine g_u (s_add rfl rfl rfl) ?_
      refine g_u (s_mv_imm rfl rfl) ?_
      refine g_nil ?_
      refine normal_thn ?_
      have et : ((v.list.take (i + 1)).map fun x => (canonV x).av) = ((v.list.take i).map fun x => (canonV x).av) ++ [(canonV (nthV v.list i)).av] := by rw [take_snoc (nth_get (d := v0) hi), List.map_append]; rfl
      refine ⟨i + 1, hi, ⟨rfl, rfl, rfl, rfl, look_slg rfl et.symm, look_tok rfl et.symm, rfl, rfl, look_int rfl (by rw [wrap64 (by omega) (by omega)]; rfl), trivial⟩, by (try dsimp only); omega⟩
    · skip
      have hin : i = v.list.length := by have := of_decide_eq_false hb1; (try simp only [List.length_map] at this); omega
      refine aw_exit ?_
      refine exit_thn ?_
      refine exit_thn ?_
      refine exit_blk ?_
      refine normal_thn ?_
      refine aw_seq ?_
      refine aw_region ?_
      refine g_u (s_mv_slg rfl rfl) ?_
      refine g_u (s_fieldAddr rfl rfl fa70_5 rfl) ?_
      refine g_u (s_load_imm rfl rfl rfl tA30 tS30 rfl rfl) ?_
      refine g_u (s_call1 (ihm) rfl rfl) ?_
      refine g_u (s_fieldAddr rfl rfl fa70_4 rfl) ?_
      refine g_u (s_store rfl rfl rfl rfl tS68 rfl rfl) ?_
      refine g_u (s_fieldAddr rfl rfl fa70_5 rfl) ?_
      refine g_u (s_store_imm rfl rfl rfl tS30 rfl rfl) ?_
      refine g_nil ?_
      refine normal_thn ?_
      refine aw_seq ?_
      refine aw_region ?_
      refine g_u (s_load_agg rfl rfl rfl tA70 tS70 rfl rfl) ?_
      refine g_u (s_store_imm rfl rfl rfl tS70 rfl rfl) ?_
      refine g_nil ?_
      refine normal_thn ?_
      refine aw_ret ?_
      exact ⟨⟨_, _, _, _, _, _, _, rfl, rfl, tA70, tS70, rfl, rfl, (rfl : toAV _ = some _).trans (congrArg some (by (rw [canonV_eq, hin, List.take_length]; show AV.agg _ = AV.agg [_, _, _, _, .sl 6 ((v.list.map canonV).map avV), _]; rw [List.map_map, show avV ∘ canonV = fun x => (canonV x).av from funext fun x => avV_eq _]; rfl)))⟩, trivial⟩

theorem pcanonV_c (v : GV) : v.wt ≤ 10000000 → PCall Tryd.prog Γ0 61 [v.av] [(canonV v).av] := by
  refine GV.ind (P := fun v => v.wt ≤ 10000000 → PCall Tryd.prog Γ0 61 [v.av] [(canonV v).av]) ?_ v
  intro v h1 h2 hw
  have ek := v.wt_eq
  have la := len_wtAs v.map
  exact pcanonV_st v hw (fun y hy => h1 y hy (by have := wtVs_mem hy; omega)) (pcanonAs_st v.map (by omega) fun a ha => h2 a ha (by have := wtAs_mem ha; have := a.wt_eq; omega))
theorem pcanonAs_c (l : List GA) (hw : wtAs l ≤ 10000000) : PCall Tryd.prog Γ0 36 [.sl 7 (l.map avA)] [.sl 7 ((canonAs l).map avA)] := by
  have la := len_wtAs l
  exact pcanonAs_st l (by omega) fun a ha => pcanonV_c a.val (by have := wtAs_mem ha; have := a.wt_eq; omega)

end Go.Proofs

namespace Go.Proofs
open Go Go.Al
set_option maxRecDepth 10000


end Go.Proofs

namespace Go.Proofs
open Go Go.Al

/-! ### What may be is its own form -/
/-! ### Lists within one another -/
end Go.Proofs

namespace Go.Proofs
open Go Go.Al
set_option maxRecDepth 10000

end Go.Proofs

namespace Go.Proofs
open Go Go.Al

/-! ### Whether spans may be -/
/-! ### The spans of law 27 -/
end Go.Proofs

namespace Go.Al
section
variable {P : Program} {b : Frame} {a : Act} {k : List Item} {cs : List Frame} {w : World}
end

/-! ### A labelled stretch that nobody jumps back into -/
end Go.Al

namespace Go.Proofs
open Go Go.Al
set_option maxRecDepth 10000
set_option maxHeartbeats 4000000 in
theorem eqdE_c (a b : List GE) (fn : FuncId) (hl : a.length ≤ 1000000000) (hf : ∀ x ∈ a, ∀ y : GE, PCall Tryd.prog Γ0 fn ([] ++ [x.av, y.av] ++ []) [bv (decide (x = y))]) : PCall Tryd.prog Γ0 106 [(.sl 3 (a.map GE.av)), (.sl 3 (b.map GE.av)), .fn (.func fn) [] []] [bv (decide (a = b))] := by
  refine pcall_of Tryd.func106 rfl Tryd.ntmps106 (by kernel_rfl) rfl fun w0 I0 G0 => ?_
  refine aw_seq ?_
  refine aw_region ?_
  refine g_u (s_as_imm rfl rfl) ?_
  refine g_nil ?_
  refine normal_thn ?_
  refine aw_seq ?_
  refine aw_seq ?_
  refine aw_region ?_
  refine g_u (s_mv_imm rfl rfl) ?_
  refine g_u (s_lenL rfl rfl Tryd.underlying47) ?_
  refine g_u (s_mv_imm rfl rfl) ?_
  refine g_u (s_lenL rfl rfl Tryd.underlying47) ?_
  refine g_u (s_neI rfl rfl rfl) ?_
  refine g_nil ?_
  refine normal_thn ?_
  refine aw_cond rfl (fun hb1 => ?_) (fun hb1 => ?_)
  · skip
    have q : ¬ a.length = b.length := by have e := bne_iff_ne.1 hb1; simp only [List.length_map] at e; omega
    refine aw_seq ?_
    refine aw_region ?_
    refine g_u (s_as_imm rfl rfl) ?_
    refine g_nil ?_
    refine normal_thn ?_
    refine aw_ret ?_
    refine ret_thn ?_
    exact ⟨⟨(rfl : toAV (Al.look _ _) = some _).trans (congrArg some (by (exact congrArg bv (by first | exact (decide_eq_false (fun e => q (by rw [e]))).symm | exact (decide_eq_true (ext_nth ge0 el (fun j hj => h2 j (by omega)))).symm)))), rfl⟩, trivial⟩
  · skip
    have el : a.length = b.length := by have e := bne_eq_false_iff_eq.1 hb1; simp only [List.length_map] at e; omega
    refine aw_skip ?_
    refine normal_thn ?_
    refine aw_seq ?_
    refine aw_seq ?_
    refine aw_region ?_
    refine g_u (s_mv_imm rfl rfl) ?_
    refine g_u (s_lenL rfl rfl Tryd.underlying47) ?_
    refine g_u (s_mv_imm rfl rfl) ?_
    refine g_nil ?_
    refine normal_thn ?_
    refine aw_block ?_
    refine aw_loop' (fun i : Nat => [(1, .imm (.sl 3 (b.map GE.av))), (2, .imm (.fn (.func fn) [] [])), (15, .imm (.sl 3 (a.map GE.av))), (16, .imm (iv (a.length : Int))), (17, .imm (iv (i : Int)))]) (fun i => i ≤ a.length ∧ ∀ j, j < i → nth a j ge0 = nth b j ge0) (fun i => a.length - i) (0) ?_ ⟨rfl, rfl, rfl, look_int rfl (by rw [List.length_map]), rfl, trivial⟩ ?_
    · exact ⟨Nat.zero_le _, fun j h => absurd h (Nat.not_lt_zero _)⟩
    · rintro i ⟨h1, h2⟩; (try dsimp only at h1 h2)
      refine aw_seq ?_
      refine aw_region ?_
      refine g_u (s_ltI rfl rfl rfl) ?_
      refine g_nil ?_
      refine normal_thn ?_
      refine aw_seq ?_
      refine aw_cond rfl (fun hb2 => ?_) (fun hb2 => ?_)
      · skip
        have hi : i < a.length := by have := of_decide_eq_true hb2; (try simp only [List.length_map] at this); omega
        have hib : i < b.length := by omega
        refine aw_skip ?_
        refine normal_thn ?_
        refine aw_seq ?_
        refine aw_block ?_
        refine aw_seq ?_
        refine aw_region ?_
        refine g_u (s_mv_imm rfl rfl) ?_
        refine g_u (s_indexAddr rfl rfl rfl Tryd.underlying47 tS85 (by omega) (ixE hi)) ?_
        refine g_u (s_load_cp rfl rfl tA85 tS85 rfl rfl) ?_
        refine g_uG (s_alloc' 1008 rfl rfl rfl tZ85) rfl ?_
        refine g_u (s_as_imm rfl rfl) ?_
        refine g_u (s_store_imm rfl rfl rfl tS85 rfl rfl) ?_
        refine g_nil ?_
        refine normal_thn ?_
        refine aw_seq ?_
        refine aw_region ?_
        refine g_u (s_mv_imm rfl rfl) ?_
        refine g_u (s_mv_imm rfl rfl) ?_
        refine g_u (s_indexAddr rfl rfl rfl Tryd.underlying47 tS85 (by omega) (ixE hib)) ?_
        refine g_u (s_load_cp rfl rfl tA85 tS85 rfl rfl) ?_
        refine g_uG (s_alloc' 1009 rfl rfl rfl tZ85) rfl ?_
        refine g_u (s_store_imm rfl rfl rfl tS85 rfl rfl) ?_
        refine g_nil ?_
        refine normal_thn ?_
        refine aw_seq ?_
        refine aw_region ?_
        refine g_u (s_mv_imm rfl rfl) ?_
        refine g_u (s_load_agg rfl rfl rfl tA85 tS85 rfl rfl) ?_
        refine g_u (s_load_agg rfl rfl rfl tA85 tS85 rfl rfl) ?_
        refine g_u (s_callv1 (hf _ (nthE_mem hi) _) rfl rfl rfl) ?_
        refine g_u (s_not rfl rfl) ?_
        refine g_nil ?_
        refine normal_thn ?_
        refine aw_cond rfl (fun hb3 => ?_) (fun hb3 => ?_)
        · skip
          have q : ¬ nthE a i = nthE b i := fun h => by have e := hb3; rw [decide_eq_true h] at e; cases e
          refine aw_seq ?_
          refine aw_region ?_
          refine g_u (s_as_imm rfl rfl) ?_
          refine g_nil ?_
          refine normal_thn ?_
          refine aw_ret ?_
          refine ret_blk ?_
          refine ret_thn ?_
          refine ret_thn ?_
          refine ret_blk ?_
          refine ret_thn ?_
          exact ⟨⟨(rfl : toAV (Al.look _ _) = some _).trans (congrArg some (by (exact congrArg bv (by first | exact (decide_eq_false (fun e => q (by rw [e]))).symm | exact (decide_eq_true (ext_nth ge0 el (fun j hj => h2 j (by omega)))).symm)))), rfl⟩, trivial⟩
        · skip
          have ev : nthE a i = nthE b i := by have e := hb3; simpa using e
          refine aw_skip ?_
          refine normal_blk ?_
          refine normal_thn ?_
          refine aw_region ?_
          refine g_u (s_add rfl rfl rfl) ?_
          refine g_u (s_mv_imm rfl rfl) ?_
          refine g_nil ?_
          refine normal_thn ?_
          refine ⟨i + 1, ⟨hi, fun j hj => by rcases Nat.lt_or_ge j i with h | h; exact h2 j h; rw [show j = i by omega]; exact ev⟩, ⟨rfl, rfl, rfl, rfl, look_int rfl (by rw [wrap64 (by omega) (by omega)]; rfl), trivial⟩, by (try dsimp only); omega⟩
      · skip
        have hin : i = a.length := by have := of_decide_eq_false hb2; (try simp only [List.length_map] at this); omega
        refine aw_exit ?_
        refine exit_thn ?_
        refine exit_thn ?_
        refine exit_blk ?_
        refine normal_thn ?_
        refine aw_seq ?_
        refine aw_region ?_
        refine g_u (s_as_imm rfl rfl) ?_
        refine g_nil ?_
        refine normal_thn ?_
        refine aw_ret ?_
        exact ⟨⟨(rfl : toAV (Al.look _ _) = some _).trans (congrArg some (by (exact congrArg bv (by first | exact (decide_eq_false (fun e => q (by rw [e]))).symm | exact (decide_eq_true (ext_nth ge0 el (fun j hj => h2 j (by omega)))).symm)))), rfl⟩, trivial⟩

set_option maxHeartbeats 4000000 in
theorem eqdL_c (a b : List GL) (fn : FuncId) (hl : a.length ≤ 1000000000) (hf : ∀ x ∈ a, ∀ y : GL, PCall Tryd.prog Γ0 fn ([] ++ [x.av, y.av] ++ []) [bv (decide (x = y))]) : PCall Tryd.prog Γ0 108 [(.sl 26 (a.map GL.av)), (.sl 26 (b.map GL.av)), .fn (.func fn) [] []] [bv (decide (a = b))] := by
  refine pcall_of Tryd.func108 rfl Tryd.ntmps108 (by kernel_rfl) rfl fun w0 I0 G0 => ?_
  refine aw_seq ?_
  refine aw_region ?_
  refine g_u (s_as_imm rfl rfl) ?_
  refine g_nil ?_
  refine normal_thn ?_
  refine aw_seq ?_
  refine aw_seq ?_
  refine aw_region ?_
  refine g_u (s_mv_imm rfl rfl) ?_
  refine g_u (s_lenL rfl rfl Tryd.underlying48) ?_
  refine g_u (s_mv_imm rfl rfl) ?_
  refine g_u (s_lenL rfl rfl Tryd.underlying48) ?_
  refine g_u (s_neI rfl rfl rfl) ?_
  refine g_nil ?_
  refine normal_thn ?_
  refine aw_cond rfl (fun hb1 => ?_) (fun hb1 => ?_)
  · skip
    have q : ¬ a.length = b.length := by have e := bne_iff_ne.1 hb1; simp only [List.length_map] at e; omega
    refine aw_seq ?_
    refine aw_region ?_
    refine g_u (s_as_imm rfl rfl) ?_
    refine g_nil ?_
    refine normal_thn ?_
    refine aw_ret ?_
    refine ret_thn ?_
    exact ⟨⟨(rfl : toAV (Al.look _ _) = some _).trans (congrArg some (by (exact congrArg bv (by first | exact (decide_eq_false (fun e => q (by rw [e]))).symm | exact (decide_eq_true (ext_nth gl0 el (fun j hj => h2 j (by omega)))).symm)))), rfl⟩, trivial⟩
  · skip
    have el : a.length = b.length := by have e := bne_eq_false_iff_eq.1 hb1; simp only [List.length_map] at e; omega
    refine aw_skip ?_
    refine normal_thn ?_
    refine aw_seq ?_
    refine aw_seq ?_
    refine aw_region ?_
    refine g_u (s_mv_imm rfl rfl) ?_
    refine g_u (s_lenL rfl rfl Tryd.underlying48) ?_
    refine g_u (s_mv_imm rfl rfl) ?_
    refine g_nil ?_
    refine normal_thn ?_
    refine aw_block ?_
    refine aw_loop' (fun i : Nat => [(1, .imm (.sl 26 (b.map GL.av))), (2, .imm (.fn (.func fn) [] [])), (15, .imm (.sl 26 (a.map GL.av))), (16, .imm (iv (a.length : Int))), (17, .imm (iv (i : Int)))]) (fun i => i ≤ a.length ∧ ∀ j, j < i → nth a j gl0 = nth b j gl0) (fun i => a.length - i) (0) ?_ ⟨rfl, rfl, rfl, look_int rfl (by rw [List.length_map]), rfl, trivial⟩ ?_
    · exact ⟨Nat.zero_le _, fun j h => absurd h (Nat.not_lt_zero _)⟩
    · rintro i ⟨h1, h2⟩; (try dsimp only at h1 h2)
      refine aw_seq ?_
      refine aw_region ?_
      refine g_u (s_ltI rfl rfl rfl) ?_
      refine g_nil ?_
      refine normal_thn ?_
      refine aw_seq ?_
      refine aw_cond rfl (fun hb2 => ?_) (fun hb2 => ?_)
      · skip
        have hi : i < a.length := by have := of_decide_eq_true hb2; (try simp only [List.length_map] at this); omega
        have hib : i < b.length := by omega
        refine aw_skip ?_
        refine normal_thn ?_
        refine aw_seq ?_
        refine aw_block ?_
        refine aw_seq ?_
        refine aw_region ?_
        refine g_u (s_mv_imm rfl rfl) ?_
        refine g_u (s_indexAddr rfl rfl rfl Tryd.underlying48 tS87 (by omega) (ixL hi)) ?_
        refine g_u (s_load_cp rfl rfl tA87 tS87 rfl (by first | exact getS_w (GL.width _) rfl | rfl)) ?_
        refine g_uG (s_alloc' 1008 rfl rfl rfl tZ87) rfl ?_
        refine g_u (s_as_imm rfl rfl) ?_
        refine g_u (s_store_imm rfl rfl rfl tS87 (by first | exact beqW (GL.width _) | rfl) (by first | exact setS_w (z87_w.trans (GL.width _).symm) rfl | rfl)) ?_
        refine g_nil ?_
        refine normal_thn ?_
        refine aw_seq ?_
        refine aw_region ?_
        refine g_u (s_mv_imm rfl rfl) ?_
        refine g_u (s_mv_imm rfl rfl) ?_
        refine g_u (s_indexAddr rfl rfl rfl Tryd.underlying48 tS87 (by omega) (ixL hib)) ?_
        refine g_u (s_load_cp rfl rfl tA87 tS87 rfl (by first | exact getS_w (GL.width _) rfl | rfl)) ?_
        refine g_uG (s_alloc' 1009 rfl rfl rfl tZ87) rfl ?_
        refine g_u (s_store_imm rfl rfl rfl tS87 (by first | exact beqW (GL.width _) | rfl) (by first | exact setS_w (z87_w.trans (GL.width _).symm) rfl | rfl)) ?_
        refine g_nil ?_
        refine normal_thn ?_
        refine aw_seq ?_
        refine aw_region ?_
        refine g_u (s_mv_imm rfl rfl) ?_
        refine g_u (s_load_imm rfl rfl rfl tA87 tS87 rfl (by first | exact getS_w (GL.width _) rfl | rfl)) ?_
        refine g_u (s_load_imm rfl rfl rfl tA87 tS87 rfl (by first | exact getS_w (GL.width _) rfl | rfl)) ?_
        refine g_u (s_callv1 (hf _ (nthL_mem hi) _) rfl rfl rfl) ?_
        refine g_u (s_not rfl rfl) ?_
        refine g_nil ?_
        refine normal_thn ?_
        refine aw_cond rfl (fun hb3 => ?_) (fun hb3 => ?_)
        · skip
          have q : ¬ nthL a i = nthL b i := fun h => by have e := hb3; rw [decide_eq_true h] at e; cases e
          refine aw_seq ?_
          refine aw_region ?_
          refine g_u (s_as_imm rfl rfl) ?_
          refine g_nil ?_
          refine normal_thn ?_
          refine aw_ret ?_
          refine ret_blk ?_
          refine ret_thn ?_
          refine ret_thn ?_
          refine ret_blk ?_
          refine ret_thn ?_
          exact ⟨⟨(rfl : toAV (Al.look _ _) = some _).trans (congrArg some (by (exact congrArg bv (by first | exact (decide_eq_false (fun e => q (by rw [e]))).symm | exact (decide_eq_true (ext_nth gl0 el (fun j hj => h2 j (by omega)))).symm)))), rfl⟩, trivial⟩
        · skip
          have ev : nthL a i = nthL b i := by have e := hb3; simpa using e
          refine aw_skip ?_
          refine normal_blk ?_
          refine normal_thn ?_
          refine aw_region ?_
          refine g_u (s_add rfl rfl rfl) ?_
          refine g_u (s_mv_imm rfl rfl) ?_
          refine g_nil ?_
          refine normal_thn ?_
          refine ⟨i + 1, ⟨hi, fun j hj => by rcases Nat.lt_or_ge j i with h | h; exact h2 j h; rw [show j = i by omega]; exact ev⟩, ⟨rfl, rfl, rfl, rfl, look_int rfl (by rw [wrap64 (by omega) (by omega)]; rfl), trivial⟩, by (try dsimp only); omega⟩
      · skip
        have hin : i = a.length := by have := of_decide_eq_false hb2; (try simp only [List.length_map] at this); omega
        refine aw_exit ?_
        refine exit_thn ?_
        refine exit_thn ?_
        refine exit_blk ?_
        refine normal_thn ?_
        refine aw_seq ?_
        refine aw_region ?_
        refine g_u (s_as_imm rfl rfl) ?_
        refine g_nil ?_
        refine normal_thn ?_
        refine aw_ret ?_
        exact ⟨⟨(rfl : toAV (Al.look _ _) = some _).trans (congrArg some (by (exact congrArg bv (by first | exact (decide_eq_false (fun e => q (by rw [e]))).symm | exact (decide_eq_true (ext_nth gl0 el (fun j hj => h2 j (by omega)))).symm)))), rfl⟩, trivial⟩

set_option maxHeartbeats 400000 in
theorem sameE_c (a b : GE) (hw : wtAs a.attrs ≤ 1000000000) : PCall Tryd.prog Γ0 107 [a.av, b.av] [bv (decide (a = b))] := by
  refine pcall_of Tryd.func107 rfl Tryd.ntmps107 (by kernel_rfl) rfl fun w0 I0 G0 => ?_
  refine aw_seq ?_
  refine aw_region ?_
  refine g_uG (s_box_imm 1002 rfl rfl rfl rfl) rfl ?_
  refine g_uG (s_box_imm 1003 rfl rfl rfl rfl) rfl ?_
  refine g_u (s_as_imm rfl rfl) ?_
  refine g_nil ?_
  refine normal_thn ?_
  refine aw_seq ?_
  refine aw_region ?_
  refine g_u (s_fieldAddr rfl rfl fa85_0 rfl) ?_
  refine g_u (s_load_imm rfl rfl rfl tA46 tS46 rfl rfl) ?_
  refine g_u (s_fieldAddr rfl rfl fa85_0 rfl) ?_
  refine g_u (s_load_imm rfl rfl rfl tA46 tS46 rfl rfl) ?_
  refine g_u (s_eqI rfl rfl rfl) ?_
  refine g_u (s_mv_imm rfl rfl) ?_
  refine g_case (t := 10) rfl ?_
  rintro (hb1 | hb1)
  · rw [hb1]
    have f1 : a.time = b.time := beq_iff_eq.1 hb1
    refine g_run rfl rfl (s_fieldAddr rfl rfl fa85_1 rfl) ?_
    refine g_run rfl rfl (s_load_imm rfl rfl rfl tA9 tS9 rfl rfl) ?_
    refine g_run rfl rfl (s_fieldAddr rfl rfl fa85_1 rfl) ?_
    refine g_run rfl rfl (s_load_imm rfl rfl rfl tA9 tS9 rfl rfl) ?_
    refine g_run rfl rfl (s_eqS rfl rfl rfl) ?_
    refine g_u (s_pick_t rfl rfl rfl) ?_
    refine g_u (s_mv_imm rfl rfl) ?_
    refine g_case (t := 17) rfl ?_
    rintro (hb2 | hb2)
    · rw [hb2]
      have f2 : a.name = b.name := by have e := hb2; rw [str_beq] at e; simpa using e
      refine g_run rfl rfl (s_fieldAddr rfl rfl fa85_2 rfl) ?_
      refine g_run rfl rfl (s_load_imm rfl rfl rfl tA30 tS30 rfl rfl) ?_
      refine g_run rfl rfl (s_fieldAddr rfl rfl fa85_2 rfl) ?_
      refine g_run rfl rfl (s_load_imm rfl rfl rfl tA30 tS30 rfl rfl) ?_
      refine g_run rfl rfl (s_call1 (psameAs_c _ _ (by omega)) rfl rfl) ?_
      refine g_u (s_pick_t rfl rfl rfl) ?_
      refine g_u (s_as_imm rfl rfl) ?_
      refine g_nil ?_
      refine normal_thn ?_
      refine aw_ret ?_
      exact ⟨⟨(rfl : toAV (Al.look _ _) = some _).trans (congrArg some (by (exact congrArg bv (by first | exact (decide_eq_false (fun e => q (by rw [e]))).symm | (rw [Bool.eq_iff_iff, sameAs_iff, decide_eq_true_iff]; exact ⟨fun h => GE.ext' f1 f2 h, fun h => by rw [h]⟩))))), rfl⟩, trivial⟩
    · rw [hb2]
      have q : ¬ a.name = b.name := by have e := hb2; rw [str_beq] at e; simpa using e
      refine g_skip rfl rfl rfl ?_
      refine g_skip rfl rfl rfl ?_
      refine g_skip rfl rfl rfl ?_
      refine g_skip rfl rfl rfl ?_
      refine g_skip rfl rfl rfl ?_
      refine g_u (s_pick_f rfl rfl rfl) ?_
      refine g_u (s_as_imm rfl rfl) ?_
      refine g_nil ?_
      refine normal_thn ?_
      refine aw_ret ?_
      exact ⟨⟨(rfl : toAV (Al.look _ _) = some _).trans (congrArg some (by (exact congrArg bv (by first | exact (decide_eq_false (fun e => q (by rw [e]))).symm | (rw [Bool.eq_iff_iff, sameAs_iff, decide_eq_true_iff]; exact ⟨fun h => GE.ext' f1 f2 h, fun h => by rw [h]⟩))))), rfl⟩, trivial⟩
  · rw [hb1]
    have q : ¬ a.time = b.time := beq_eq_false_iff_ne.1 hb1
    refine g_skip rfl rfl rfl ?_
    refine g_skip rfl rfl rfl ?_
    refine g_skip rfl rfl rfl ?_
    refine g_skip rfl rfl rfl ?_
    refine g_skip rfl rfl rfl ?_
    refine g_u (s_pick_f rfl rfl rfl) ?_
    refine g_u (s_mv_imm rfl rfl) ?_
    refine g_skip rfl rfl rfl ?_
    refine g_skip rfl rfl rfl ?_
    refine g_skip rfl rfl rfl ?_
    refine g_skip rfl rfl rfl ?_
    refine g_skip rfl rfl rfl ?_
    refine g_u (s_pick_f rfl rfl rfl) ?_
    refine g_u (s_as_imm rfl rfl) ?_
    refine g_nil ?_
    refine normal_thn ?_
    refine aw_ret ?_
    exact ⟨⟨(rfl : toAV (Al.look _ _) = some _).trans (congrArg some (by (exact congrArg bv (by first | exact (decide_eq_false (fun e => q (by rw [e]))).symm | (rw [Bool.eq_iff_iff, sameAs_iff, decide_eq_true_iff]; exact ⟨fun h => GE.ext' f1 f2 h, fun h => by rw [h]⟩))))), rfl⟩, trivial⟩

set_option maxHeartbeats 1000000 in
theorem sameL_c (a b : GL) (hw : wtAs a.attrs ≤ 1000000000) : PCall Tryd.prog Γ0 109 [a.av, b.av] [bv (decide (a = b))] := by
  refine pcall_of Tryd.func109 rfl Tryd.ntmps109 (by kernel_rfl) rfl fun w0 I0 G0 => ?_
  refine aw_seq ?_
  refine aw_region ?_
  refine g_uG (s_box_imm 1002 rfl rfl rfl rfl) rfl ?_
  refine g_uG (s_box_imm 1003 rfl rfl rfl rfl) rfl ?_
  refine g_u (s_as_imm rfl rfl) ?_
  refine g_nil ?_
  refine normal_thn ?_
  refine aw_seq ?_
  refine aw_region ?_
  refine g_u (s_fieldAddr rfl rfl fa87_0 rfl) ?_
  refine g_u (s_load_imm rfl rfl rfl tA43 tS43 rfl rfl) ?_
  refine g_u (s_fieldAddr rfl rfl fa87_0 rfl) ?_
  refine g_u (s_load_imm rfl rfl rfl tA43 tS43 rfl rfl) ?_
  refine g_u (s_eqA rfl rfl rfl eg43 rfl rfl (eq43 _ _)) ?_
  refine g_u (s_mv_imm rfl rfl) ?_
  refine g_case (t := 10) rfl ?_
  rintro (hb1 | hb1)
  · rw [hb1]
    have g1 : a.trace = b.trace := by have e := hb1; simpa using e
    refine g_run rfl rfl (s_fieldAddr rfl rfl fa87_1 rfl) ?_
    refine g_run rfl rfl (s_load_imm rfl rfl rfl tA45 tS45 rfl rfl) ?_
    refine g_run rfl rfl (s_fieldAddr rfl rfl fa87_1 rfl) ?_
    refine g_run rfl rfl (s_load_imm rfl rfl rfl tA45 tS45 rfl rfl) ?_
    refine g_run rfl rfl (s_eqA rfl rfl rfl eg45 rfl rfl (eq45 _ _)) ?_
    refine g_u (s_pick_t rfl rfl rfl) ?_
    refine g_u (s_mv_imm rfl rfl) ?_
    refine g_case (t := 17) rfl ?_
    rintro (hb2 | hb2)
    · rw [hb2]
      have g2 : a.span = b.span := by have e := hb2; simpa using e
      refine g_run rfl rfl (s_fieldAddr rfl rfl fa87_2 rfl) ?_
      refine g_run rfl rfl (s_load_imm rfl rfl rfl tA9 tS9 rfl rfl) ?_
      refine g_run rfl rfl (s_fieldAddr rfl rfl fa87_2 rfl) ?_
      refine g_run rfl rfl (s_load_imm rfl rfl rfl tA9 tS9 rfl rfl) ?_
      refine g_run rfl rfl (s_eqS rfl rfl rfl) ?_
      refine g_u (s_pick_t rfl rfl rfl) ?_
      refine g_u (s_mv_imm rfl rfl) ?_
      refine g_case (t := 24) rfl ?_
      rintro (hb3 | hb3)
      · rw [hb3]
        have g3 : a.state = b.state := by have e := hb3; rw [str_beq] at e; simpa using e
        refine g_run rfl rfl (s_fieldAddr rfl rfl fa87_3 rfl) ?_
        refine g_run rfl rfl (s_load_imm rfl rfl rfl tA30 tS30 rfl rfl) ?_
        refine g_run rfl rfl (s_fieldAddr rfl rfl fa87_3 rfl) ?_
        refine g_run rfl rfl (s_load_imm rfl rfl rfl tA30 tS30 rfl rfl) ?_
        refine g_run rfl rfl (s_call1 (psameAs_c _ _ (by omega)) rfl rfl) ?_
        refine g_u (s_pick_t rfl rfl rfl) ?_
        refine g_u (s_as_imm rfl rfl) ?_
        refine g_nil ?_
        refine normal_thn ?_
        refine aw_ret ?_
        exact ⟨⟨(rfl : toAV (Al.look _ _) = some _).trans (congrArg some (by (exact congrArg bv (by first | exact (decide_eq_false (fun e => q (by rw [e]))).symm | (rw [Bool.eq_iff_iff, sameAs_iff, decide_eq_true_iff]; exact ⟨fun h => GL.ext' g1 g2 g3 h, fun h => by rw [h]⟩))))), rfl⟩, trivial⟩
      · rw [hb3]
        have q : ¬ a.state = b.state := by have e := hb3; rw [str_beq] at e; simpa using e
        refine g_skip rfl rfl rfl ?_
        refine g_skip rfl rfl rfl ?_
        refine g_skip rfl rfl rfl ?_
        refine g_skip rfl rfl rfl ?_
        refine g_skip rfl rfl rfl ?_
        refine g_u (s_pick_f rfl rfl rfl) ?_
        refine g_u (s_as_imm rfl rfl) ?_
        refine g_nil ?_
        refine normal_thn ?_
        refine aw_ret ?_
        exact ⟨⟨(rfl : toAV (Al.look _ _) = some _).trans (congrArg some (by (exact congrArg bv (by first | exact (decide_eq_false (fun e => q (by rw [e]))).symm | (rw [Bool.eq_iff_iff, sameAs_iff, decide_eq_true_iff]; exact ⟨fun h => GL.ext' g1 g2 g3 h, fun h => by rw [h]⟩))))), rfl⟩, trivial⟩
    · rw [hb2]
      have q : ¬ a.span = b.span := by have e := hb2; simpa using e
      refine g_skip rfl rfl rfl ?_
      refine g_skip rfl rfl rfl ?_
      refine g_skip rfl rfl rfl ?_
      refine g_skip rfl rfl rfl ?_
      refine g_skip rfl rfl rfl ?_
      refine g_u (s_pick_f rfl rfl rfl) ?_
      refine g_u (s_mv_imm rfl rfl) ?_
      refine g_skip rfl rfl rfl ?_
      refine g_skip rfl rfl rfl ?_
      refine g_skip rfl rfl rfl ?_
      refine g_skip rfl rfl rfl ?_
      refine g_skip rfl rfl rfl ?_
      refine g_u (s_pick_f rfl rfl rfl) ?_
      refine g_u (s_as_imm rfl rfl) ?_
      refine g_nil ?_
      refine normal_thn ?_
      refine aw_ret ?_
      exact ⟨⟨(rfl : toAV (Al.look _ _) = some _).trans (congrArg some (by (exact congrArg bv (by first | exact (decide_eq_false (fun e => q (by rw [e]))).symm | (rw [Bool.eq_iff_iff, sameAs_iff, decide_eq_true_iff]; exact ⟨fun h => GL.ext' g1 g2 g3 h, fun h => by rw [h]⟩))))), rfl⟩, trivial⟩
  · rw [hb1]
    have q : ¬ a.trace = b.trace := by have e := hb1; simpa using e
    refine g_skip rfl rfl rfl ?_
    refine g_skip rfl rfl rfl ?_
    refine g_skip rfl rfl rfl ?_
    refine g_skip rfl rfl rfl ?_
    refine g_skip rfl rfl rfl ?_
    refine g_u (s_pick_f rfl rfl rfl) ?_
    refine g_u (s_mv_imm rfl rfl) ?_
    refine g_skip rfl rfl rfl ?_
    refine g_skip rfl rfl rfl ?_
    refine g_skip rfl rfl rfl ?_
    refine g_skip rfl rfl rfl ?_
    refine g_skip rfl rfl rfl ?_
    refine g_u (s_pick_f rfl rfl rfl) ?_
    refine g_u (s_mv_imm rfl rfl) ?_
    refine g_skip rfl rfl rfl ?_
    refine g_skip rfl rfl rfl ?_
    refine g_skip rfl rfl rfl ?_
    refine g_skip rfl rfl rfl ?_
    refine g_skip rfl rfl rfl ?_
    refine g_u (s_pick_f rfl rfl rfl) ?_
    refine g_u (s_as_imm rfl rfl) ?_
    refine g_nil ?_
    refine normal_thn ?_
    refine aw_ret ?_
    exact ⟨⟨(rfl : toAV (Al.look _ _) = some _).trans (congrArg some (by (exact congrArg bv (by first | exact (decide_eq_false (fun e => q (by rw [e]))).symm | (rw [Bool.eq_iff_iff, sameAs_iff, decide_eq_true_iff]; exact ⟨fun h => GL.ext' g1 g2 g3 h, fun h => by rw [h]⟩))))), rfl⟩, trivial⟩

set_option maxHeartbeats 8000000 in
theorem psameS_c (a b : GSpan) (hw : a.wt ≤ 1000000000) : PCall Tryd.prog Γ0 90 [a.av, b.av] [bv (decide (a = b))] := by
  have qw : a.wt = 1 + a.state.size + a.name.size + a.note.size + wtAs a.attrs + sumBy GE.wt a.events + sumBy GL.wt a.links := rfl
  have ql := sumBy_len GE.wt (fun e => by unfold GE.wt; omega) a.events
  have qm := sumBy_len GL.wt (fun e => by unfold GL.wt; omega) a.links
  refine pcall_of Tryd.func90 rfl Tryd.ntmps90 (by kernel_rfl) rfl fun w0 I0 G0 => ?_
  refine aw_seq ?_
  refine aw_region ?_
  refine g_uG (s_box_imm 1002 rfl rfl rfl rfl) rfl ?_
  refine g_uG (s_box_imm 1003 rfl rfl rfl rfl) rfl ?_
  refine g_u (s_as_imm rfl rfl) ?_
  refine g_nil ?_
  refine normal_thn ?_
  refine aw_seq ?_
  refine aw_region ?_
  refine g_u (s_fieldAddr rfl rfl fa52_0 rfl) ?_
  refine g_u (s_load_imm rfl rfl rfl tA43 tS43 rfl rfl) ?_
  refine g_u (s_fieldAddr rfl rfl fa52_0 rfl) ?_
  refine g_u (s_load_imm rfl rfl rfl tA43 tS43 rfl rfl) ?_
  refine g_u (s_eqA rfl rfl rfl eg43 rfl rfl (eq43 _ _)) ?_
  refine g_u (s_mv_imm rfl rfl) ?_
  refine g_case (t := 11) rfl ?_
  rintro (hb1 | hb1)
  · rw [hb1]
    have e0 : a.trace = b.trace := by have e := hb1; simpa using e
    refine g_run rfl rfl (s_fieldAddr rfl rfl fa52_1 rfl) ?_
    refine g_run rfl rfl (s_load_imm rfl rfl rfl tA45 tS45 rfl rfl) ?_
    refine g_run rfl rfl (s_fieldAddr rfl rfl fa52_1 rfl) ?_
    refine g_run rfl rfl (s_load_imm rfl rfl rfl tA45 tS45 rfl rfl) ?_
    refine g_run rfl rfl (s_eqA rfl rfl rfl eg45 rfl rfl (eq45 _ _)) ?_
    refine g_u (s_pick_t rfl rfl rfl) ?_
    refine g_u (s_mv_imm rfl rfl) ?_
    refine g_case (t := 18) rfl ?_
    rintro (hb2 | hb2)
    · rw [hb2]
      have e1 : a.id = b.id := by have e := hb2; simpa using e
      refine g_run rfl rfl (s_fieldAddr rfl rfl fa52_2 rfl) ?_
      refine g_run rfl rfl (s_load_imm rfl rfl rfl tA45 tS45 rfl rfl) ?_
      refine g_run rfl rfl (s_fieldAddr rfl rfl fa52_2 rfl) ?_
      refine g_run rfl rfl (s_load_imm rfl rfl rfl tA45 tS45 rfl rfl) ?_
      refine g_run rfl rfl (s_eqA rfl rfl rfl eg45 rfl rfl (eq45 _ _)) ?_
      refine g_u (s_pick_t rfl rfl rfl) ?_
      refine g_u (s_mv_imm rfl rfl) ?_
      refine g_case (t := 25) rfl ?_
      rintro (hb3 | hb3)
      · rw [hb3]
        have e2 : a.parent = b.parent := by have e := hb3; simpa using e
        refine g_run rfl rfl (s_fieldAddr rfl rfl fa52_3 rfl) ?_
        refine g_run rfl rfl (s_load_imm rfl rfl rfl tA9 tS9 rfl rfl) ?_
        refine g_run rfl rfl (s_fieldAddr rfl rfl fa52_3 rfl) ?_
        refine g_run rfl rfl (s_load_imm rfl rfl rfl tA9 tS9 rfl rfl) ?_
        refine g_run rfl rfl (s_eqS rfl rfl rfl) ?_
        refine g_u (s_pick_t rfl rfl rfl) ?_
        refine g_u (s_mv_imm rfl rfl) ?_
        refine g_case (t := 32) rfl ?_
        rintro (hb4 | hb4)
        · rw [hb4]
          have e3 : a.state = b.state := by have e := hb4; rw [str_beq] at e; simpa using e
          refine g_run rfl rfl (s_fieldAddr rfl rfl fa52_4 rfl) ?_
          refine g_run rfl rfl (s_load_imm rfl rfl rfl tA9 tS9 rfl rfl) ?_
          refine g_run rfl rfl (s_fieldAddr rfl rfl fa52_4 rfl) ?_
          refine g_run rfl rfl (s_load_imm rfl rfl rfl tA9 tS9 rfl rfl) ?_
          refine g_run rfl rfl (s_eqS rfl rfl rfl) ?_
          refine g_u (s_pick_t rfl rfl rfl) ?_
          refine g_u (s_as_imm rfl rfl) ?_
          refine g_nil ?_
          refine normal_thn ?_
          refine aw_seq ?_
          refine aw_seq ?_
          refine aw_region ?_
          refine g_u (s_mv_imm rfl rfl) ?_
          refine g_u (s_not rfl rfl) ?_
          refine g_u (s_mv_imm rfl rfl) ?_
          refine g_case (t := 41) rfl ?_
          rintro (hb5 | hb5)
          · rw [hb5]
            have q : ¬ a.name = b.name := by have e := hb5; rw [str_beq] at e; simpa using e
            refine g_skip rfl rfl rfl ?_
            refine g_skip rfl rfl rfl ?_
            refine g_skip rfl rfl rfl ?_
            refine g_skip rfl rfl rfl ?_
            refine g_skip rfl rfl rfl ?_
            refine g_u (s_pick_t rfl rfl rfl) ?_
            refine g_u (s_mv_imm rfl rfl) ?_
            refine g_skip rfl rfl rfl ?_
            refine g_skip rfl rfl rfl ?_
            refine g_skip rfl rfl rfl ?_
            refine g_skip rfl rfl rfl ?_
            refine g_skip rfl rfl rfl ?_
            refine g_u (s_pick_t rfl rfl rfl) ?_
            refine g_u (s_mv_imm rfl rfl) ?_
            refine g_skip rfl rfl rfl ?_
            refine g_skip rfl rfl rfl ?_
            refine g_skip rfl rfl rfl ?_
            refine g_skip rfl rfl rfl ?_
            refine g_skip rfl rfl rfl ?_
            refine g_u (s_pick_t rfl rfl rfl) ?_
            refine g_u (s_mv_imm rfl rfl) ?_
            refine g_skip rfl rfl rfl ?_
            refine g_skip rfl rfl rfl ?_
            refine g_skip rfl rfl rfl ?_
            refine g_skip rfl rfl rfl ?_
            refine g_skip rfl rfl rfl ?_
            refine g_u (s_pick_t rfl rfl rfl) ?_
            refine g_u (s_mv_imm rfl rfl) ?_
            refine g_skip rfl rfl rfl ?_
            refine g_skip rfl rfl rfl ?_
            refine g_skip rfl rfl rfl ?_
            refine g_skip rfl rfl rfl ?_
            refine g_skip rfl rfl rfl ?_
            refine g_skip rfl rfl rfl ?_
            refine g_u (s_pick_t rfl rfl rfl) ?_
            refine g_nil ?_
            refine normal_thn ?_
            refine aw_cond_true rfl ?_
            refine aw_seq ?_
            refine aw_region ?_
            refine g_u (s_as_imm rfl rfl) ?_
            refine g_nil ?_
            refine normal_thn ?_
            refine aw_ret ?_
            refine ret_thn ?_
            exact ⟨⟨(rfl : toAV (Al.look _ _) = some _).trans (congrArg some (by (exact congrArg bv (by first | exact (decide_eq_false (fun e => q ⟨congrArg GSpan.code e, congrArg GSpan.note e⟩)).symm | exact (decide_eq_false (fun e => q (by rw [e]))).symm | (rw [Bool.eq_iff_iff, decide_eq_true_iff, decide_eq_true_iff]; exact ⟨fun h => GSpan.ext' e0 e1 e2 e3 e4 e5 e6 e7 e9 e10 h e8.1 e8.2, fun h => by rw [h]⟩))))), rfl⟩, trivial⟩
          · rw [hb5]
            have e4 : a.name = b.name := by have e := hb5; rw [str_beq] at e; simpa using e
            refine g_run rfl rfl (s_fieldAddr rfl rfl fa52_5 rfl) ?_
            refine g_run rfl rfl (s_load_imm rfl rfl rfl tA3 tS3 rfl rfl) ?_
            refine g_run rfl rfl (s_fieldAddr rfl rfl fa52_5 rfl) ?_
            refine g_run rfl rfl (s_load_imm rfl rfl rfl tA3 tS3 rfl rfl) ?_
            refine g_run rfl rfl (s_neI rfl rfl rfl) ?_
            refine g_u (s_pick_f rfl rfl rfl) ?_
            refine g_u (s_mv_imm rfl rfl) ?_
            refine g_case (t := 48) rfl ?_
            rintro (hb6 | hb6)
            · rw [hb6]
              have q : ¬ a.kind = b.kind := bne_iff_ne.1 hb6
              refine g_skip rfl rfl rfl ?_
              refine g_skip rfl rfl rfl ?_
              refine g_skip rfl rfl rfl ?_
              refine g_skip rfl rfl rfl ?_
              refine g_skip rfl rfl rfl ?_
              refine g_u (s_pick_t rfl rfl rfl) ?_
              refine g_u (s_mv_imm rfl rfl) ?_
              refine g_skip rfl rfl rfl ?_
              refine g_skip rfl rfl rfl ?_
              refine g_skip rfl rfl rfl ?_
              refine g_skip rfl rfl rfl ?_
              refine g_skip rfl rfl rfl ?_
              refine g_u (s_pick_t rfl rfl rfl) ?_
              refine g_u (s_mv_imm rfl rfl) ?_
              refine g_skip rfl rfl rfl ?_
              refine g_skip rfl rfl rfl ?_
              refine g_skip rfl rfl rfl ?_
              refine g_skip rfl rfl rfl ?_
              refine g_skip rfl rfl rfl ?_
              refine g_u (s_pick_t rfl rfl rfl) ?_
              refine g_u (s_mv_imm rfl rfl) ?_
              refine g_skip rfl rfl rfl ?_
              refine g_skip rfl rfl rfl ?_
              refine g_skip rfl rfl rfl ?_
              refine g_skip rfl rfl rfl ?_
              refine g_skip rfl rfl rfl ?_
              refine g_skip rfl rfl rfl ?_
              refine g_u (s_pick_t rfl rfl rfl) ?_
              refine g_nil ?_
              refine normal_thn ?_
              refine aw_cond_true rfl ?_
              refine aw_seq ?_
              refine aw_region ?_
              refine g_u (s_as_imm rfl rfl) ?_
              refine g_nil ?_
              refine normal_thn ?_
              refine aw_ret ?_
              refine ret_thn ?_
              exact ⟨⟨(rfl : toAV (Al.look _ _) = some _).trans (congrArg some (by (exact congrArg bv (by first | exact (decide_eq_false (fun e => q ⟨congrArg GSpan.code e, congrArg GSpan.note e⟩)).symm | exact (decide_eq_false (fun e => q (by rw [e]))).symm | (rw [Bool.eq_iff_iff, decide_eq_true_iff, decide_eq_true_iff]; exact ⟨fun h => GSpan.ext' e0 e1 e2 e3 e4 e5 e6 e7 e9 e10 h e8.1 e8.2, fun h => by rw [h]⟩))))), rfl⟩, trivial⟩
            · rw [hb6]
              have e5 : a.kind = b.kind := bne_eq_false_iff_eq.1 hb6
              refine g_run rfl rfl (s_fieldAddr rfl rfl fa52_6 rfl) ?_
              refine g_run rfl rfl (s_load_imm rfl rfl rfl tA46 tS46 rfl rfl) ?_
              refine g_run rfl rfl (s_fieldAddr rfl rfl fa52_6 rfl) ?_
              refine g_run rfl rfl (s_load_imm rfl rfl rfl tA46 tS46 rfl rfl) ?_
              refine g_run rfl rfl (s_neI rfl rfl rfl) ?_
              refine g_u (s_pick_f rfl rfl rfl) ?_
              refine g_u (s_mv_imm rfl rfl) ?_
              refine g_case (t := 55) rfl ?_
              rintro (hb7 | hb7)
              · rw [hb7]
                have q : ¬ a.start = b.start := bne_iff_ne.1 hb7
                refine g_skip rfl rfl rfl ?_
                refine g_skip rfl rfl rfl ?_
                refine g_skip rfl rfl rfl ?_
                refine g_skip rfl rfl rfl ?_
                refine g_skip rfl rfl rfl ?_
                refine g_u (s_pick_t rfl rfl rfl) ?_
                refine g_u (s_mv_imm rfl rfl) ?_
                refine g_skip rfl rfl rfl ?_
                refine g_skip rfl rfl rfl ?_
                refine g_skip rfl rfl rfl ?_
                refine g_skip rfl rfl rfl ?_
                refine g_skip rfl rfl rfl ?_
                refine g_u (s_pick_t rfl rfl rfl) ?_
                refine g_u (s_mv_imm rfl rfl) ?_
                refine g_skip rfl rfl rfl ?_
                refine g_skip rfl rfl rfl ?_
                refine g_skip rfl rfl rfl ?_
                refine g_skip rfl rfl rfl ?_
                refine g_skip rfl rfl rfl ?_
                refine g_skip rfl rfl rfl ?_
                refine g_u (s_pick_t rfl rfl rfl) ?_
                refine g_nil ?_
                refine normal_thn ?_
                refine aw_cond_true rfl ?_
                refine aw_seq ?_
                refine aw_region ?_
                refine g_u (s_as_imm rfl rfl) ?_
                refine g_nil ?_
                refine normal_thn ?_
                refine aw_ret ?_
                refine ret_thn ?_
                exact ⟨⟨(rfl : toAV (Al.look _ _) = some _).trans (congrArg some (by (exact congrArg bv (by first | exact (decide_eq_false (fun e => q ⟨congrArg GSpan.code e, congrArg GSpan.note e⟩)).symm | exact (decide_eq_false (fun e => q (by rw [e]))).symm | (rw [Bool.eq_iff_iff, decide_eq_true_iff, decide_eq_true_iff]; exact ⟨fun h => GSpan.ext' e0 e1 e2 e3 e4 e5 e6 e7 e9 e10 h e8.1 e8.2, fun h => by rw [h]⟩))))), rfl⟩, trivial⟩
              · rw [hb7]
                have e6 : a.start = b.start := bne_eq_false_iff_eq.1 hb7
                refine g_run rfl rfl (s_fieldAddr rfl rfl fa52_7 rfl) ?_
                refine g_run rfl rfl (s_load_imm rfl rfl rfl tA46 tS46 rfl rfl) ?_
                refine g_run rfl rfl (s_fieldAddr rfl rfl fa52_7 rfl) ?_
                refine g_run rfl rfl (s_load_imm rfl rfl rfl tA46 tS46 rfl rfl) ?_
                refine g_run rfl rfl (s_neI rfl rfl rfl) ?_
                refine g_u (s_pick_f rfl rfl rfl) ?_
                refine g_u (s_mv_imm rfl rfl) ?_
                refine g_case (t := 62) rfl ?_
                rintro (hb8 | hb8)
                · rw [hb8]
                  have q : ¬ a.fin = b.fin := bne_iff_ne.1 hb8
                  refine g_skip rfl rfl rfl ?_
                  refine g_skip rfl rfl rfl ?_
                  refine g_skip rfl rfl rfl ?_
                  refine g_skip rfl rfl rfl ?_
                  refine g_skip rfl rfl rfl ?_
                  refine g_u (s_pick_t rfl rfl rfl) ?_
                  refine g_u (s_mv_imm rfl rfl) ?_
                  refine g_skip rfl rfl rfl ?_
                  refine g_skip rfl rfl rfl ?_
                  refine g_skip rfl rfl rfl ?_
                  refine g_skip rfl rfl rfl ?_
                  refine g_skip rfl rfl rfl ?_
                  refine g_skip rfl rfl rfl ?_
                  refine g_u (s_pick_t rfl rfl rfl) ?_
                  refine g_nil ?_
                  refine normal_thn ?_
                  refine aw_cond_true rfl ?_
                  refine aw_seq ?_
                  refine aw_region ?_
                  refine g_u (s_as_imm rfl rfl) ?_
                  refine g_nil ?_
                  refine normal_thn ?_
                  refine aw_ret ?_
                  refine ret_thn ?_
                  exact ⟨⟨(rfl : toAV (Al.look _ _) = some _).trans (congrArg some (by (exact congrArg bv (by first | exact (decide_eq_false (fun e => q ⟨congrArg GSpan.code e, congrArg GSpan.note e⟩)).symm | exact (decide_eq_false (fun e => q (by rw [e]))).symm | (rw [Bool.eq_iff_iff, decide_eq_true_iff, decide_eq_true_iff]; exact ⟨fun h => GSpan.ext' e0 e1 e2 e3 e4 e5 e6 e7 e9 e10 h e8.1 e8.2, fun h => by rw [h]⟩))))), rfl⟩, trivial⟩
                · rw [hb8]
                  have e7 : a.fin = b.fin := bne_eq_false_iff_eq.1 hb8
                  refine g_run rfl rfl (s_fieldAddr rfl rfl fa52_11 rfl) ?_
                  refine g_run rfl rfl (s_load_imm rfl rfl rfl tA50 tS50 rfl rfl) ?_
                  refine g_run rfl rfl (s_fieldAddr rfl rfl fa52_11 rfl) ?_
                  refine g_run rfl rfl (s_load_imm rfl rfl rfl tA50 tS50 rfl rfl) ?_
                  refine g_run rfl rfl (s_neA rfl rfl rfl eg50 rfl rfl (eq50 _ _ _ _)) ?_
                  refine g_u (s_pick_f rfl rfl rfl) ?_
                  refine g_u (s_mv_imm rfl rfl) ?_
                  refine g_case (t := 69) rfl ?_
                  rintro (hb9 | hb9)
                  · rw [hb9]
                    have q : ¬ (a.code = b.code ∧ a.note = b.note) := fun h => by have e := hb9; rw [str_beq, h.1, h.2] at e; simp at e
                    refine g_skip rfl rfl rfl ?_
                    refine g_skip rfl rfl rfl ?_
                    refine g_skip rfl rfl rfl ?_
                    refine g_skip rfl rfl rfl ?_
                    refine g_skip rfl rfl rfl ?_
                    refine g_skip rfl rfl rfl ?_
                    refine g_u (s_pick_t rfl rfl rfl) ?_
                    refine g_nil ?_
                    refine normal_thn ?_
                    refine aw_cond_true rfl ?_
                    refine aw_seq ?_
                    refine aw_region ?_
                    refine g_u (s_as_imm rfl rfl) ?_
                    refine g_nil ?_
                    refine normal_thn ?_
                    refine aw_ret ?_
                    refine ret_thn ?_
                    exact ⟨⟨(rfl : toAV (Al.look _ _) = some _).trans (congrArg some (by (exact congrArg bv (by first | exact (decide_eq_false (fun e => q ⟨congrArg GSpan.code e, congrArg GSpan.note e⟩)).symm | exact (decide_eq_false (fun e => q (by rw [e]))).symm | (rw [Bool.eq_iff_iff, decide_eq_true_iff, decide_eq_true_iff]; exact ⟨fun h => GSpan.ext' e0 e1 e2 e3 e4 e5 e6 e7 e9 e10 h e8.1 e8.2, fun h => by rw [h]⟩))))), rfl⟩, trivial⟩
                  · rw [hb9]
                    have e8 : a.code = b.code ∧ a.note = b.note := by have e := hb9; rw [str_beq] at e; simpa using e
                    refine g_run rfl rfl (s_fieldAddr rfl rfl fa52_8 rfl) ?_
                    refine g_run rfl rfl (s_load_imm rfl rfl rfl tA30 tS30 rfl rfl) ?_
                    refine g_run rfl rfl (s_fieldAddr rfl rfl fa52_8 rfl) ?_
                    refine g_run rfl rfl (s_load_imm rfl rfl rfl tA30 tS30 rfl rfl) ?_
                    refine g_run rfl rfl (s_call1 (psameAs_c a.attrs b.attrs (by omega)) rfl rfl) ?_
                    refine g_run rfl rfl (s_not rfl rfl) ?_
                    refine g_u (s_pick_f rfl rfl rfl) ?_
                    refine g_nil ?_
                    refine normal_thn ?_
                    refine aw_cond rfl (fun hb10 => ?_) (fun hb10 => ?_)
                    · skip
                      have q : ¬ a.attrs = b.attrs := fun h => by have e := hb10; rw [h, sameAs_refl] at e; cases e
                      refine aw_seq ?_
                      refine aw_region ?_
                      refine g_u (s_as_imm rfl rfl) ?_
                      refine g_nil ?_
                      refine normal_thn ?_
                      refine aw_ret ?_
                      refine ret_thn ?_
                      exact ⟨⟨(rfl : toAV (Al.look _ _) = some _).trans (congrArg some (by (exact congrArg bv (by first | exact (decide_eq_false (fun e => q ⟨congrArg GSpan.code e, congrArg GSpan.note e⟩)).symm | exact (decide_eq_false (fun e => q (by rw [e]))).symm | (rw [Bool.eq_iff_iff, decide_eq_true_iff, decide_eq_true_iff]; exact ⟨fun h => GSpan.ext' e0 e1 e2 e3 e4 e5 e6 e7 e9 e10 h e8.1 e8.2, fun h => by rw [h]⟩))))), rfl⟩, trivial⟩
                    · skip
                      have e9 : a.attrs = b.attrs := (sameAs_iff _ _).1 (by have e := hb10; simpa using e)
                      refine aw_skip ?_
                      refine normal_thn ?_
                      refine aw_seq ?_
                      refine aw_region ?_
                      refine g_u (s_fieldAddr rfl rfl fa52_9 rfl) ?_
                      refine g_u (s_load_imm rfl rfl rfl tA47 tS47 rfl rfl) ?_
                      refine g_u (s_fieldAddr rfl rfl fa52_9 rfl) ?_
                      refine g_u (s_load_imm rfl rfl rfl tA47 tS47 rfl rfl) ?_
                      refine g_u (s_call1 (eqdE_c a.events b.events 107 (by omega) (fun x hx y => sameE_c x y (by have h5 := sumBy_mem GE.wt hx; have h6 : x.wt = 1 + x.name.size + wtAs x.attrs := rfl; omega))) rfl rfl) ?_
                      refine g_u (s_mv_imm rfl rfl) ?_
                      refine g_case (t := 82) rfl ?_
                      rintro (hb11 | hb11)
                      · rw [hb11]
                        have e10 : a.events = b.events := of_decide_eq_true hb11
                        refine g_run rfl rfl (s_fieldAddr rfl rfl fa52_10 rfl) ?_
                        refine g_run rfl rfl (s_load_imm rfl rfl rfl tA48 tS48 rfl rfl) ?_
                        refine g_run rfl rfl (s_fieldAddr rfl rfl fa52_10 rfl) ?_
                        refine g_run rfl rfl (s_load_imm rfl rfl rfl tA48 tS48 rfl rfl) ?_
                        refine g_run rfl rfl (s_call1 (eqdL_c a.links b.links 109 (by omega) (fun x hx y => sameL_c x y (by have h5 := sumBy_mem GL.wt hx; have h6 : x.wt = 1 + x.state.size + wtAs x.attrs := rfl; omega))) rfl rfl) ?_
                        refine g_u (s_pick_t rfl rfl rfl) ?_
                        refine g_u (s_as_imm rfl rfl) ?_
                        refine g_nil ?_
                        refine normal_thn ?_
                        refine aw_ret ?_
                        exact ⟨⟨(rfl : toAV (Al.look _ _) = some _).trans (congrArg some (by (exact congrArg bv (by first | exact (decide_eq_false (fun e => q ⟨congrArg GSpan.code e, congrArg GSpan.note e⟩)).symm | exact (decide_eq_false (fun e => q (by rw [e]))).symm | (rw [Bool.eq_iff_iff, decide_eq_true_iff, decide_eq_true_iff]; exact ⟨fun h => GSpan.ext' e0 e1 e2 e3 e4 e5 e6 e7 e9 e10 h e8.1 e8.2, fun h => by rw [h]⟩))))), rfl⟩, trivial⟩
                      · rw [hb11]
                        have q : ¬ a.events = b.events := of_decide_eq_false hb11
                        refine g_skip rfl rfl rfl ?_
                        refine g_skip rfl rfl rfl ?_
                        refine g_skip rfl rfl rfl ?_
                        refine g_skip rfl rfl rfl ?_
                        refine g_skip rfl rfl rfl ?_
                        refine g_u (s_pick_f rfl rfl rfl) ?_
                        refine g_u (s_as_imm rfl rfl) ?_
                        refine g_nil ?_
                        refine normal_thn ?_
                        refine aw_ret ?_
                        exact ⟨⟨(rfl : toAV (Al.look _ _) = some _).trans (congrArg some (by (exact congrArg bv (by first | exact (decide_eq_false (fun e => q ⟨congrArg GSpan.code e, congrArg GSpan.note e⟩)).symm | exact (decide_eq_false (fun e => q (by rw [e]))).symm | (rw [Bool.eq_iff_iff, decide_eq_true_iff, decide_eq_true_iff]; exact ⟨fun h => GSpan.ext' e0 e1 e2 e3 e4 e5 e6 e7 e9 e10 h e8.1 e8.2, fun h => by rw [h]⟩))))), rfl⟩, trivial⟩
        · rw [hb4]
          have q : ¬ a.state = b.state := by have e := hb4; rw [str_beq] at e; simpa using e
          refine g_skip rfl rfl rfl ?_
          refine g_skip rfl rfl rfl ?_
          refine g_skip rfl rfl rfl ?_
          refine g_skip rfl rfl rfl ?_
          refine g_skip rfl rfl rfl ?_
          refine g_u (s_pick_f rfl rfl rfl) ?_
          refine g_u (s_as_imm rfl rfl) ?_
          refine g_nil ?_
          refine normal_thn ?_
          refine aw_seq ?_
          refine aw_seq ?_
          refine aw_region ?_
          refine g_u (s_mv_imm rfl rfl) ?_
          refine g_u (s_not rfl rfl) ?_
          refine g_u (s_mv_imm rfl rfl) ?_
          refine g_skip rfl rfl rfl ?_
          refine g_skip rfl rfl rfl ?_
          refine g_skip rfl rfl rfl ?_
          refine g_skip rfl rfl rfl ?_
          refine g_skip rfl rfl rfl ?_
          refine g_u (s_pick_t rfl rfl rfl) ?_
          refine g_u (s_mv_imm rfl rfl) ?_
          refine g_skip rfl rfl rfl ?_
          refine g_skip rfl rfl rfl ?_
          refine g_skip rfl rfl rfl ?_
          refine g_skip rfl rfl rfl ?_
          refine g_skip rfl rfl rfl ?_
          refine g_u (s_pick_t rfl rfl rfl) ?_
          refine g_u (s_mv_imm rfl rfl) ?_
          refine g_skip rfl rfl rfl ?_
          refine g_skip rfl rfl rfl ?_
          refine g_skip rfl rfl rfl ?_
          refine g_skip rfl rfl rfl ?_
          refine g_skip rfl rfl rfl ?_
          refine g_u (s_pick_t rfl rfl rfl) ?_
          refine g_u (s_mv_imm rfl rfl) ?_
          refine g_skip rfl rfl rfl ?_
          refine g_skip rfl rfl rfl ?_
          refine g_skip rfl rfl rfl ?_
          refine g_skip rfl rfl rfl ?_
          refine g_skip rfl rfl rfl ?_
          refine g_u (s_pick_t rfl rfl rfl) ?_
          refine g_u (s_mv_imm rfl rfl) ?_
          refine g_skip rfl rfl rfl ?_
          refine g_skip rfl rfl rfl ?_
          refine g_skip rfl rfl rfl ?_
          refine g_skip rfl rfl rfl ?_
          refine g_skip rfl rfl rfl ?_
          refine g_skip rfl rfl rfl ?_
          refine g_u (s_pick_t rfl rfl rfl) ?_
          refine g_nil ?_
          refine normal_thn ?_
          refine aw_cond_true rfl ?_
          refine aw_seq ?_
          refine aw_region ?_
          refine g_u (s_as_imm rfl rfl) ?_
          refine g_nil ?_
          refine normal_thn ?_
          refine aw_ret ?_
          refine ret_thn ?_
          exact ⟨⟨(rfl : toAV (Al.look _ _) = some _).trans (congrArg some (by (exact congrArg bv (by first | exact (decide_eq_false (fun e => q ⟨congrArg GSpan.code e, congrArg GSpan.note e⟩)).symm | exact (decide_eq_false (fun e => q (by rw [e]))).symm | (rw [Bool.eq_iff_iff, decide_eq_true_iff, decide_eq_true_iff]; exact ⟨fun h => GSpan.ext' e0 e1 e2 e3 e4 e5 e6 e7 e9 e10 h e8.1 e8.2, fun h => by rw [h]⟩))))), rfl⟩, trivial⟩
      · rw [hb3]
        have q : ¬ a.parent = b.parent := by have e := hb3; simpa using e
        refine g_skip rfl rfl rfl ?_
        refine g_skip rfl rfl rfl ?_
        refine g_skip rfl rfl rfl ?_
        refine g_skip rfl rfl rfl ?_
        refine g_skip rfl rfl rfl ?_
        refine g_u (s_pick_f rfl rfl rfl) ?_
        refine g_u (s_mv_imm rfl rfl) ?_
        refine g_skip rfl rfl rfl ?_
        refine g_skip rfl rfl rfl ?_
        refine g_skip rfl rfl rfl ?_
        refine g_skip rfl rfl rfl ?_
        refine g_skip rfl rfl rfl ?_
        refine g_u (s_pick_f rfl rfl rfl) ?_
        refine g_u (s_as_imm rfl rfl) ?_
        refine g_nil ?_
        refine normal_thn ?_
        refine aw_seq ?_
        refine aw_seq ?_
        refine aw_region ?_
        refine g_u (s_mv_imm rfl rfl) ?_
        refine g_u (s_not rfl rfl) ?_
        refine g_u (s_mv_imm rfl rfl) ?_
        refine g_skip rfl rfl rfl ?_
        refine g_skip rfl rfl rfl ?_
        refine g_skip rfl rfl rfl ?_
        refine g_skip rfl rfl rfl ?_
        refine g_skip rfl rfl rfl ?_
        refine g_u (s_pick_t rfl rfl rfl) ?_
        refine g_u (s_mv_imm rfl rfl) ?_
        refine g_skip rfl rfl rfl ?_
        refine g_skip rfl rfl rfl ?_
        refine g_skip rfl rfl rfl ?_
        refine g_skip rfl rfl rfl ?_
        refine g_skip rfl rfl rfl ?_
        refine g_u (s_pick_t rfl rfl rfl) ?_
        refine g_u (s_mv_imm rfl rfl) ?_
        refine g_skip rfl rfl rfl ?_
        refine g_skip rfl rfl rfl ?_
        refine g_skip rfl rfl rfl ?_
        refine g_skip rfl rfl rfl ?_
        refine g_skip rfl rfl rfl ?_
        refine g_u (s_pick_t rfl rfl rfl) ?_
        refine g_u (s_mv_imm rfl rfl) ?_
        refine g_skip rfl rfl rfl ?_
        refine g_skip rfl rfl rfl ?_
        refine g_skip rfl rfl rfl ?_
        refine g_skip rfl rfl rfl ?_
        refine g_skip rfl rfl rfl ?_
        refine g_u (s_pick_t rfl rfl rfl) ?_
        refine g_u (s_mv_imm rfl rfl) ?_
        refine g_skip rfl rfl rfl ?_
        refine g_skip rfl rfl rfl ?_
        refine g_skip rfl rfl rfl ?_
        refine g_skip rfl rfl rfl ?_
        refine g_skip rfl rfl rfl ?_
        refine g_skip rfl rfl rfl ?_
        refine g_u (s_pick_t rfl rfl rfl) ?_
        refine g_nil ?_
        refine normal_thn ?_
        refine aw_cond_true rfl ?_
        refine aw_seq ?_
        refine aw_region ?_
        refine g_u (s_as_imm rfl rfl) ?_
        refine g_nil ?_
        refine normal_thn ?_
        refine aw_ret ?_
        refine ret_thn ?_
        exact ⟨⟨(rfl : toAV (Al.look _ _) = some _).trans (congrArg some (by (exact congrArg bv (by first | exact (decide_eq_false (fun e => q ⟨congrArg GSpan.code e, congrArg GSpan.note e⟩)).symm | exact (decide_eq_false (fun e => q (by rw [e]))).symm | (rw [Bool.eq_iff_iff, decide_eq_true_iff, decide_eq_true_iff]; exact ⟨fun h => GSpan.ext' e0 e1 e2 e3 e4 e5 e6 e7 e9 e10 h e8.1 e8.2, fun h => by rw [h]⟩))))), rfl⟩, trivial⟩
    · rw [hb2]
      have q : ¬ a.id = b.id := by have e := hb2; simpa using e
      refine g_skip rfl rfl rfl ?_
      refine g_skip rfl rfl rfl ?_
      refine g_skip rfl rfl rfl ?_
      refine g_skip rfl rfl rfl ?_
      refine g_skip rfl rfl rfl ?_
      refine g_u (s_pick_f rfl rfl rfl) ?_
      refine g_u (s_mv_imm rfl rfl) ?_
      refine g_skip rfl rfl rfl ?_
      refine g_skip rfl rfl rfl ?_
      refine g_skip rfl rfl rfl ?_
      refine g_skip rfl rfl rfl ?_
      refine g_skip rfl rfl rfl ?_
      refine g_u (s_pick_f rfl rfl rfl) ?_
      refine g_u (s_mv_imm rfl rfl) ?_
      refine g_skip rfl rfl rfl ?_
      refine g_skip rfl rfl rfl ?_
      refine g_skip rfl rfl rfl ?_
      refine g_skip rfl rfl rfl ?_
      refine g_skip rfl rfl rfl ?_
      refine g_u (s_pick_f rfl rfl rfl) ?_
      refine g_u (s_as_imm rfl rfl) ?_
      refine g_nil ?_
      refine normal_thn ?_
      refine aw_seq ?_
      refine aw_seq ?_
      refine aw_region ?_
      refine g_u (s_mv_imm rfl rfl) ?_
      refine g_u (s_not rfl rfl) ?_
      refine g_u (s_mv_imm rfl rfl) ?_
      refine g_skip rfl rfl rfl ?_
      refine g_skip rfl rfl rfl ?_
      refine g_skip rfl rfl rfl ?_
      refine g_skip rfl rfl rfl ?_
      refine g_skip rfl rfl rfl ?_
      refine g_u (s_pick_t rfl rfl rfl) ?_
      refine g_u (s_mv_imm rfl rfl) ?_
      refine g_skip rfl rfl rfl ?_
      refine g_skip rfl rfl rfl ?_
      refine g_skip rfl rfl rfl ?_
      refine g_skip rfl rfl rfl ?_
      refine g_skip rfl rfl rfl ?_
      refine g_u (s_pick_t rfl rfl rfl) ?_
      refine g_u (s_mv_imm rfl rfl) ?_
      refine g_skip rfl rfl rfl ?_
      refine g_skip rfl rfl rfl ?_
      refine g_skip rfl rfl rfl ?_
      refine g_skip rfl rfl rfl ?_
      refine g_skip rfl rfl rfl ?_
      refine g_u (s_pick_t rfl rfl rfl) ?_
      refine g_u (s_mv_imm rfl rfl) ?_
      refine g_skip rfl rfl rfl ?_
      refine g_skip rfl rfl rfl ?_
      refine g_skip rfl rfl rfl ?_
      refine g_skip rfl rfl rfl ?_
      refine g_skip rfl rfl rfl ?_
      refine g_u (s_pick_t rfl rfl rfl) ?_
      refine g_u (s_mv_imm rfl rfl) ?_
      refine g_skip rfl rfl rfl ?_
      refine g_skip rfl rfl rfl ?_
      refine g_skip rfl rfl rfl ?_
      refine g_skip rfl rfl rfl ?_
      refine g_skip rfl rfl rfl ?_
      refine g_skip rfl rfl rfl ?_
      refine g_u (s_pick_t rfl rfl rfl) ?_
      refine g_nil ?_
      refine normal_thn ?_
      refine aw_cond_true rfl ?_
      refine aw_seq ?_
      refine aw_region ?_
      refine g_u (s_as_imm rfl rfl) ?_
      refine g_nil ?_
      refine normal_thn ?_
      refine aw_ret ?_
      refine ret_thn ?_
      exact ⟨⟨(rfl : toAV (Al.look _ _) = some _).trans (congrArg some (by (exact congrArg bv (by first | exact (decide_eq_false (fun e => q ⟨congrArg GSpan.code e, congrArg GSpan.note e⟩)).symm | exact (decide_eq_false (fun e => q (by rw [e]))).symm | (rw [Bool.eq_iff_iff, decide_eq_true_iff, decide_eq_true_iff]; exact ⟨fun h => GSpan.ext' e0 e1 e2 e3 e4 e5 e6 e7 e9 e10 h e8.1 e8.2, fun h => by rw [h]⟩))))), rfl⟩, trivial⟩
  · rw [hb1]
    have q : ¬ a.trace = b.trace := by have e := hb1; simpa using e
    refine g_skip rfl rfl rfl ?_
    refine g_skip rfl rfl rfl ?_
    refine g_skip rfl rfl rfl ?_
    refine g_skip rfl rfl rfl ?_
    refine g_skip rfl rfl rfl ?_
    refine g_u (s_pick_f rfl rfl rfl) ?_
    refine g_u (s_mv_imm rfl rfl) ?_
    refine g_skip rfl rfl rfl ?_
    refine g_skip rfl rfl rfl ?_
    refine g_skip rfl rfl rfl ?_
    refine g_skip rfl rfl rfl ?_
    refine g_skip rfl rfl rfl ?_
    refine g_u (s_pick_f rfl rfl rfl) ?_
    refine g_u (s_mv_imm rfl rfl) ?_
    refine g_skip rfl rfl rfl ?_
    refine g_skip rfl rfl rfl ?_
    refine g_skip rfl rfl rfl ?_
    refine g_skip rfl rfl rfl ?_
    refine g_skip rfl rfl rfl ?_
    refine g_u (s_pick_f rfl rfl rfl) ?_
    refine g_u (s_mv_imm rfl rfl) ?_
    refine g_skip rfl rfl rfl ?_
    refine g_skip rfl rfl rfl ?_
    refine g_skip rfl rfl rfl ?_
    refine g_skip rfl rfl rfl ?_
    refine g_skip rfl rfl rfl ?_
    refine g_u (s_pick_f rfl rfl rfl) ?_
    refine g_u (s_as_imm rfl rfl) ?_
    refine g_nil ?_
    refine normal_thn ?_
    refine aw_seq ?_
    refine aw_seq ?_
    refine aw_region ?_
    refine g_u (s_mv_imm rfl rfl) ?_
    refine g_u (s_not rfl rfl) ?_
    refine g_u (s_mv_imm rfl rfl) ?_
    refine g_skip rfl rfl rfl ?_
    refine g_skip rfl rfl rfl ?_
    refine g_skip rfl rfl rfl ?_
    refine g_skip rfl rfl rfl ?_
    refine g_skip rfl rfl rfl ?_
    refine g_u (s_pick_t rfl rfl rfl) ?_
    refine g_u (s_mv_imm rfl rfl) ?_
    refine g_skip rfl rfl rfl ?_
    refine g_skip rfl rfl rfl ?_
    refine g_skip rfl rfl rfl ?_
    refine g_skip rfl rfl rfl ?_
    refine g_skip rfl rfl rfl ?_
    refine g_u (s_pick_t rfl rfl rfl) ?_
    refine g_u (s_mv_imm rfl rfl) ?_
    refine g_skip rfl rfl rfl ?_
    refine g_skip rfl rfl rfl ?_
    refine g_skip rfl rfl rfl ?_
    refine g_skip rfl rfl rfl ?_
    refine g_skip rfl rfl rfl ?_
    refine g_u (s_pick_t rfl rfl rfl) ?_
    refine g_u (s_mv_imm rfl rfl) ?_
    refine g_skip rfl rfl rfl ?_
    refine g_skip rfl rfl rfl ?_
    refine g_skip rfl rfl rfl ?_
    refine g_skip rfl rfl rfl ?_
    refine g_skip rfl rfl rfl ?_
    refine g_u (s_pick_t rfl rfl rfl) ?_
    refine g_u (s_mv_imm rfl rfl) ?_
    refine g_skip rfl rfl rfl ?_
    refine g_skip rfl rfl rfl ?_
    refine g_skip rfl rfl rfl ?_
    refine g_skip rfl rfl rfl ?_
    refine g_skip rfl rfl rfl ?_
    refine g_skip rfl rfl rfl ?_
    refine g_u (s_pick_t rfl rfl rfl) ?_
    refine g_nil ?_
    refine normal_thn ?_
    refine aw_cond_true rfl ?_
    refine aw_seq ?_
    refine aw_region ?_
    refine g_u (s_as_imm rfl rfl) ?_
    refine g_nil ?_
    refine normal_thn ?_
    refine aw_ret ?_
    refine ret_thn ?_
    exact ⟨⟨(rfl : toAV (Al.look _ _) = some _).trans (congrArg some (by (exact congrArg bv (by first | exact (decide_eq_false (fun e => q ⟨congrArg GSpan.code e, congrArg GSpan.note e⟩)).symm | exact (decide_eq_false (fun e => q (by rw [e]))).symm | (rw [Bool.eq_iff_iff, decide_eq_true_iff, decide_eq_true_iff]; exact ⟨fun h => GSpan.ext' e0 e1 e2 e3 e4 e5 e6 e7 e9 e10 h e8.1 e8.2, fun h => by rw [h]⟩))))), rfl⟩, trivial⟩

end Go.Proofs

namespace Go.Proofs
open Go Go.Al
set_option maxRecDepth 10000
set_option maxHeartbeats 8000000 in
theorem pcanonS_c (s : GSpan) (hw : s.wt ≤ 1000000) : PCall Tryd.prog Γ0 62 [s.av] [(canonS s).av] := by
  have qw : s.wt = 1 + s.state.size + s.name.size + s.note.size + wtAs s.attrs + sumBy GE.wt s.events + sumBy GL.wt s.links := rfl
  have ql := sumBy_len GE.wt (fun e => by unfold GE.wt; omega) s.events
  have qm := sumBy_len GL.wt (fun e => by unfold GL.wt; omega) s.links
  refine pcall_of Tryd.func62 rfl Tryd.ntmps62 (by kernel_rfl) rfl fun w0 I0 G0 => ?_
  refine aw_seq ?_
  refine aw_region ?_
  refine g_uG (s_box_imm 1001 rfl rfl rfl rfl) rfl ?_
  refine g_uG (s_alloc' 1002 rfl rfl rfl tZ52) rfl ?_
  refine g_nil ?_
  refine normal_thn ?_
  refine aw_seq ?_
  refine aw_region ?_
  refine g_u (s_fieldAddr rfl rfl fa52_8 rfl) ?_
  refine g_u (s_load_imm rfl rfl rfl tA30 tS30 rfl rfl) ?_
  refine g_u (s_call1 (pcanonAs_c s.attrs (by omega)) rfl rfl) ?_
  refine g_u (s_fieldAddr rfl rfl fa52_8 rfl) ?_
  refine g_u (s_store_imm rfl rfl rfl tS30 rfl rfl) ?_
  refine g_nil ?_
  refine normal_thn ?_
  refine aw_pack 1001 rfl rfl ?_
  refine aw_seq ?_
  refine aw_region ?_
  refine g_u (s_as_imm rfl rfl) ?_
  refine g_nil ?_
  refine normal_thn ?_
  refine aw_newtok 3003 3 3 rfl rfl rfl rfl ?_
  refine aw_seq ?_
  refine aw_seq ?_
  refine aw_region ?_
  refine g_u (s_fieldAddr rfl rfl fa52_9 rfl) ?_
  refine g_u (s_load_imm rfl rfl rfl tA47 tS47 rfl rfl) ?_
  refine g_u (s_lenL rfl rfl Tryd.underlying47) ?_
  refine g_u (s_mv_imm rfl rfl) ?_
  refine g_nil ?_
  refine normal_thn ?_
  refine aw_block ?_
  refine aw_loop' (fun i : Nat => [(1, .ptr 1001 0), (1001, .box 52 (.imm ({ s with attrs := canonAs s.attrs } : GSpan).av)), (2, .ptr 1002 0), (1002, .box 52 (.imm z52)), (3, .slg 3003 3 ((s.events.take i).map fun e => (canonE e).av)), (3003, .tok 3 ((s.events.take i).map fun e => (canonE e).av)), (14, .imm (.sl 3 (s.events.map GE.av))), (15, .imm (iv (s.events.length : Int))), (16, .imm (iv (i : Int)))]) (fun i => i ≤ s.events.length) (fun i => s.events.length - i) (0) ?_ ⟨rfl, rfl, rfl, rfl, rfl, rfl, rfl, look_int rfl (by rw [List.length_map]), rfl, trivial⟩ ?_
  · exact Nat.zero_le _
  · rintro i h1; have h1 : i ≤ s.events.length := h1
    refine aw_seq ?_
    refine aw_region ?_
    refine g_u (s_ltI rfl rfl rfl) ?_
    refine g_nil ?_
    refine normal_thn ?_
    refine aw_seq ?_
    refine aw_cond rfl (fun hb1 => ?_) (fun hb1 => ?_)
    · skip
      have hi : i < s.events.length := by have := of_decide_eq_true hb1; (try simp only [List.length_map] at this); omega
      have hx : wtAs (nthE s.events i).attrs ≤ 10000000 := by have h5 := sumBy_mem GE.wt (nthE_mem hi); have h6 : (nthE s.events i).wt = 1 + (nthE s.events i).name.size + wtAs (nthE s.events i).attrs := rfl; omega
      refine aw_skip ?_
      refine normal_thn ?_
      refine aw_seq ?_
      refine aw_block ?_
      refine aw_seq ?_
      refine aw_region ?_
      refine g_u (s_indexAddr rfl rfl rfl Tryd.underlying47 tS85 (by omega) (ixE hi)) ?_
      refine g_u (s_load_cp rfl rfl tA85 tS85 rfl rfl) ?_
      refine g_uG (s_alloc' 1005 rfl rfl rfl tZ85) rfl ?_
      refine g_u (s_store_imm rfl rfl rfl tS85 rfl rfl) ?_
      refine g_nil ?_
      refine normal_thn ?_
      refine aw_seq ?_
      refine aw_region ?_
      refine g_u (s_fieldAddr rfl rfl fa85_2 rfl) ?_
      refine g_u (s_load_imm rfl rfl rfl tA30 tS30 rfl rfl) ?_
      refine g_u (s_call1 (pcanonAs_c (nthE s.events i).attrs hx) rfl rfl) ?_
      refine g_u (s_fieldAddr rfl rfl fa85_2 rfl) ?_
      refine g_u (s_store_imm rfl rfl rfl tS30 rfl rfl) ?_
      refine g_nil ?_
      refine normal_thn ?_
      refine aw_region ?_
      refine g_u (s_mv_slg rfl rfl) ?_
      refine g_u (s_load_agg rfl rfl rfl tA85 tS85 rfl rfl) ?_
      refine g_u (s_buildSlice (X0 := z85) rfl Tryd.underlying47 tS85 tZ85 rfl rfl rfl rfl rfl rfl rfl rfl) ?_
      refine g_u (s_append rfl rfl rfl rfl rfl Tryd.underlying47 Tryd.underlying47 tS85 zv85 rfl (by decide) by85 (by (try dsimp only); simp only [List.length_append, List.length_cons, List.length_nil, List.length_map, List.length_take, List.length_drop]; omega) (by (try dsimp only); simp only [List.length_append, List.length_cons, List.length_nil, List.length_map, List.length_take, List.length_drop]; omega)) ?_
      refine g_u (s_as_slg rfl rfl) ?_
      refine g_nil ?_
      refine normal_blk ?_
      refine normal_thn ?_
      refine aw_region ?_
      refine g_u (s_add rfl rfl rfl) ?_
      refine g_u (s_mv_imm rfl rfl) ?_
      refine g_nil ?_
      refine normal_thn ?_
      have et : ((s.events.take (i + 1)).map fun e => (canonE e).av) = ((s.events.take i).map fun e => (canonE e).av) ++ [(canonE (nthE s.events i)).av] := by rw [take_snoc (nth_get (d := ge0) hi), List.map_append]; rfl
      refine ⟨i + 1, hi, ⟨rfl, rfl, rfl, rfl, look_slg rfl et.symm, look_tok rfl et.symm, rfl, rfl, look_int rfl (by rw [wrap64 (by omega) (by omega)]; rfl), trivial⟩, by (try dsimp only); omega⟩
    · skip
      have hin : i = s.events.length := by have := of_decide_eq_false hb1; (try simp only [List.length_map] at this); omega
      refine aw_exit ?_
      refine exit_thn ?_
      refine exit_thn ?_
      refine exit_blk ?_
      refine normal_thn ?_
      refine aw_seq ?_
      refine aw_region ?_
      refine g_u (s_as_imm rfl rfl) ?_
      refine g_nil ?_
      refine normal_thn ?_
      refine aw_newtok 3006 6 26 rfl rfl rfl rfl ?_
      refine aw_seq ?_
      refine aw_seq ?_
      refine aw_region ?_
      refine g_u (s_fieldAddr rfl rfl fa52_10 rfl) ?_
      refine g_u (s_load_imm rfl rfl rfl tA48 tS48 rfl rfl) ?_
      refine g_u (s_lenL rfl rfl Tryd.underlying48) ?_
      refine g_u (s_mv_imm rfl rfl) ?_
      refine g_nil ?_
      refine normal_thn ?_
      refine aw_block ?_
      refine aw_loop' (fun i : Nat => [(1, .ptr 1001 0), (1001, .box 52 (.imm ({ s with attrs := canonAs s.attrs } : GSpan).av)), (2, .ptr 1002 0), (1002, .box 52 (.imm z52)), (3, .slg 3003 3 (s.events.map fun e => (canonE e).av)), (3003, .tok 3 (s.events.map fun e => (canonE e).av)), (6, .slg 3006 26 ((s.links.take i).map fun e => (canonL e).av)), (3006, .tok 26 ((s.links.take i).map fun e => (canonL e).av)), (30, .imm (.sl 26 (s.links.map GL.av))), (31, .imm (iv (s.links.length : Int))), (32, .imm (iv (i : Int)))]) (fun i => i ≤ s.links.length) (fun i => s.links.length - i) (0) ?_ ⟨rfl, rfl, rfl, rfl, look_slg rfl (by rw [hin, List.take_length]), look_tok rfl (by rw [hin, List.take_length]), rfl, rfl, rfl, look_int rfl (by rw [List.length_map]), rfl, trivial⟩ ?_
      · exact Nat.zero_le _
      · rintro i h1; have h1 : i ≤ s.links.length := h1
        refine aw_seq ?_
        refine aw_region ?_
        refine g_u (s_ltI rfl rfl rfl) ?_
        refine g_nil ?_
        refine normal_thn ?_
        refine aw_seq ?_
        refine aw_cond rfl (fun hb2 => ?_) (fun hb2 => ?_)
        · skip
          have hi : i < s.links.length := by have := of_decide_eq_true hb2; (try simp only [List.length_map] at this); omega
          have hx : wtAs (nthL s.links i).attrs ≤ 10000000 := by have h5 := sumBy_mem GL.wt (nthL_mem hi); have h6 : (nthL s.links i).wt = 1 + (nthL s.links i).state.size + wtAs (nthL s.links i).attrs := rfl; omega
          refine aw_skip ?_
          refine normal_thn ?_
          refine aw_seq ?_
          refine aw_block ?_
          refine aw_seq ?_
          refine aw_region ?_
          refine g_u (s_indexAddr rfl rfl rfl Tryd.underlying48 tS87 (by omega) (ixL hi)) ?_
          refine g_u (s_load_cp rfl rfl tA87 tS87 rfl (by first | exact getS_w (GL.width _) rfl | rfl)) ?_
          refine g_uG (s_alloc' 1008 rfl rfl rfl tZ87) rfl ?_
          refine g_u (s_store_imm rfl rfl rfl tS87 (by first | exact beqW (GL.width _) | rfl) (by first | exact setS_w (z87_w.trans (GL.width _).symm) rfl | rfl)) ?_
          refine g_nil ?_
          refine normal_thn ?_
          refine aw_seq ?_
          refine aw_region ?_
          refine g_u (s_fieldAddr rfl rfl fa87_3 rfl) ?_
          refine g_u (s_load_imm rfl rfl rfl tA30 tS30 rfl rfl) ?_
          refine g_u (s_call1 (pcanonAs_c (nthL s.links i).attrs hx) rfl rfl) ?_
          refine g_u (s_fieldAddr rfl rfl fa87_3 rfl) ?_
          refine g_u (s_store_imm rfl rfl rfl tS30 rfl rfl) ?_
          refine g_nil ?_
          refine normal_thn ?_
          refine aw_pack 1008 rfl rfl ?_
          refine aw_region ?_
          refine g_u (s_mv_slg rfl rfl) ?_
          refine g_u (s_load_imm rfl rfl rfl tA87 tS87 rfl (by first | exact getS_w (GL.width _) rfl | rfl)) ?_
          refine g_u (s_buildSlice (X0 := z87) rfl Tryd.underlying48 tS87 tZ87 rfl rfl rfl rfl rfl rfl rfl rfl) ?_
          refine g_u (s_append rfl rfl rfl rfl rfl Tryd.underlying48 Tryd.underlying48 tS87 zv87 rfl (by decide) by87 (by (try dsimp only); simp only [List.length_append, List.length_cons, List.length_nil, List.length_map, List.length_take, List.length_drop]; omega) (by (try dsimp only); simp only [List.length_append, List.length_cons, List.length_nil, List.length_map, List.length_take, List.length_drop]; omega)) ?_
          refine g_u (s_as_slg rfl rfl) ?_
          refine g_nil ?_
          refine normal_blk ?_
          refine normal_thn ?_
          refine aw_region ?_
          refine g_u (s_add rfl rfl rfl) ?_
          refine g_u (s_mv_imm rfl rfl) ?_
          refine g_nil ?_
          refine normal_thn ?_
          have et : ((s.links.take (i + 1)).map fun e => (canonL e).av) = ((s.links.take i).map fun e => (canonL e).av) ++ [(canonL (nthL s.links i)).av] := by rw [take_snoc (nth_get (d := gl0) hi), List.map_append]; rfl
          refine ⟨i + 1, hi, ⟨rfl, rfl, rfl, rfl, rfl, rfl, look_slg rfl et.symm, look_tok rfl et.symm, rfl, rfl, look_int rfl (by rw [wrap64 (by omega) (by omega)]; rfl), trivial⟩, by (try dsimp only); omega⟩
        · skip
          have hin2 : i = s.links.length := by have := of_decide_eq_false hb2; (try simp only [List.length_map] at this); omega
          refine aw_exit ?_
          refine exit_thn ?_
          refine exit_thn ?_
          refine exit_blk ?_
          refine normal_thn ?_
          refine aw_seq ?_
          refine aw_region ?_
          refine g_u (s_mv_slg rfl rfl) ?_
          refine g_u (s_mv_slg rfl rfl) ?_
          refine g_u (s_fieldAddr rfl rfl fa52_9 rfl) ?_
          refine g_u (s_store rfl rfl rfl rfl tS47 rfl rfl) ?_
          refine g_u (s_fieldAddr rfl rfl fa52_10 rfl) ?_
          refine g_u (s_store rfl rfl rfl rfl tS48 rfl rfl) ?_
          refine g_nil ?_
          refine normal_thn ?_
          refine aw_seq ?_
          refine aw_region ?_
          refine g_u (s_load_agg rfl rfl rfl tA52 tS52 rfl rfl) ?_
          refine g_u (s_store_imm rfl rfl rfl tS52 (by first | exact beqW (GSpan.width _) | rfl) (by first | exact setS_w (z52_w.trans (GSpan.width _).symm) rfl | rfl)) ?_
          refine g_nil ?_
          refine normal_thn ?_
          refine aw_ret ?_
          exact ⟨⟨_, _, _, _, _, _, _, rfl, rfl, tA52, tS52, rfl, rfl, (rfl : toAV _ = some _).trans (congrArg some (by (rw [hin2, List.take_length]; show _ = GSpan.av (canonS s); simp only [GSpan.av, canonS, List.map_map]; rfl)))⟩, trivial⟩

end Go.Proofs

namespace Go.Proofs
open Go Go.Al
set_option maxRecDepth 10000

end Go.Proofs

namespace Go.Proofs
open Go Go.Al
set_option maxRecDepth 10000

end Go.Proofs

namespace Go.Al
open Go.RowKit

section
variable {C : Cx} {A : Nat → SV} {d : Nat} {ty : TypeId} {pos : String} {af : Array Edge} {gd : Option (Nat × Bool)} {x y : Operand} {T T' : TypeId}

end
end Go.Al

namespace Go.Proofs
open Go Go.Al

end Go.Proofs

namespace Go.Proofs
open Go Go.Al
set_option maxRecDepth 10000

end Go.Proofs

namespace Go.Proofs
open Go Go.Al
set_option maxRecDepth 10000

end Go.Proofs

namespace Go.Proofs
open Go Go.Al
set_option maxRecDepth 10000

end Go.Proofs

namespace Go.Al
open Go.RowKit

/-! ### Functions that hand values to a loop's body -/

def base (P : Program) (Γ : List (Nat × AV)) (N : Nat) (w : World) (G : Gh) : Cx := ⟨P, w, G.I, fun _ => False, N, 100000, G, Γ, [], none⟩

def noRes : St → Bool
  | [] => true
  | (_, x) :: st => !x.res && noRes st

theorem noRes_spec : ∀ {st : St}, noRes st = true → ∀ k, (look st k).res = false
  | [], _, k => rfl
  | (d, x) :: st, h, k => by
    simp only [noRes, Bool.and_eq_true, Bool.not_eq_true'] at h
    simp only [look, upd]
    cases Nat.beq d k
    · exact noRes_spec h.2 k
    · exact h.1

theorem notOwn_res {G : Gh} {k b : Nat} {x : SV} (h : x.res = false) : ¬ ownsB G k b x := by cases x <;> simp [SV.res, ownsB] at h ⊢

theorem Holds.mono_slot {w0 w1 : World} {E E' : Nat → Prop} {G G' : Gh} {a : Act} {w w' : World} {k : Nat} {x : SV} (hx : x.res = false) (hle : Le w G.I w' G'.I) (hg : GRel [] G G') (h : Holds w0 E G a w k x) : Holds w1 E' G' a w' k x := by
  cases x <;> simp only [Holds] at h ⊢ <;> first | trivial | exact ⟨h.1, SlotS.mono hle hg (noG_nil.1 _) h.2⟩ | cases hx

/-- The base laid anew. -/
theorem SimG.rebase {C : Cx} {A : Nat → SV} {G : Gh} {a : Act} {w : World} (S : SimG C A G a w) (hD : C.D = []) (hr : ∀ k, (A k).res = false) : SimG (base C.P C.Γ C.N w G) A G a w :=
  ⟨rfl, rfl, rfl, Nat.le_refl _, fun _ _ _ => rfl, Le.refl _ _, fun _ _ => ⟨rfl, .inl ⟨rfl, rfl⟩⟩, S.glob, fun _ _ h => .inl h, S.val, S.nts, S.dfs.trans hD,
    fun k => (S.holds k).mono_slot (hr k) (Le.refl _ _) (GRel.refl _), fun k _ _ _ h _ => notOwn_res (hr k) h⟩

/-- What another turns, and keeps what is immutable. -/
theorem SimG.turned {P : Program} {Γ : List (Nat × AV)} {N : Nat} {A : Nat → SV} {G : Gh} {a : Act} {w w' : World} {I' : Nat → Nat → Prop} (S : SimG (base P Γ N w G) A G a w) (hr : ∀ k, (A k).res = false)
    (hle : Le w G.I w' I') (hv : ValI w' I') : SimG (base P Γ N w' { G with I := I' }) A { G with I := I' } a w' :=
  ⟨rfl, rfl, rfl, Nat.le_refl _, fun _ _ _ => rfl, Le.refl _ _, fun _ _ => ⟨rfl, .inl ⟨rfl, rfl⟩⟩, S.glob.mono hle, fun _ _ h => .inl h, hv, S.nts, S.dfs,
    fun k => (S.holds k).mono_slot (hr k) hle (fun _ _ => ⟨rfl, .inl ⟨rfl, rfl⟩⟩), fun k _ _ _ h _ => notOwn_res (hr k) h⟩

/-- What bears growth. -/
def Grow {ι : Type} (J : ι → (Nat → Nat → Prop) → World → Prop) : Prop :=
  ∀ j I w I' w', J j I w → Below w.heap.size w w' → Le w I w' I' → NewI w I I' → ValI w' I' → J j I' w'

section
variable {ι : Type} {P : Program} {Γ : List (Nat × AV)} {N n : Nat} {J : ι → (Nat → Nat → Prop) → World → Prop}

def AWJ (P : Program) (Γ : List (Nat × AV)) (N n : Nat) (J : ι → (Nat → Nat → Prop) → World → Prop) (c : Code) (st : St) (j : ι) (Q : Exit → St → ι → Prop) : Prop :=
  ∀ a w G, SimG (base P Γ N w G) (look st) G a w → J j G.I w →
    c.wpIn (fen none) n P (fun e a' w' => ∃ st' j' G', Q e st' j' ∧ SimG (base P Γ N w' G') (look st') G' a' w' ∧ J j' G'.I w') a w

def thnJ (K : St → ι → Prop) (Q : Exit → St → ι → Prop) : Exit → St → ι → Prop
  | .normal, st, j => K st j
  | e, st, j => Q e st j
def blkJ (id : Nat) (K : St → ι → Prop) (Q : Exit → St → ι → Prop) : Exit → St → ι → Prop
  | .normal, st, j => K st j
  | .exit i, st, j => if i = id then K st j else Q (.exit i) st j
  | e, st, j => Q e st j

variable {c x y : Code} {st : St} {j : ι} {K : St → ι → Prop} {Q : Exit → St → ι → Prop}

theorem ret_thnJ (h : Q .ret st j) : thnJ K Q .ret st j := h
theorem exit_thnJ {i : Nat} (h : Q (.exit i) st j) : thnJ K Q (.exit i) st j := h
theorem normal_thnJ (h : K st j) : thnJ K Q .normal st j := h
theorem ret_blkJ {id : Nat} (h : Q .ret st j) : blkJ id K Q .ret st j := h
theorem normal_blkJ {id : Nat} (h : K st j) : blkJ id K Q .normal st j := h
theorem exit_blkJ {id : Nat} (h : K st j) : blkJ id K Q (.exit id) st j := by simp only [blkJ, if_true]; exact h
theorem awj_skip (h : Q .normal st j) : AWJ P Γ N n J .skip st j Q := fun _ _ G S k => wpIn_skip ⟨st, j, G, h, S, k⟩
theorem awj_ret (h : Q .ret st j) : AWJ P Γ N n J .ret st j Q := fun _ _ G S k => wpIn_ret ⟨st, j, G, h, S, k⟩
theorem awj_exit {i : Nat} (h : Q (.exit i) st j) : AWJ P Γ N n J (.exit i) st j Q := fun _ _ G S k => wpIn_exit ⟨st, j, G, h, S, k⟩

theorem awj_seq (h : AWJ P Γ N n J x st j (thnJ (fun st' j' => AWJ P Γ N n J y st' j' Q) Q)) : AWJ P Γ N n J (.seq x y) st j Q := by
  intro a w G S k
  refine wpIn_seq (wpIn_mono (h a w G S k) ?_)
  rintro e a' w' ⟨st', j', G', q, S', k'⟩
  cases e with
  | normal => exact q a' w' G' S' k'
  | exit id => exact ⟨st', j', G', q, S', k'⟩
  | goto l => exact ⟨st', j', G', q, S', k'⟩
  | ret => exact ⟨st', j', G', q, S', k'⟩
  | panic c => exact ⟨st', j', G', q, S', k'⟩
  | outgrown => exact ⟨st', j', G', q, S', k'⟩

theorem awj_block {id : Nat} (h : AWJ P Γ N n J c st j (blkJ id (fun st' j' => Q .normal st' j') Q)) : AWJ P Γ N n J (.block id c) st j Q := by
  intro a w G S k
  refine wpIn_block (wpIn_mono (h a w G S k) ?_)
  rintro e a' w' ⟨st', j', G', q, S', k'⟩
  cases e with
  | normal => exact ⟨st', j', G', q, S', k'⟩
  | exit i =>
    simp only [blkJ] at q
    simp only [Exit.inBlock]
    split
    · rename_i hi; rw [if_pos hi] at q; exact ⟨st', j', G', q, S', k'⟩
    · rename_i hi; rw [if_neg hi] at q; exact ⟨st', j', G', q, S', k'⟩
  | goto l => exact ⟨st', j', G', q, S', k'⟩
  | ret => exact ⟨st', j', G', q, S', k'⟩
  | panic c => exact ⟨st', j', G', q, S', k'⟩
  | outgrown => exact ⟨st', j', G', q, S', k'⟩

theorem awj_cond {t : Nat} {b : Bool} (hc : look st t = .imm (.v (.bool b))) (ht : b = true → AWJ P Γ N n J x st j Q) (hf : b = false → AWJ P Γ N n J y st j Q) : AWJ P Γ N n J (.cond (.tmp t) x y) st j Q := by
  intro a w G S k
  have hev : a.eval (.tmp t) = .bool b := rep_bool (S.imm hc)
  exact wpIn_cond_split hev (fun h => ht h a w G S k) (fun h => hf h a w G S k)
theorem awj_cond_true {t : Nat} (hc : look st t = .imm (.v (.bool true))) (h : AWJ P Γ N n J x st j Q) : AWJ P Γ N n J (.cond (.tmp t) x y) st j Q := awj_cond hc (fun _ => h) (fun h => by cases h)
theorem awj_cond_false {t : Nat} (hc : look st t = .imm (.v (.bool false))) (h : AWJ P Γ N n J y st j Q) : AWJ P Γ N n J (.cond (.tmp t) x y) st j Q := awj_cond hc (fun h => by cases h) (fun _ => h)

theorem awj_loop' {κ : Type} (Inv : κ → St) (jx : κ → ι) (ok : κ → Prop) (μ : κ → Nat) (i0 : κ) (hj : j = jx i0) (ok0 : ok i0) (h0 : sub st (Inv i0))
    (round : ∀ i, ok i → AWJ P Γ N n J c (Inv i) (jx i) (thnJ (fun st' j' => ∃ i', ok i' ∧ sub st' (Inv i') ∧ j' = jx i' ∧ μ i' < μ i) Q)) : AWJ P Γ N n J (.loop c) st j Q := by
  intro a w G S k
  refine wpIn_loop_ghost (fun m a w => ∃ i G, μ i = m ∧ ok i ∧ SimG (base P Γ N w G) (look (Inv i)) G a w ∧ J (jx i) G.I w) (μ i0) ⟨i0, G, rfl, ok0, S.weak (sub_spec h0), hj ▸ k⟩ ?_
  rintro m a w ⟨i, G, rfl, hok, S, k⟩
  refine wpIn_mono (round i hok a w G S k) ?_
  rintro e a' w' ⟨st', j', G', q, S', k'⟩
  cases e with
  | normal =>
    obtain ⟨i', hok', hs, rfl, hlt⟩ := q
    exact ⟨μ i', hlt, i', G', rfl, hok', S'.weak (sub_spec hs), k'⟩
  | exit id => exact ⟨st', j', G', q, S', k'⟩
  | goto l => exact ⟨st', j', G', q, S', k'⟩
  | ret => exact ⟨st', j', G', q, S', k'⟩
  | panic c => exact ⟨st', j', G', q, S', k'⟩
  | outgrown => exact ⟨st', j', G', q, S', k'⟩

theorem awj_of_aw (hJ : Grow J) (h : ∀ w G, AW (base P Γ N w G) c st (fun e st' => noRes st' = true ∧ Q e st' j)) : AWJ P Γ N n J c st j Q := by
  intro a w G S k
  refine wpIn_mono (h w G a w ⟨G, S⟩ n) ?_
  rintro e a' w' ⟨st', ⟨hn, q⟩, G', S'⟩
  refine ⟨st', j, G', q, S'.rebase rfl (noRes_spec hn), hJ _ _ _ _ _ k ⟨S'.os, S'.tape, S'.output, S'.size, fun k hk => S'.block k hk (fun h => h)⟩ S'.sub (fun b o hi => ?_) S'.val⟩
  rcases S'.new b o hi with h | h | h
  · exact .inl h
  · exact .inr h
  · exact h.elim

theorem awj_region (hJ : Grow J) {id : Nat} {ops : Array Oper} (h : ∀ w0 G0, Go1 (base P Γ N w0 G0) ops ops.toList st [] (fun st' _ => noRes st' = true ∧ Q .normal st' j)) (hnd : noDef ops.toList = true := by rfl) : AWJ P Γ N n J (.region id ops false) st j Q :=
  awj_of_aw hJ fun w G => aw_region (h w G) hnd

/-! A region with a call of yield in it -/

theorem Go1.mono {C : Cx} {ops : Array Oper} {K K' : St → List Tr → Prop} (hK : ∀ st tr, K st tr → K' st tr) : ∀ {os : List Oper} {st : St} {tr : List Tr}, Go1 C ops os st tr K → Go1 C ops os st tr K'
  | [], _, _, h => hK _ _ h
  | _ :: _, _, _, ⟨t, h1, h2, h3⟩ => ⟨t, h1, h2, Go1.mono hK h3⟩

def GoJ (P : Program) (Γ : List (Nat × AV)) (N n : Nat) (J : ι → (Nat → Nat → Prop) → World → Prop) (ops : Array Oper) (os : List Oper) (st : St) (j : ι) (Q : Exit → St → ι → Prop) : Prop :=
  ∀ k a w G, (∀ i, os[i]? = ops[k + i]?) → SimG (base P Γ N w G) (look st) G a w → J j G.I w →
    wpOpsIn (fen none) n P ops (fun e a' w' => ∃ st' j' G', Q e st' j' ∧ SimG (base P Γ N w' G') (look st') G' a' w' ∧ J j' G'.I w') (List.range' k os.length) a w

theorem awj_regionJ {id : Nat} {ops : Array Oper} (h : GoJ P Γ N n J ops ops.toList st j Q) : AWJ P Γ N n J (.region id ops false) st j Q := by
  intro a w G S k
  refine wpIn_region ?_
  have := h 0 a w G (by simp) S k
  simpa [List.range_eq_range'] using this

theorem goj_nil {ops : Array Oper} (h : Q .normal st j) : GoJ P Γ N n J ops [] st j Q := by
  intro k a w G _ S hk
  simp only [List.length_nil, List.range'_zero, wpOpsIn]
  exact ⟨st, j, G, h, S, hk⟩

theorem wpOps_front {C : Cx} {ops : Array Oper} {n : Nat} {Q : Exit → Act → World → Prop} (hnd : noDef ops.toList = true) : ∀ (os : List Oper) (k : Nat) (A : Nat → SV) (tr : List Tr) (a : Act) (w : World) (rest : List Nat),
    (∀ j, j < os.length → os[j]? = ops[k + j]?) → Run C ops os A tr → Sim C A a w → (∀ a w, Sim C (fin tr A) a w → wpOpsIn (fen C.R) n C.P ops Q rest a w) →
    wpOpsIn (fen C.R) n C.P ops Q (List.range' k os.length ++ rest) a w
  | [], k, A, [], a, w, _, _, _, S, hQ => by simpa using hQ a w S
  | [], _, _, _ :: _, _, _, _, _, h, _, _ => h.elim
  | _ :: _, _, _, [], _, _, _, _, h, _, _ => h.elim
  | o :: os, k, A, t :: ts, a, w, rest, hl, h, S, hQ => by
    have h0 : ops[k]? = some o := by simpa using (hl 0 (by simp)).symm
    obtain ⟨h1, h2, h3⟩ := h
    have h4 := h1 A a w (fun _ _ => rfl) (fun k _ => h2 k) S
    simp only [List.length_cons, List.range'_succ, List.cons_append, wpOpsIn, h0]
    have hl' : ∀ j, j < os.length → os[j]? = ops[k + 1 + j]? := fun j hj => by have := hl (j + 1) (by simpa using hj); simpa [Nat.add_assoc, Nat.add_comm 1 j] using this
    split
    · rename_i hw
      simp only [hw, if_true] at h4
      refine Oper.wpIn_of_wp (noDef_get hnd h0) (wpOps_run.Oper.wp_mono' ?_ ?_ h4)
      · intro a' w' S'
        exact wpOps_front hnd os (k + 1) _ ts a' w' rest hl' h3 S' hQ
      · exact fun _ _ _ h => h.elim
    · rename_i hw
      simp only [hw] at h4
      exact ⟨fun _ _ => trivial, wpOps_front hnd os (k + 1) _ ts _ w rest hl' h3 h4 hQ⟩

theorem goj_run (hJ : Grow J) {ops : Array Oper} {os os1 os2 : List Oper} (hs : os = os1 ++ os2) (hnd : noDef ops.toList = true)
    (h : ∀ w0 G0, Go1 (base P Γ N w0 G0) ops os1 st [] (fun st' _ => noRes st' = true ∧ GoJ P Γ N n J ops os2 st' j Q)) : GoJ P Γ N n J ops os st j Q := by
  subst hs
  intro k a w G hi S hk
  obtain ⟨tr, st', r, f, ⟨hn, q⟩, _⟩ := Go1.sound _ _ _ _ (h w G)
  have e : List.range' k (os1 ++ os2).length = List.range' k os1.length ++ List.range' (k + os1.length) os2.length := by
    rw [List.length_append]; exact (List.range'_append_1 ..).symm
  rw [e]
  refine wpOps_front (C := base P Γ N w G) hnd os1 k (look st) tr a w _ (fun i h => ?_) r ⟨G, S⟩ (fun a' w' S' => ?_)
  · have := hi i
    rw [List.getElem?_append_left h] at this; exact this
  · obtain ⟨G', S'⟩ := S'
    rw [f] at S'
    refine q (k + os1.length) a' w' G' (fun i => ?_) (S'.rebase rfl (noRes_spec hn)) (hJ _ _ _ _ _ hk ⟨S'.os, S'.tape, S'.output, S'.size, fun k hk => S'.block k hk (fun h => h)⟩ S'.sub (fun b o hi => ?_) S'.val)
    · have := hi (os1.length + i)
      rw [List.getElem?_append_right (by omega), Nat.add_sub_cancel_left] at this
      rw [this, Nat.add_assoc]
    · rcases S'.new b o hi with h | h | h
      · exact .inl h
      · exact .inr h
      · exact h.elim

theorem goj_take (m : Nat) (hJ : Grow J) {ops : Array Oper} {os : List Oper} (hnd : noDef ops.toList = true)
    (h : ∀ w0 G0, Go1 (base P Γ N w0 G0) ops (os.take m) st [] (fun st' _ => noRes st' = true ∧ GoJ P Γ N n J ops (os.drop m) st' j Q)) : GoJ P Γ N n J ops os st j Q :=
  goj_run hJ (List.take_append_drop m os).symm hnd h
theorem goj_end (hJ : Grow J) {ops : Array Oper} {os : List Oper} (hnd : noDef ops.toList = true)
    (h : ∀ w0 G0, Go1 (base P Γ N w0 G0) ops os st [] (fun st' _ => noRes st' = true ∧ Q .normal st' j)) : GoJ P Γ N n J ops os st j Q :=
  goj_run hJ (List.append_nil os).symm hnd (fun w0 G0 => by
    refine Go1.mono ?_ (h w0 G0)
    rintro st' tr ⟨h1, h2⟩
    exact ⟨h1, goj_nil h2⟩)

/-- What a round leaves: whether it goes on; what was immutable is so still. -/
def YPost (J : ι → (Nat → Nat → Prop) → World → Prop) (I : Nat → Nat → Prop) (w : World) (jt jf : ι) (e : Ending) (w' : World) : Prop :=
  ∃ (b : Bool) (I' : Nat → Nat → Prop), e = .returned (.bool b) ∧ Le w I w' I' ∧ ValI w' I' ∧ J (if b then jt else jf) I' w'

theorem goj_yield {ops : Array Oper} {os : List Oper} {d l : Nat} {cal : Operand} {args : Array Operand} {ats : Array TypeId} {ty : TypeId} {pos : String} {af : Array Edge} {xs : List AV} {jt jf : ι} (hN : Nat.blt d N = true)
    (hr : noRes st = true) (hf : opV (look st) cal = some (.v (.func (.yield l) #[] #[]))) (hx : opVs (look st) args.toList = some xs)
    (hy : ∀ I w vs, J j I w → RepVs w I xs vs → YieldAt (fen none) (n - 1) P l (List.toArray vs) w (YPost J I w jt jf))
    (h : ∀ b : Bool, GoJ P Γ N n J ops os ((d, .imm (.v (.bool b))) :: st) (if b then jt else jf) Q) :
    GoJ P Γ N n J ops (⟨some d, .call { callee := .value cal, args := args, argTypes := ats }, ty, pos, af, none⟩ :: os) st j Q := by
  intro k a w G hi S hk
  have h0 := (hi 0).symm
  simp only [List.getElem?_cons_zero, Nat.add_zero] at h0
  simp only [List.length_cons, List.range'_succ, wpOpsIn, h0]
  have hw : Region.wanted (⟨some d, .call { callee := .value cal, args := args, argTypes := ats }, ty, pos, af, none⟩ : Oper) (yielded ops a.tmps) = true := rfl
  simp only [hw, if_true]
  obtain ⟨c, h1, h2⟩ := S.opV hf
  simp only [RepC] at h1
  have hev : a.eval cal = .func (.yield l) #[] #[] := by
    rw [h2, h1.1]; rfl
  obtain ⟨fn, tmps, assign, body, hrun, hround⟩ := hy G.I w _ hk (S.opVs hx)
  refine ⟨fun _ _ => trivial, ?_⟩
  have hsem : (Oper.semAt (fen none).round a.eval (⟨some d, .call { callee := .value cal, args := args, argTypes := ats }, ty, pos, af, none⟩ : Oper)).run P w = .ok (.round l fn tmps assign body) w := by
    rw [Oper.semAt_eq _ _ _ (by intro c hc; cases hc)]
    simp only [execOp, resolve, hev, Deferred.ofValue, Sem.run_bind, Sem.run_pure, Result.andThen_ok, invoke]
    have e : (#[] ++ Array.map a.eval args : Array Value) = List.toArray (args.toList.map a.eval) := by
      rw [Array.empty_append]
      apply Array.ext'
      simp
    rw [e]; exact hrun
  rw [hsem, Oper.uponIn_round]
  refine ⟨fun h => by simp [fen, Fence.wide] at h, hround.mono ?_⟩
  rintro e w' ⟨b, I', rfl, hle, hv, hj⟩
  have S' := (SimG.turned S (noRes_spec hr) hle hv).put (d := d) (by simpa [Nat.blt_eq, base] using hN) (x := .imm (.v (.bool b))) (v := .bool b) (valS_imm.2 ⟨[.bool b], by simp [RepC, Value.cells, plain], rfl⟩)
  refine h b (k + 1) _ w' { G with I := I' } (fun i => ?_) ?_ hj
  · have := hi (i + 1)
    simpa [Nat.add_assoc, Nat.add_comm 1 i] using this
  · exact S'
end

/-- A function that hands the rows L to a loop's body, in order. -/
def SeqC (P : Program) (Γ : List (Nat × AV)) (f : FuncId) (caps : List AV) (L : List (List AV)) : Prop :=
  callable P f = true ∧ ∀ n l (J : Option Nat → (Nat → Nat → Prop) → World → Prop) w I lb, Grow J → ValI w I → Glob Γ w I → RepVs w I caps lb →
    (∀ i xs I w vs, L[i]? = some xs → J (some i) I w → RepVs w I xs vs → YieldAt (fen none) (n - 1) P l (List.toArray vs) w (YPost J I w (some (i + 1)) none)) →
    J (some 0) I w →
    CallsIn (fen none) n P f (#[.func (.yield l) #[] #[]] ++ List.toArray lb) w (fun e w' => ∃ v I', e = .returned v ∧ (J (some L.length) I' w' ∨ J none I' w'))

theorem seqc_of {P : Program} {Γ : List (Nat × AV)} {f : FuncId} {fn : Func} {c : Code} {N : Nat} {caps : List AV} {L : List (List AV)} (hf : P.funcs[f]? = some fn) (hb : fn.body = some c) (hnt : fn.ntmps = N) (hcal : callable P f = true)
    (hres : fn.results = #[]) (hN : Nat.ble (caps.length + 1) N = true)
    (h : ∀ n l (J : Option Nat → (Nat → Nat → Prop) → World → Prop), Grow J →
      (∀ i xs I w vs, L[i]? = some xs → J (some i) I w → RepVs w I xs vs → YieldAt (fen none) (n - 1) P l (List.toArray vs) w (YPost J I w (some (i + 1)) none)) →
      AWJ P Γ N n J c (params 0 (.v (.func (.yield l) #[] #[]) :: caps)) (some 0) (fun e _ j => (e = .normal ∨ e = .ret) ∧ (j = some L.length ∨ j = none))) : SeqC P Γ f caps L := by
  refine ⟨hcal, fun n l J w I lb hJ hv hgl hr hy h0 => ?_⟩
  refine callsIn_of_wp hf hb trivial ?_
  rw [hnt]
  have hrep : RepVs w I (.v (.func (.yield l) #[] #[]) :: caps) (.func (.yield l) #[] #[] :: lb) := by
    simp only [RepVs]
    exact ⟨[.func (.yield l) #[] #[]], lb, rfl, by simp [RepC, Value.cells, plain], hr⟩
  have S0 := start_simG (P := P) (Γ := Γ) (N := N) (K := 100000) hv hgl hrep (by simpa using Nat.le_of_ble_eq_true hN)
  have e : (#[.func (.yield l) #[] #[]] ++ List.toArray lb : Array Value) = List.toArray (.func (.yield l) #[] #[] :: lb) := by simp
  rw [e]
  refine wpIn_mono (h n l J hJ hy _ w (gh0 I) S0 h0) ?_
  rintro e a' w' ⟨st', j', G', ⟨he, hj⟩, S', k'⟩
  have fin : a'.defers = [] ∧ ∃ v, (results fn a'.tmps).run P w' = .ok v w' ∧ ∃ v' I', Ending.returned v = .returned v' ∧ (J (some L.length) I' w' ∨ J none I' w') := by
    refine ⟨S'.dfs, .tuple #[], ?_, _, G'.I, rfl, ?_⟩
    · unfold results; rw [hres]; simp
    · rcases hj with rfl | rfl
      · exact .inl k'
      · exact .inr k'
  rcases he with rfl | rfl <;> exact fin
end Go.Al

namespace Go.Al
open Go.RowKit

/-! ### A range over a function -/

theorem Holds.kind {w0 : World} {E : Nat → Prop} {G : Gh} {a : Act} {w : World} {k b : Nat} {x : SV} (r : Holds w0 E G a w k x) (h : ownsB G k b x) {o : Obj} (ho : w.heap[b]? = some o) : isBook o = false := by
  cases x <;> simp only [ownsB] at h <;> simp only [Holds] at r
  case box T x =>
    obtain ⟨_, ⟨cs, fr, h1, _⟩, _⟩ := r
    rw [h, ho] at h1; cases h1; rfl
  case mpr ks vs =>
    obtain ⟨_, ⟨es, h1, _⟩, _⟩ := r
    rw [h, ho] at h1; cases h1; rfl
  case gen R => exact R.kind _ _ _ _ r.2 h ho
  case row l =>
    obtain ⟨ad, n', c, h1, h2⟩ := h
    rcases r.2 with ⟨e, _⟩ | ⟨b', cap, e, _, _, _, ⟨cs, T, h5, _⟩, _⟩
    · rw [e] at h1; cases h1
    · rw [e] at h1; cases h1; rw [← h2, h5] at ho; cases ho; rfl
  case itr m n s =>
    have h1 := r.2.1
    rw [h, ho] at h1; cases h1; rfl
  case tok n l =>
    obtain ⟨ad, n', c, h1, h2⟩ := h
    rcases r.2 with ⟨e, _⟩ | ⟨b', cap, e, _, _, _, _, ⟨cs, T, fr, h5, _⟩, _⟩
    · rw [e] at h1; cases h1
    · rw [e] at h1; cases h1; rw [← h2, h5] at ho; cases ho; rfl

theorem cell_book {w : World} {d : Nat} {o : Obj} (h : w.heap[d]? = some o) (ho : isBook o = true) (n : Nat) : w.cell? ⟨d, n, none⟩ = none := by
  unfold World.cell?
  cases o <;> simp_all [isBook]

theorem putObj_size (w : World) (d : Nat) (o : Obj) : (w.putObj d o).heap.size = w.heap.size := by simp [World.putObj]

/-- What is written down of calls to come and of loops is nobody's. -/
theorem SimG.book {C : Cx} {A : Nat → SV} {G : Gh} {a : Act} {w : World} (S : SimG C A G a w) {d : Nat} {o o' : Obj} (h : w.heap[d]? = some o) (ho : isBook o = true) (ho' : isBook o' = true) (hd : C.w0.heap.size ≤ d ∨ C.E d) :
    SimG C A G a (w.putObj d o') := by
  have hlt : d < w.heap.size := (Array.getElem?_eq_some_iff.1 h).1
  have hsame : (w.putObj d o').heap[d]? = some o' := World.putObj_heap_same hlt
  have hoth : ∀ k, k ≠ d → (w.putObj d o').heap[k]? = w.heap[k]? := fun k hk => World.putObj_heap_other hk
  have hle : Le w G.I (w.putObj d o') G.I := by
    intro b n hi
    refine ⟨hi, ?_⟩
    by_cases e : b = d
    · subst e
      refine ⟨by rw [cell_book hsame ho', cell_book h ho], fun es ck h1 => ?_⟩
      rw [h] at h1; cases h1; cases ho
    · exact kp_of_block (hoth b e)
  refine ⟨S.os, S.tape, S.output, by rw [putObj_size]; exact S.size, fun k h1 h2 => ?_, S.sub.trans hle, S.rel, S.glob.mono hle, S.new, fun b o h => by rw [putObj_size]; exact S.val b o h, S.nts, S.dfs, fun k => ?_, S.apart⟩
  · have : k ≠ d := by
      rintro rfl
      rcases hd with hd | hd
      · omega
      · exact h2 hd
    rw [hoth k this]; exact S.block k h1 h2
  · refine (S.holds k).keep (Gs := []) hle (fun _ _ => ⟨rfl, .inl ⟨rfl, rfl⟩⟩) (noG_nil.1 _) (by rw [putObj_size]; exact Nat.le_refl _) (fun h => ⟨h, rfl⟩) (fun _ => ⟨rfl, rfl, rfl⟩) (fun b hbk => ?_)
    have hne : b ≠ d := by
      rintro rfl
      have := (S.holds k).kind hbk h
      rw [ho] at this; cases this
    exact ⟨hoth b hne, fun _ hi => hi⟩

theorem SimG.newBook {C : Cx} {A : Nat → SV} {G : Gh} {a : Act} {w : World} (S : SimG C A G a w) (o : Obj) : SimG C A G a (w.alloc o) := by
  have hb : Below w.heap.size w (w.alloc o) := (Below.refl _ w).alloc (Nat.le_refl _) _
  have hle : Le w G.I (w.alloc o) G.I := fun b n hi => ⟨hi, kp_of_block (hb.block b (S.val b n hi))⟩
  exact S.called hb hle (fun _ _ h => .inl h) (fun b n hi => by have := S.val b n hi; simp; omega)

def own (A : Nat → SV) (G : Gh) (b : Nat) : Prop := ∃ k, ownsB G k b (A k)

/-- The base laid anew, whatever is owned. -/
theorem SimG.switch {C : Cx} {A : Nat → SV} {G : Gh} {a : Act} {w : World} (S : SimG C A G a w) (K : Nat) : SimG ⟨C.P, w, G.I, own A G, C.N, K, G, C.Γ, C.D, C.R⟩ A G a w := by
  refine ⟨rfl, rfl, rfl, Nat.le_refl _, fun _ _ _ => rfl, Le.refl _ _, fun _ _ => ⟨rfl, .inl ⟨rfl, rfl⟩⟩, S.glob, fun _ _ h => .inl h, S.val, S.nts, S.dfs, fun k => ?_, S.apart⟩
  cases hr : (A k).res
  · exact (S.holds k).mono_slot hr (Le.refl _ _) (GRel.refl _)
  · exact (S.holds k).reown hr (fun b h1 _ _ => .inr ⟨k, h1⟩)

theorem SimG.back {C : Cx} {A A' : Nat → SV} {G G' : Gh} {a a' : Act} {w w' : World} (S : SimG C A G a w) {K : Nat} {D : List Deferred} {R : Option Nat} (hK : K ≤ C.K)
    (S' : SimG ⟨C.P, w, G.I, own A G, C.N, K, G, C.Γ, D, R⟩ A' G' a' w') : SimG ⟨C.P, C.w0, C.I0, C.E, C.N, C.K, C.G0, C.Γ, D, R⟩ A' G' a' w' := by
  have hown : ∀ b, own A G b → C.w0.heap.size ≤ b ∨ C.E b := fun b ⟨k, hk⟩ => ((S.holds k).owned hk).1
  have hsz : w.heap.size ≤ w'.heap.size := S'.size
  refine ⟨S'.os.trans S.os, S'.tape.trans S.tape, S'.output.trans S.output, Nat.le_trans S.size hsz, fun k h1 h2 => ?_, S.sub.trans S'.sub, fun g hg => (S.rel g hg).trans (S'.rel g (Nat.le_trans hK hg)), S'.glob, fun b o hi => ?_, S'.val, S'.nts, S'.dfs, fun k => ?_, S'.apart⟩
  · have hno : ¬ own A G k := by
      intro ho
      rcases hown k ho with h | h
      · exact absurd h1 (by show ¬ k < C.w0.heap.size; omega)
      · exact h2 h
    exact (S'.block k (Nat.lt_of_lt_of_le h1 S.size) hno).trans (S.block k h1 h2)
  · rcases S'.new b o hi with h | h | h
    · exact S.new b o h
    · exact .inr (.inl (Nat.le_trans S.size h))
    · exact .inr (hown b h)
  · cases hr : (A' k).res
    · exact (S'.holds k).mono_slot hr (Le.refl _ _) (GRel.refl _)
    · exact (S'.holds k).reown hr (fun b _ _ h => by
        rcases h with h | h
        · exact .inl (Nat.le_trans S.size h)
        · exact hown b h)

/-- Other calls to come. -/
theorem SimG.redefer {P : Program} {w0 : World} {I0 : Nat → Nat → Prop} {E : Nat → Prop} {N K : Nat} {G0 : Gh} {Γ : List (Nat × AV)} {D : List Deferred} {R : Option Nat} {A : Nat → SV} {G : Gh} {a : Act} {w : World}
    (S : SimG ⟨P, w0, I0, E, N, K, G0, Γ, D, R⟩ A G a w) (D' : List Deferred) (R' : Option Nat) : SimG ⟨P, w0, I0, E, N, K, G0, Γ, D', R'⟩ A G { tmps := a.tmps, defers := D' } w := by
  refine ⟨S.os, S.tape, S.output, S.size, S.block, S.sub, S.rel, S.glob, S.new, S.val, S.nts, rfl, fun k => ?_, S.apart⟩
  have h := S.holds k
  generalize A k = x at h
  cases x <;> simp only [Holds] at h ⊢ <;> exact h

def mark (d : Nat) : Deferred := { target := .collected d, args := #[] }

/-- A later base. -/
structure Sw (C : Cx) (w1 : World) (I1 : Nat → Nat → Prop) (E1 : Nat → Prop) (G1 : Gh) (Ds : List Nat) : Prop where
  os : w1.os = C.w0.os
  tape : w1.tape = C.w0.tape
  output : w1.output = C.w0.output
  size : C.w0.heap.size ≤ w1.heap.size
  block : ∀ k, k < C.w0.heap.size → ¬ C.E k → w1.heap[k]? = C.w0.heap[k]?
  own : ∀ b, (w1.heap.size ≤ b ∨ E1 b) → C.w0.heap.size ≤ b ∨ C.E b
  sub : Le C.w0 C.I0 w1 I1
  rel : ∀ g, C.K ≤ g → Turns C.G0 G1 g
  new : ∀ b o, I1 b o → C.I0 b o ∨ C.w0.heap.size ≤ b ∨ C.E b
  marks : ∀ d ∈ Ds, d < w1.heap.size ∧ ¬ E1 d ∧ C.w0.heap.size ≤ d ∧ w1.heap[d]? = some (.deferred (some []))
  nodup : Ds.Nodup

def upC (C : Cx) (w1 : World) (I1 : Nat → Nat → Prop) (E1 : Nat → Prop) (G1 : Gh) (D1 : List Deferred) : Cx := ⟨C.P, w1, I1, E1, C.N, C.K, G1, C.Γ, D1, C.R⟩

def SimX (C : Cx) (A : Nat → SV) (a : Act) (w : World) : Prop := ∃ w1 I1 E1 G1 Ds, Sw C w1 I1 E1 G1 Ds ∧ Sim (upC C w1 I1 E1 G1 (Ds.map mark)) A a w

theorem Sw.start (C : Cx) : Sw C C.w0 C.I0 C.E C.G0 [] :=
  ⟨rfl, rfl, rfl, Nat.le_refl _, fun _ _ _ => rfl, fun _ h => h, Le.refl _ _, fun _ _ => ⟨rfl, .inl ⟨rfl, rfl⟩⟩, fun _ _ h => .inl h, fun d h => (by cases h), List.nodup_nil⟩

theorem Sw.back {C : Cx} {w1 : World} {I1 : Nat → Nat → Prop} {E1 : Nat → Prop} {G1 : Gh} {Ds : List Nat} (h : Sw C w1 I1 E1 G1 Ds) {D1 : List Deferred} {A : Nat → SV} {G : Gh} {a : Act} {w : World} (S : SimG (upC C w1 I1 E1 G1 D1) A G a w) :
    SimG ⟨C.P, C.w0, C.I0, C.E, C.N, C.K, C.G0, C.Γ, D1, C.R⟩ A G a w := by
  refine ⟨S.os.trans h.os, S.tape.trans h.tape, S.output.trans h.output, Nat.le_trans h.size S.size, fun k h1 h2 => ?_, h.sub.trans S.sub, fun g hg => (h.rel g hg).trans (S.rel g hg), S.glob, fun b o hi => ?_, S.val, S.nts, S.dfs, fun k => ?_, S.apart⟩
  · have hno : ¬ E1 k := by
      intro ho
      rcases h.own k (.inr ho) with h3 | h3
      · exact absurd h1 (by show ¬ k < C.w0.heap.size; omega)
      · exact h2 h3
    exact (S.block k (Nat.lt_of_lt_of_le h1 h.size) hno).trans (h.block k h1 h2)
  · rcases S.new b o hi with h3 | h3 | h3
    · exact h.new b o h3
    · exact .inr (h.own b (.inl h3))
    · exact .inr (h.own b (.inr h3))
  · cases hr : (A k).res
    · exact (S.holds k).mono_slot hr (Le.refl _ _) (GRel.refl _)
    · exact (S.holds k).reown hr (fun b _ _ h3 => h.own b h3)

/-- The marks lie as they lay. -/
theorem Sw.mark_at {C : Cx} {w1 : World} {I1 : Nat → Nat → Prop} {E1 : Nat → Prop} {G1 : Gh} {Ds : List Nat} (h : Sw C w1 I1 E1 G1 Ds) {D1 : List Deferred} {A : Nat → SV} {G : Gh} {a : Act} {w : World} (S : SimG (upC C w1 I1 E1 G1 D1) A G a w) :
    ∀ d ∈ Ds, w.heap[d]? = some (.deferred (some [])) ∧ C.w0.heap.size ≤ d ∧ d < w1.heap.size := by
  intro d hd
  obtain ⟨h1, h2, h3, h4⟩ := h.marks d hd
  exact ⟨(S.block d h1 h2).trans h4, h3, h1⟩

def FW (C : Cx) (c : Code) (st : St) (Q : Exit → St → Prop) : Prop :=
  ∀ a w, SimX C (look st) a w → ∀ n, c.wpIn (fen C.R) n C.P (fun e a' w' => ∃ st', Q e st' ∧ SimX C (look st') a' w') a w

theorem fw_aw {P : Program} {w0 : World} {I0 : Nat → Nat → Prop} {E : Nat → Prop} {N : Nat} {G0 : Gh} {Γ : List (Nat × AV)} {c : Code} {st : St} {Q : Exit → St → Prop}
    (h : ∀ w1 I1 E1 G1 D1, AW ⟨P, w1, I1, E1, N, 100000, G1, Γ, D1, none⟩ c st Q) : FW ⟨P, w0, I0, E, N, 100000, G0, Γ, [], none⟩ c st Q := by
  rintro a w ⟨w1, I1, E1, G1, Ds, sw, S⟩ n
  refine wpIn_mono (h w1 I1 E1 G1 _ a w S n) ?_
  rintro e a' w' ⟨st', q, S'⟩
  exact ⟨st', q, w1, I1, E1, G1, Ds, sw, S'⟩

theorem fw_seq {C : Cx} {x y : Code} {st : St} {Q : Exit → St → Prop} (h : FW C x st (thn (fun st' => FW C y st' Q) Q)) : FW C (.seq x y) st Q := by
  intro a w S n
  refine wpIn_seq (wpIn_mono (h a w S n) ?_)
  rintro e a' w' ⟨st', q, S'⟩
  cases e with
  | normal => exact q a' w' S' n
  | exit id => exact ⟨st', q, S'⟩
  | goto l => exact ⟨st', q, S'⟩
  | ret => exact ⟨st', q, S'⟩
  | panic c => exact ⟨st', q, S'⟩
  | outgrown => exact ⟨st', q, S'⟩

theorem fw_block {C : Cx} {id : Nat} {c : Code} {st : St} {Q : Exit → St → Prop} (h : FW C c st (blk id (fun st' => Q .normal st') Q)) : FW C (.block id c) st Q := by
  intro a w S n
  refine wpIn_block (wpIn_mono (h a w S n) ?_)
  rintro e a' w' ⟨st', q, S'⟩
  cases e with
  | normal => exact ⟨st', q, S'⟩
  | exit i =>
    simp only [blk] at q
    simp only [Exit.inBlock]
    split
    · rename_i hi; rw [if_pos hi] at q; exact ⟨st', q, S'⟩
    · rename_i hi; rw [if_neg hi] at q; exact ⟨st', q, S'⟩
  | goto l => exact ⟨st', q, S'⟩
  | ret => exact ⟨st', q, S'⟩
  | panic c => exact ⟨st', q, S'⟩
  | outgrown => exact ⟨st', q, S'⟩

/-! The function's end -/

theorem leaves_of {P : Program} {w : World} {I : Nat → Nat → Prop} {N K : Nat} {G0 : Gh} {Γ : List (Nat × AV)} {D : List Deferred} {R : Option Nat} {st : St} {G : Gh} {a : Act} {w' : World} {fn : Func} {rs : List AV}
    (S : SimG ⟨P, w, I, fun _ => False, N, K, G0, Γ, D, R⟩ (look st) G a w') (q : retAll P st fn.results.toList rs) : ∃ v, (results fn a.tmps).run P w' = .ok v w' ∧ Leaves w I rs (.returned v) w' := by
  obtain ⟨vs, h1, h2⟩ := ret_run S _ _ q
  have hb : Below w.heap.size w w' := ⟨S.os, S.tape, S.output, S.size, fun k hk => S.block k hk (fun h => h)⟩
  have hni : NewI w I G.I := fun b o hi => by
    rcases S.new b o hi with h | h | h
    · exact .inl h
    · exact .inr h
    · exact h.elim
  have hrun : (results fn a.tmps).run P w' = .ok (if h : vs.length = 1 then vs[0] else .tuple (List.toArray vs)) w' := by
    have e : results fn a.tmps = (do let vs ← fn.results.mapM (rvSem a.tmps); pure (if h : vs.size = 1 then vs[0] else .tuple vs)) := by
      unfold results
      congr 1
    rw [e, Array.mapM_eq_mapM_toList]
    simp only [Sem.run_bind, Sem.run_map, h1, Result.andThen_ok, Sem.run_pure]
    simp
  refine ⟨_, hrun, _, G.I, rfl, hb, S.sub, hni, S.val, ?_⟩
  have hlen := repVs_len h2
  unfold resV
  split
  · rename_i r
    simp at hlen
    rw [dif_pos hlen]
    obtain ⟨v, h3, h4⟩ := repVs_get (j := 0) h2 rfl
    have : vs[0] = v := by rw [List.getElem?_eq_getElem (by omega)] at h3; exact Option.some.inj h3
    rw [this]; exact h4
  · rename_i h0
    have : ¬ vs.length = 1 := by
      intro h1
      rw [h1] at hlen
      match rs, hlen with
      | [r], _ => exact h0 r rfl
    rw [dif_neg this]
    exact ⟨vs, rfl, h2⟩

theorem leavesM {P : Program} {w : World} {I : Nat → Nat → Prop} {N K : Nat} {G0 : Gh} {Γ : List (Nat × AV)} {D : List Deferred} {R : Option Nat} {st : St} {G : Gh} {a : Act} {fn : Func} {rs : List AV} {n : Nat} (q : retAll P st fn.results.toList rs) :
    ∀ (Ds : List Nat) (w' : World), Ds.Nodup → (∀ d ∈ Ds, w'.heap[d]? = some (.deferred (some [])) ∧ w.heap.size ≤ d) → SimG ⟨P, w, I, fun _ => False, N, K, G0, Γ, D, R⟩ (look st) G a w' →
    LeavesInM Fence.wide n P fn a.tmps (Leaves w I rs) (Ds.map mark) .returning w'
  | [], w', _, _, S => leaves_of S q
  | d :: Ds, w', hn, hm, S => by
    obtain ⟨h1, h2⟩ := hm d List.mem_cons_self
    refine ⟨by simp, .inl ⟨d, _, rfl, run_takeDeferred h1, ?_⟩⟩
    rw [List.nodup_cons] at hn
    refine leavesM q Ds _ hn.2 (fun d' hd' => ?_) (S.book h1 rfl rfl (.inl h2))
    obtain ⟨h3, h4⟩ := hm d' (List.mem_cons_of_mem _ hd')
    have : d' ≠ d := by rintro rfl; exact hn.1 hd'
    exact ⟨(World.putObj_heap_other this).trans h3, h4⟩

theorem pcall_of_fw {P : Program} {Γ : List (Nat × AV)} {f : FuncId} {fn : Func} {c : Code} {N : Nat} {xs rs : List AV} (hf : P.funcs[f]? = some fn) (hb : fn.body = some c) (hnt : fn.ntmps = N) (hcal : callable P f = true)
    (hN : Nat.ble xs.length N = true) (h : ∀ w0 I0 G0, FW ⟨P, w0, I0, fun _ => False, N, 100000, G0, Γ, [], none⟩ c (params 0 xs) (Post P fn rs)) : PCall P Γ f xs rs := by
  refine ⟨hcal, fun w I args hv hgl hr => (callsIn_wide (n := 0)).1 (callsIn_of_wp_marks hf hb trivial ?_)⟩
  rw [hnt]
  have S0 := start_simG (P := P) (K := 100000) hv hgl hr (Nat.le_of_ble_eq_true hN)
  refine wpIn_mono (h w I (gh0 I) _ w ⟨_, _, _, _, _, Sw.start _, _, S0⟩ 0) ?_
  rintro e a' w' ⟨st', q, w1, I1, E1, G1, Ds, sw, G, S⟩
  have fin : retAll P st' fn.results.toList rs → LeavesInM Fence.wide 0 P fn a'.tmps (Leaves w I rs) a'.defers .returning w' := by
    intro q
    have hd : a'.defers = Ds.map mark := S.dfs
    rw [hd]
    exact leavesM q Ds w' sw.nodup (fun d hd => ⟨(sw.mark_at S d hd).1, (sw.mark_at S d hd).2.1⟩) (sw.back S)
  cases e <;> first | exact fin q | exact q.elim

end Go.Al

namespace Go.Al
open Go.RowKit

theorem le_book {w : World} {I : Nat → Nat → Prop} {d : Nat} {o o' : Obj} (h : w.heap[d]? = some o) (ho : isBook o = true) (ho' : isBook o' = true) : Le w I (w.putObj d o') I := by
  have hlt : d < w.heap.size := (Array.getElem?_eq_some_iff.1 h).1
  have hsame : (w.putObj d o').heap[d]? = some o' := World.putObj_heap_same hlt
  intro b n hi
  refine ⟨hi, ?_⟩
  by_cases e : b = d
  · subst e
    refine ⟨by rw [cell_book hsame ho', cell_book h ho], fun es ck h1 => ?_⟩
    rw [h] at h1; cases h1; cases ho
  · exact kp_of_block (World.putObj_heap_other e)

/-- The slots that each round finds as they were at the loop's beginning. -/
def okT (N : Nat) : St → Bool
  | [] => true
  | (k, x) :: st => Nat.blt k N && (match x with | .imm _ => true | .ptr g _ => Nat.ble 50000 g | _ => false) && okT N st

theorem okT_spec {N : Nat} : ∀ {T : St}, okT N T = true → ∀ k, has T k = true → (∃ x, look T k = .imm x) ∨ ∃ g o, look T k = .ptr g o ∧ 50000 ≤ g
  | [], _, k, h => by simp [has] at h
  | (j, x) :: T, h, k, hk => by
    simp only [okT, Bool.and_eq_true] at h
    simp only [look, upd]
    simp only [has, Bool.or_eq_true] at hk
    cases hb : Nat.beq j k
    · exact okT_spec h.2 k (by simpa [hb] using hk)
    · cases x with
      | imm x => exact .inl ⟨x, rfl⟩
      | ptr g o => exact .inr ⟨g, o, rfl, Nat.le_of_ble_eq_true h.1.2⟩
      | _ => exact absurd h.1.2 (by simp)

theorem look_in {T H : St} {k : Nat} (h : has T k = true) : look (T ++ H) k = look T k := by
  rw [← upd_look]
  show upd (look H) T k = upd (fun _ => .dead) T k
  exact upd_congr T k h
theorem look_out {T H : St} {k : Nat} (h : has T k = false) : look (T ++ H) k = look H k := by
  rw [← upd_look]; exact upd_of_not _ _ _ h

theorem next_round {C : Cx} {T H H' st2 : St} {G G2 : Gh} {a0 a2 : Act} {w w3 : World} {D2 : List Deferred} {R : Option Nat} (S : SimG C (look (T ++ H)) G a0 w)
    (S3 : SimG ⟨C.P, C.w0, C.I0, C.E, C.N, C.K, C.G0, C.Γ, D2, R⟩ (look st2) G2 a2 w3) (hle : Le w G.I w3 G2.I) (hrel : ∀ g, 50000 ≤ g → G2.blk g = G.blk g)
    (hT : okT C.N T = true) (hH : resAll C.N H' = true) (hs : sub st2 H') : SimG C (look (T ++ H')) G2 a0 w3 := by
  have hown : ∀ k b, ownsB G2 k b (look (T ++ H') k) → ownsB G2 k b (look st2 k) := by
    intro k b h
    cases hk : has T k
    · rw [look_out hk] at h
      rcases sub_spec hs k with e | e
      · rw [e] at h; simp only [ownsB] at h
      · rw [e] at h; exact h
    · rw [look_in hk] at h
      rcases okT_spec hT k hk with ⟨x, e⟩ | ⟨g, o, e, _⟩ <;> rw [e] at h <;> simp only [ownsB] at h
  refine ⟨S3.os, S3.tape, S3.output, S3.size, S3.block, S3.sub, S3.rel, S3.glob, S3.new, S3.val, S.nts, S.dfs, fun k => ?_, fun k j b hkj h1 h2 => S3.apart k j b hkj (hown k b h1) (hown j b h2)⟩
  cases hk : has T k
  · rw [look_out hk]
    rcases resAll_spec hH k with e | ⟨e, _⟩
    · rw [e]; simp only [Holds]
    · rcases sub_spec hs k with e1 | e1
      · rw [e1]; simp only [Holds]
      · have h := S3.holds k
        rw [← e1] at h
        exact h.reown e (fun b _ _ h => h)
  · have hS := S.holds k
    rw [look_in hk] at hS ⊢
    rcases okT_spec hT k hk with ⟨x, e⟩ | ⟨g, o, e, hg⟩
    · rw [e] at hS ⊢
      simp only [Holds] at hS ⊢
      refine ⟨hS.1, ?_⟩
      obtain ⟨c, h1, h2⟩ := hS.2
      simp only [RepS] at h1
      exact ⟨c, by simp only [RepS]; exact RepC.mono hle _ _ h1, h2⟩
    · rw [e] at hS ⊢
      simp only [Holds] at hS ⊢
      refine ⟨hS.1, ?_⟩
      obtain ⟨c, h1, h2⟩ := hS.2
      simp only [RepS] at h1
      exact ⟨c, by simp only [RepS]; rw [hrel g hg]; exact h1, h2⟩

def putsSt : List Nat → List AV → St → St
  | p :: ps, x :: xs, st => putsSt ps xs ((p, .imm x) :: st)
  | _, _, st => st

theorem SimG.puts {C : Cx} {G : Gh} {w : World} : ∀ (ps : List Nat) (xs : List AV) (vs : List Value) (st : St) (a : Act), ps.all (fun p => Nat.blt p C.N) = true → RepVs w G.I xs vs → SimG C (look st) G a w →
    SimG C (look (putsSt ps xs st)) G { tmps := (ps.zip vs).foldl (fun t (p : Nat × Value) => t.setIfInBounds p.1 p.2) a.tmps, defers := a.defers } w
  | [], _, _, st, a, _, _, S => by simpa [putsSt] using S
  | p :: ps, [], vs, st, a, _, h, S => by simp only [RepVs] at h; subst h; simpa [putsSt] using S
  | p :: ps, x :: xs, vs, st, a, hp, h, S => by
    simp only [RepVs] at h
    obtain ⟨c, r, rfl, h1, h2⟩ := h
    simp only [List.all_cons, Bool.and_eq_true] at hp
    have S1 := S.put (d := p) (by simpa [Nat.blt_eq] using hp.1) (x := .imm x) (v := mkV x c) (valS_imm.2 ⟨c, h1, rfl⟩)
    have S2 := SimG.puts ps xs r ((p, .imm x) :: st) (a.put (some p) (mkV x c)) hp.2 h2 S1
    simpa [putsSt, Act.put] using S2

def bodyQ (N : Nat) (T : St) (H : Nat → St) (ok : Nat → Prop) (Q : Exit → St → Prop) (i : Nat) : Exit → St → Prop
  | .normal, st => ok (i + 1) ∧ sub st (H (i + 1))
  | .exit id, st => ∃ Hx, resAll N Hx = true ∧ sub st Hx ∧ Q (.exit id) (T ++ Hx)
  | .ret, st => ∃ Hx, resAll N Hx = true ∧ sub st Hx ∧ Q .ret (T ++ Hx)
  | _, _ => False

/-- Between two rounds; behind the last one, if it left the loop. -/
def RJ (C1 : Cx) (T : St) (H : Nat → St) (ok : Nat → Prop) (Q : Exit → St → Prop) (a0 : Act) (l d : Nat) (rec : LoopState → Option Code → Loop) : Option Nat → (Nat → Nat → Prop) → World → Prop
  | some i, I, W => ∃ G : Gh, ok i ∧ G.I = I ∧ SimG C1 (look (T ++ H i)) G a0 W ∧ W.heap[l]? = some (.loop (rec .ready none)) ∧ W.heap[d]? = some (.deferred (some []))
  | none, I, W => ∃ (G : Gh) (c : Code) (Hx : St), G.I = I ∧ SimG C1 (look (T ++ Hx)) G a0 W ∧ W.heap[l]? = some (.loop (rec .done (some c))) ∧ W.heap[d]? = some (.deferred (some [])) ∧
      ((∃ id, c = .exit id ∧ Q (.exit id) (T ++ Hx)) ∨ (c = .ret ∧ Q .ret (T ++ Hx)))

theorem rj_grow {C1 : Cx} {T : St} {H : Nat → St} {ok : Nat → Prop} {Q : Exit → St → Prop} {a0 : Act} {l d : Nat} {rec : LoopState → Option Code → Loop} : Grow (RJ C1 T H ok Q a0 l d rec) := by
  intro j I w I' w' h hb hle hn hv
  have keep : ∀ {k : Nat} {o : Obj}, w.heap[k]? = some o → w'.heap[k]? = some o := fun h => (hb.block _ (Array.getElem?_eq_some_iff.1 h).1).trans h
  cases j with
  | some i =>
    obtain ⟨G, h0, rfl, S, h1, h2⟩ := h
    exact ⟨{ G with I := I' }, h0, rfl, S.called hb hle hn hv, keep h1, keep h2⟩
  | none =>
    obtain ⟨G, c, Hx, rfl, S, h1, h2, h3⟩ := h
    exact ⟨{ G with I := I' }, c, Hx, rfl, S.called hb hle hn hv, keep h1, keep h2, h3⟩

theorem not_own {C : Cx} {A : Nat → SV} {G : Gh} {a : Act} {w : World} (S : SimG C A G a w) {k : Nat} {o : Obj} (h : w.heap[k]? = some o) (ho : isBook o = true) : ¬ own A G k := by
  rintro ⟨j, hj⟩
  have := (S.holds j).kind hj h
  rw [ho] at this; cases this

theorem rj_round {P : Program} {w1 : World} {I1 : Nat → Nat → Prop} {E1 : Nat → Prop} {N : Nat} {G1 : Gh} {Γ : List (Nat × AV)} {T : St} {H : Nat → St} {ok : Nat → Prop} {Q : Exit → St → Prop} {a0 : Act} {l d m : Nat} {fn : FuncId} {ps : Array Tmp} {assign body : Code}
    {L : List (List AV)} (hD0 : a0.defers = []) (hl1 : w1.heap.size ≤ l) (hT : okT N T = true) (hld : l ≠ d) (hH : ∀ i, resAll N (H i) = true) (hps : ∀ xs ∈ L, xs.length = ps.size) (hpN : ps.toList.all (fun p => Nat.blt p N) = true)
    (hbody : ∀ i xs, ok i → L[i]? = some xs → ∀ w1 I1 E1 G1 R, AW ⟨P, w1, I1, E1, N, 50000, G1, Γ, [], R⟩ assign (putsSt ps.toList xs (T ++ H i))
      (thn (fun st1 => ∀ w1 I1 E1 G1, AW ⟨P, w1, I1, E1, N, 50000, G1, Γ, [], R⟩ body st1 (bodyQ N T H ok Q i)) (fun _ _ => False)))
    {i : Nat} {xs : List AV} {I : Nat → Nat → Prop} {W : World} {vs : List Value} (hx : L[i]? = some xs)
    (hj : RJ ⟨P, w1, I1, E1, N, 100000, G1, Γ, [], none⟩ T H ok Q a0 l d (fun st pe => { state := st, pending := pe, fn, tmps := a0.tmps, params := ps, assign, body, defers := d }) (some i) I W) (hv : RepVs W I xs vs) :
    YieldAt (fen none) m P l (List.toArray vs) W (YPost (RJ ⟨P, w1, I1, E1, N, 100000, G1, Γ, [], none⟩ T H ok Q a0 l d (fun st pe => { state := st, pending := pe, fn, tmps := a0.tmps, params := ps, assign, body, defers := d })) I W (some (i + 1)) none) := by
  obtain ⟨G, hok, rfl, S, hl, hd⟩ := hj
  have hlen : (List.toArray vs).size = ps.size := by
    have := repVs_len hv
    rw [hps xs (List.mem_of_getElem? hx)] at this
    simpa using this
  have hy := run_yield (P := P) (args := List.toArray vs) hl hlen
  refine ⟨fn, _, assign, body, hy, roundIn_of_wpIn trivial ?_⟩
  have Sp := SimG.puts ps.toList xs vs _ a0 hpN hv S
  have htm : (ps.zip (List.toArray vs)).foldl (fun (t : Array Value) (p : Nat × Value) => t.setIfInBounds p.1 p.2) a0.tmps = (ps.toList.zip vs).foldl (fun t (p : Nat × Value) => t.setIfInBounds p.1 p.2) a0.tmps := by
    rw [← Array.foldl_toList]
    simp
  have Sa := (Sp.switch 50000).redefer [] (some l)
  rw [hD0] at Sa
  have haw := hbody i xs hok hx W G.I _ G (some l) _ W ⟨G, Sa⟩ m
  have hact : ({ tmps := (ps.zip (List.toArray vs)).foldl (fun (t : Array Value) (p : Nat × Value) => t.setIfInBounds p.1 p.2) a0.tmps, defers := [] } : Act) = { tmps := (ps.toList.zip vs).foldl (fun t (p : Nat × Value) => t.setIfInBounds p.1 p.2) a0.tmps, defers := [] } := by rw [htm]
  refine hact ▸ wpIn_mono haw ?_
  rintro e a1 W2 ⟨st1, q, G2, S2⟩
  cases e with
  | normal =>
    have hl2 := (S2.block l (Array.getElem?_eq_some_iff.1 hl).1 (not_own Sp hl rfl)).trans hl
    have hd2 := (S2.block d (Array.getElem?_eq_some_iff.1 hd).1 (not_own Sp hd rfl)).trans hd
    refine ⟨_, run_beginRound hl2 rfl, ?_⟩
    have S2' := Sp.back (K := 50000) (by show 50000 ≤ 100000; omega) S2
    have S3 := S2'.book hl2 (o' := .loop { state := .busy, pending := none, fn, tmps := a0.tmps, params := ps, assign, body, defers := d }) rfl rfl (.inl hl1)
    have hle23 : Le W2 G2.I (W2.putObj l (.loop { state := .busy, pending := none, fn, tmps := a0.tmps, params := ps, assign, body, defers := d })) G2.I := le_book hl2 rfl rfl
    have hl3 : (W2.putObj l (.loop { state := .busy, pending := none, fn, tmps := a0.tmps, params := ps, assign, body, defers := d })).heap[l]? = some (.loop { state := .busy, pending := none, fn, tmps := a0.tmps, params := ps, assign, body, defers := d }) := World.putObj_heap_same (Array.getElem?_eq_some_iff.1 hl2).1
    have hd3 : (W2.putObj l (.loop { state := .busy, pending := none, fn, tmps := a0.tmps, params := ps, assign, body, defers := d })).heap[d]? = some (.deferred (some [])) := (World.putObj_heap_other (Ne.symm hld)).trans hd2
    generalize (W2.putObj l (.loop { state := .busy, pending := none, fn, tmps := a0.tmps, params := ps, assign, body, defers := d })) = W3 at S3 hle23 hl3 hd3 ⊢
    refine wpIn_mono (q W3 G2.I _ G2 a1 W3 ⟨G2, S3.switch 50000⟩ m) ?_
    rintro e a3 W4 ⟨st3, q3, G3, S4⟩
    have S4' := S3.back (K := 50000) (by show 50000 ≤ 100000; omega) S4
    have hl4 := (S4.block l (Array.getElem?_eq_some_iff.1 hl3).1 (not_own S3 hl3 rfl)).trans hl3
    have hd4 := (S4.block d (Array.getElem?_eq_some_iff.1 hd3).1 (not_own S3 hd3 rfl)).trans hd3
    have hle : Le W G.I W4 G3.I := (S2.sub.trans hle23).trans S4.sub
    have hrel : ∀ g, 50000 ≤ g → G3.blk g = G.blk g := fun g hg => (S4.rel g hg).1.trans (S2.rel g hg).1
    have fin : ∀ (jump : Option Code) (Hx : St), resAll N Hx = true → sub st3 Hx → ∃ W5, (Instr.endRound l jump).run P W4 = .ok (.bool jump.isNone) W5 ∧ Le W G.I W5 G3.I ∧ ValI W5 G3.I ∧
        SimG ⟨P, w1, I1, E1, N, 100000, G1, Γ, [], none⟩ (look (T ++ Hx)) G3 a0 W5 ∧ W5.heap[l]? = some (.loop { state := if jump.isNone then .ready else .done, pending := jump, fn, tmps := a0.tmps, params := ps, assign, body, defers := d }) ∧ W5.heap[d]? = some (.deferred (some [])) := by
      intro jump Hx hres hsub
      have Sn := next_round (C := ⟨P, w1, I1, E1, N, 100000, G1, Γ, [], none⟩) S S4' hle hrel hT hres hsub
      have S5 := Sn.book hl4 (o' := .loop { state := if jump.isNone then .ready else .done, pending := jump, fn, tmps := a0.tmps, params := ps, assign, body, defers := d }) rfl rfl (.inl hl1)
      exact ⟨_, run_endRound jump hl4, hle.trans (le_book hl4 rfl rfl), S5.val, S5, World.putObj_heap_same (Array.getElem?_eq_some_iff.1 hl4).1, (World.putObj_heap_other (Ne.symm hld)).trans hd4⟩
    cases e with
    | normal =>
      obtain ⟨W5, h1, h2, h3, h4, h5, h6⟩ := fin none _ (hH (i + 1)) q3.2
      exact ⟨_, W5, h1, true, G3.I, rfl, h2, h3, G3, q3.1, rfl, h4, h5, h6⟩
    | exit id =>
      obtain ⟨Hx, k1, k2, k3⟩ := q3
      obtain ⟨W5, h1, h2, h3, h4, h5, h6⟩ := fin (some (.exit id)) Hx k1 k2
      exact ⟨_, W5, h1, false, G3.I, rfl, h2, h3, G3, _, Hx, rfl, h4, h5, h6, .inl ⟨id, rfl, k3⟩⟩
    | ret =>
      obtain ⟨Hx, k1, k2, k3⟩ := q3
      obtain ⟨W5, h1, h2, h3, h4, h5, h6⟩ := fin (some .ret) Hx k1 k2
      exact ⟨_, W5, h1, false, G3.I, rfl, h2, h3, G3, _, Hx, rfl, h4, h5, h6, .inr ⟨rfl, k3⟩⟩
    | goto t => exact q3.elim
    | panic ch => exact q3.elim
    | outgrown => exact q3.elim
  | exit id => exact q.elim
  | goto t => exact q.elim
  | ret => exact q.elim
  | panic ch => exact q.elim
  | outgrown => exact q.elim

theorem simx_after {C : Cx} {w1 : World} {I1 : Nat → Nat → Prop} {E1 : Nat → Prop} {G1 : Gh} {Ds : List Nat} (hR : C.R = none) (sw : Sw C w1 I1 E1 G1 Ds) {X : St} {G : Gh} {a : Act} {W : World} {d : Nat} (hd1 : w1.heap.size ≤ d)
    (hd : W.heap[d]? = some (.deferred (some []))) (S : SimG (upC C w1 I1 E1 G1 []) (look X) G { tmps := a.tmps, defers := [] } W) (ha : a.defers = Ds.map mark) :
    SimX C (look X) { a with defers := [{ target := .collected d, args := #[] }] ++ a.defers } W := by
  have Sb := sw.back S
  refine ⟨W, G.I, own (look X) G, G, d :: Ds, ⟨Sb.os, Sb.tape, Sb.output, Sb.size, Sb.block, fun b h => ?_, Sb.sub, Sb.rel, Sb.new, fun d' h => ?_, ?_⟩, G, ?_⟩
  · rcases h with h | ⟨k, hk⟩
    · exact .inl (Nat.le_trans Sb.size h)
    · exact ((Sb.holds k).owned hk).1
  · rcases List.mem_cons.1 h with rfl | h
    · exact ⟨(Array.getElem?_eq_some_iff.1 hd).1, not_own Sb hd rfl, Nat.le_trans sw.size hd1, hd⟩
    · obtain ⟨h1, h2, h3⟩ := sw.mark_at S d' h
      exact ⟨(Array.getElem?_eq_some_iff.1 h1).1, not_own Sb h1 rfl, h2, h1⟩
  · rw [List.nodup_cons]
    refine ⟨fun h => ?_, sw.nodup⟩
    have := (sw.mark_at S d h).2.2
    omega
  · have S1 := (S.switch C.K).redefer ((d :: Ds).map mark) C.R
    have e : ({ a with defers := [{ target := .collected d, args := #[] }] ++ a.defers } : Act) = { tmps := a.tmps, defers := (d :: Ds).map mark } := by rw [ha]; rfl
    rw [e]; exact S1

theorem fw_range {P : Program} {w0 : World} {I0 : Nat → Nat → Prop} {E : Nat → Prop} {N : Nat} {G0 : Gh} {Γ : List (Nat × AV)} {gop : Operand} {ps : Array Tmp} {assign body : Code} {st : St} {Q : Exit → St → Prop} {f : FuncId} {caps : List AV} {L : List (List AV)}
    (T : St) (H : Nat → St) (ok : Nat → Prop) (ok0 : ok 0) (hseq : SeqC P Γ f caps L) (hg : opV (look st) gop = some (.fn (.func f) [] caps)) (h0 : sub st (T ++ H 0)) (hT : okT N T = true) (hH : ∀ i, resAll N (H i) = true)
    (hps : ∀ xs ∈ L, xs.length = ps.size) (hpN : ps.toList.all (fun p => Nat.blt p N) = true)
    (hbody : ∀ i xs, ok i → L[i]? = some xs → ∀ w1 I1 E1 G1 R, AW ⟨P, w1, I1, E1, N, 50000, G1, Γ, [], R⟩ assign (putsSt ps.toList xs (T ++ H i))
      (thn (fun st1 => ∀ w1 I1 E1 G1, AW ⟨P, w1, I1, E1, N, 50000, G1, Γ, [], R⟩ body st1 (bodyQ N T H ok Q i)) (fun _ _ => False)))
    (hdone : ok L.length → Q .normal (T ++ H L.length)) : FW ⟨P, w0, I0, E, N, 100000, G0, Γ, [], none⟩ (.rangeFunc gop ps assign body) st Q := by
  rintro a w ⟨w1, I1, E1, G1, Ds, sw, G, S⟩ n
  obtain ⟨c, h1, h2⟩ := S.opV hg
  simp only [RepC, RepVs] at h1
  obtain ⟨fs, gs, rfl, rfl, hgs⟩ := h1
  have hev : a.eval gop = .func (.func f) #[] (List.toArray gs) := by rw [h2]; rfl
  have hda : a.defers = Ds.map mark := S.dfs
  have hsz : w1.heap.size ≤ w.heap.size := S.size
  refine wpIn_rangeFunc ?_
  intro fn hfn
  obtain ⟨W1, hW1⟩ : ∃ W1, (w.alloc (.deferred (some []))).alloc (.loop { state := .ready, pending := none, fn, tmps := a.tmps, params := ps, assign, body, defers := w.heap.size }) = W1 := ⟨_, rfl⟩
  have hL1 : W1.heap[w.heap.size + 1]? = some (.loop { state := .ready, pending := none, fn, tmps := a.tmps, params := ps, assign, body, defers := w.heap.size }) := by
    rw [← hW1]; have := World.alloc_heap_new (w.alloc (.deferred (some []))) (.loop { state := .ready, pending := none, fn, tmps := a.tmps, params := ps, assign, body, defers := w.heap.size }); rwa [World.size_alloc] at this
  have hK1 : W1.heap[w.heap.size]? = some (.deferred (some [])) := by
    rw [← hW1]; exact (Below.heap_alloc _ _ _ (by simp)).trans (World.alloc_heap_new w _)
  have S1 : SimG ⟨P, w1, I1, E1, N, 100000, G1, Γ, [], none⟩ (look (T ++ H 0)) G { tmps := a.tmps, defers := [] } W1 := by
    rw [← hW1]; exact (((S.weak (sub_spec h0)).newBook _).newBook _).redefer [] none
  have hle1 : Le w G.I W1 G.I := by
    intro b o hi
    refine ⟨hi, kp_of_block ?_⟩
    have hb := S.val b o hi
    rw [← hW1, Below.heap_alloc _ _ _ (by simp; omega), Below.heap_alloc _ _ _ hb]
  refine ⟨w.heap.size + 1, [{ target := .collected w.heap.size, args := #[] }], W1, { target := .fn (.func f) (List.toArray gs), args := #[.func (.yield (w.heap.size + 1)) #[] #[]] }, W1, f,
    #[.func (.yield (w.heap.size + 1)) #[] #[]] ++ List.toArray gs, W1, ?_, ?_, fun _ _ => trivial, ?_, fun h => by simp [fen, Fence.wide] at h, ?_⟩
  · rw [← hW1]; exact run_enterLoop_outer _ _ _ _ _
  · simp only [resolve, hev]
    simp [go_sem]
  · simp only [invoke, run_callFunc hseq.1]
  · have hcall := hseq.2 (n - 1) (w.heap.size + 1) (RJ ⟨P, w1, I1, E1, N, 100000, G1, Γ, [], none⟩ T H ok Q { tmps := a.tmps, defers := [] } (w.heap.size + 1) w.heap.size (fun st pe => { state := st, pending := pe, fn, tmps := a.tmps, params := ps, assign, body, defers := w.heap.size }))
      W1 G.I gs rj_grow S1.val S1.glob (RepVs.mono hle1 _ _ hgs)
      (fun i xs I W vs hx hj hv => rj_round rfl (by omega) hT (by omega) hH hps hpN hbody hx hj hv) ⟨G, ok0, rfl, S1, hL1, hK1⟩
    refine hcall.mono ?_
    rintro e W2 ⟨v, I', rfl, ⟨G2, hok, _, S2, hl2, hd2⟩ | ⟨G2, c, Hx, _, S2, hl2, hd2, hc⟩⟩
    · refine ⟨none, _, run_endLoop hl2 (by simp), T ++ H L.length, hdone hok, ?_⟩
      exact simx_after rfl sw hsz ((World.putObj_heap_other (by omega)).trans hd2) (S2.book hl2 rfl rfl (.inl (by show w1.heap.size ≤ _; omega))) hda
    · refine ⟨some c, _, run_endLoop hl2 (by simp), ?_⟩
      have hx := simx_after rfl sw hsz ((World.putObj_heap_other (by omega)).trans hd2) (S2.book hl2 (o' := .loop { state := .exhausted, pending := some c, fn, tmps := a.tmps, params := ps, assign, body, defers := w.heap.size }) rfl rfl (.inl (by show w1.heap.size ≤ _; omega))) hda
      rcases hc with ⟨id, rfl, hq⟩ | ⟨rfl, hq⟩
      · exact wpIn_exit ⟨_, hq, hx⟩
      · exact wpIn_ret ⟨_, hq, hx⟩

end Go.Al

namespace Go.Proofs
open Go Go.Al

/-! ### All places of a batch, and what stands there -/

theorem plC_app (i : Nat) : ∀ (k : Nat) (l m : List GScope), plC i k (l ++ m) = plC i k l ++ plC i (k + l.length) m
  | k, [], m => by simp [plC]
  | k, x :: l, m => by
    simp only [List.cons_append, plC, plC_app i (k + 1) l m, List.append_assoc, List.length_cons]
    rw [show k + 1 + l.length = k + (l.length + 1) by omega]
theorem plR_app : ∀ (i : Nat) (l m : List GRes), plR i (l ++ m) = plR i l ++ plR (i + l.length) m
  | i, [], m => by simp [plR]
  | i, x :: l, m => by
    simp only [List.cons_append, plR, plR_app (i + 1) l m, List.append_assoc, List.length_cons]
    rw [show i + 1 + l.length = i + (l.length + 1) by omega]

theorem nthC_at {l : List GScope} {k : Nat} (h : k < l.length) : l = l.take k ++ nthC l k :: l.drop (k + 1) := by
  have : nthC l k = l[k] := by simp [nthC, nth, h]
  rw [this, List.getElem_cons_drop, List.take_append_drop]
theorem nthR_at {l : List GRes} {k : Nat} (h : k < l.length) : l = l.take k ++ nthR l k :: l.drop (k + 1) := by
  have : nthR l k = l[k] := by simp [nthR, nth, h]
  rw [this, List.getElem_cons_drop, List.take_append_drop]

theorem plC_at {i : Nat} {l : List GScope} {k m : Nat} (hk : k < l.length) (hm : m < (nthC l k).spans.length) : (plC i 0 l)[(plC i 0 (l.take k)).length + m]? = some (i, k, m) := by
  conv => lhs; arg 1; rw [nthC_at hk]
  have hlen : (l.take k).length = k := by rw [List.length_take]; omega
  rw [plC_app, List.getElem?_append_right (by omega), Nat.add_sub_cancel_left, Nat.zero_add, hlen, plC, List.getElem?_append_left (by simpa using hm)]
  simp [hm]
theorem pl_at {b : List GRes} {i k m : Nat} (hi : i < b.length) (hk : k < (nthR b i).scopes.length) (hm : m < (nthC (nthR b i).scopes k).spans.length) :
    (plR 0 b)[(plR 0 (b.take i)).length + (plC i 0 ((nthR b i).scopes.take k)).length + m]? = some (i, k, m) := by
  conv => lhs; arg 1; rw [nthR_at hi]
  have hlen : (b.take i).length = i := by rw [List.length_take]; omega
  rw [plR_app, Nat.add_assoc, List.getElem?_append_right (by omega), Nat.add_sub_cancel_left, Nat.zero_add, hlen, plR]
  have h1 := plC_at (i := i) hk hm
  rw [List.getElem?_append_left (List.getElem?_eq_some_iff.1 h1).1]
  exact h1

def spAt (b : List GRes) (p : Nat × Nat × Nat) : GSpan := nthS (nthC (nthR b p.1).scopes p.2.1).spans p.2.2
def rowAt (b : List GRes) (p : Nat × Nat × Nat) : List AV := [plav p, (spAt b p).av]
def seqB (b : List GRes) : List (List AV) := (plR 0 b).map (rowAt b)

theorem seqB_len (b : List GRes) : (seqB b).length = (plR 0 b).length := List.length_map ..
theorem seqB_two (b : List GRes) : ∀ xs ∈ seqB b, xs.length = 2 := by
  intro xs h
  obtain ⟨p, _, rfl⟩ := List.mem_map.1 h
  rfl
theorem seqB_get {b : List GRes} {i : Nat} {xs : List AV} (h : (seqB b)[i]? = some xs) : ∃ p, (plR 0 b)[i]? = some p ∧ xs = [plav p, (spAt b p).av] := by
  unfold seqB at h
  rw [List.getElem?_map] at h
  cases hp : (plR 0 b)[i]? with
  | none => rw [hp] at h; cases h
  | some p => rw [hp] at h; exact ⟨p, rfl, (Option.some.inj h).symm⟩
theorem seq_at {b : List GRes} {i k m : Nat} (hi : i < b.length) (hk : k < (nthR b i).scopes.length) (hm : m < (nthC (nthR b i).scopes k).spans.length) :
    (seqB b)[(plR 0 (b.take i)).length + (plC i 0 ((nthR b i).scopes.take k)).length + m]? = some [plav (i, k, m), (nthS (nthC (nthR b i).scopes k).spans m).av] := by
  unfold seqB
  rw [List.getElem?_map, pl_at hi hk hm]; rfl

theorem plR_mem' : ∀ {l m : List GRes} {p : Nat × Nat × Nat}, p ∈ plR m.length l → p.1 < (m ++ l).length ∧ p.2.1 < (nthR (m ++ l) p.1).scopes.length ∧ p.2.2 < (nthC (nthR (m ++ l) p.1).scopes p.2.1).spans.length
  | [], m, p, h => by simp [plR] at h
  | r :: l, m, p, h => by
    rw [plR] at h
    rcases List.mem_append.1 h with h | h
    · have hr : nthR (m ++ r :: l) m.length = r := by simp [nthR, nth]
      have h1 : p.1 = m.length := by
        have : ∀ (k : Nat) (cs : List GScope), p ∈ plC m.length k cs → p.1 = m.length := by
          intro k cs
          induction cs generalizing k with
          | nil => intro h; simp [plC] at h
          | cons c cs ih =>
            intro h
            rw [plC] at h
            rcases List.mem_append.1 h with h | h
            · obtain ⟨j, _, rfl⟩ := List.mem_map.1 h; rfl
            · exact ih _ h
        exact this _ _ h
      have h2 := plC_mem (i := m.length) (l := r.scopes) (m := []) (p := p) h
      rw [h1, hr]
      exact ⟨by simp, h2⟩
    · have := plR_mem' (l := l) (m := m ++ [r]) (p := p) (by simpa using h)
      simpa using this
theorem pl_mem {b : List GRes} {p : Nat × Nat × Nat} (h : p ∈ plR 0 b) : p.1 < b.length ∧ p.2.1 < (nthR b p.1).scopes.length ∧ p.2.2 < (nthC (nthR b p.1).scopes p.2.1).spans.length := plR_mem' (m := []) h
theorem pl_mem_iff {b : List GRes} {p : Nat × Nat × Nat} : p ∈ plR 0 b ↔ p.1 < b.length ∧ p.2.1 < (nthR b p.1).scopes.length ∧ p.2.2 < (nthC (nthR b p.1).scopes p.2.1).spans.length :=
  ⟨pl_mem, fun ⟨h1, h2, h3⟩ => List.mem_of_getElem? (pl_at h1 h2 h3)⟩

/-! ### What stands at a place -/
def zS : GSpan := ⟨List.replicate 16 0, List.replicate 8 0, List.replicate 8 0, ⟨#[]⟩, ⟨#[]⟩, 0, 0, 0, [], [], [], 0, ⟨#[]⟩⟩
def inB (b : List GRes) (p : Int × Int × Int) : Bool :=
  decide (0 ≤ p.1) && decide (p.1 < b.length) && (decide (0 ≤ p.2.1) && decide (p.2.1 < (nthR b p.1.toNat).scopes.length)) && (decide (0 ≤ p.2.2) && decide (p.2.2 < (nthC (nthR b p.1.toNat).scopes p.2.1.toNat).spans.length))
def natP (p : Int × Int × Int) : Nat × Nat × Nat := (p.1.toNat, p.2.1.toNat, p.2.2.toNat)
def intP (p : Nat × Nat × Nat) : Int × Int × Int := ((p.1 : Int), (p.2.1 : Int), (p.2.2 : Int))
def placeAv (p : Int × Int × Int) : AV := .agg [iv p.1, iv p.2.1, iv p.2.2]
def atS (b : List GRes) (p : Int × Int × Int) : GSpan := if inB b p then spAt b (natP p) else zS

theorem inB_iff {b : List GRes} {p : Int × Int × Int} : inB b p = true ↔ 0 ≤ p.1 ∧ p.1 < b.length ∧ (0 ≤ p.2.1 ∧ p.2.1 < (nthR b p.1.toNat).scopes.length) ∧ 0 ≤ p.2.2 ∧ p.2.2 < (nthC (nthR b p.1.toNat).scopes p.2.1.toNat).spans.length := by
  simp only [inB, Bool.and_eq_true, decide_eq_true_eq, and_assoc]
theorem inB_mem {b : List GRes} {p : Int × Int × Int} : inB b p = true ↔ ∃ q ∈ plR 0 b, intP q = p := by
  rw [inB_iff]
  constructor
  · rintro ⟨h1, h2, ⟨h3, h4⟩, h5, h6⟩
    refine ⟨natP p, pl_mem_iff.2 ⟨by show p.1.toNat < _; omega, by show p.2.1.toNat < (nthR b p.1.toNat).scopes.length; omega, by show p.2.2.toNat < (nthC (nthR b p.1.toNat).scopes p.2.1.toNat).spans.length; omega⟩, ?_⟩
    obtain ⟨x, y, z⟩ := p
    simp only [intP, natP]
    dsimp only at h1 h3 h5
    rw [Int.toNat_of_nonneg h1, Int.toNat_of_nonneg h3, Int.toNat_of_nonneg h5]
  · rintro ⟨q, hq, rfl⟩
    obtain ⟨h1, h2, h3⟩ := pl_mem hq
    simp only [intP, Int.toNat_natCast]
    omega
theorem inB_nat {b : List GRes} {q : Nat × Nat × Nat} (h : q ∈ plR 0 b) : inB b (intP q) = true := inB_mem.2 ⟨q, h, rfl⟩
theorem atS_nat {b : List GRes} {q : Nat × Nat × Nat} (h : q ∈ plR 0 b) : atS b (intP q) = spAt b q := by
  unfold atS; rw [if_pos (inB_nat h)]; rfl
end Go.Proofs

namespace Go.Al
section
variable {C : Cx} {A : Nat → SV} {d : Nat} {ty : TypeId} {pos : String} {af : Array Edge} {gd : Option (Nat × Bool)} {x y : Operand} {T T' : TypeId}

theorem rep_fn {w : World} {I : Nat → Nat → Prop} {f : Fn} {a b : List AV} {v : Value} (h : Rep w I (.fn f a b) v) : ∃ fs gs, v = .func f fs gs := by
  obtain ⟨c, h1, h2⟩ := h
  simp only [RepC] at h1
  obtain ⟨fs, gs, rfl, _⟩ := h1
  exact ⟨_, _, h2⟩

theorem run_eqNF {P : Program} {T : TypeId} {f : Fn} {fs gs : Array Value} {w : World} {p1 p2 : Array TypeId} {p3 : Bool} (hT : P.underlying T = some (.func p1 p2 p3)) (n : Nat) : (Op.equalIn (n + 1) T (.func f fs gs) .nilFunc).run P w = .ok false w := by
  simp [Op.equalIn, run_underlying' hT]

/-- A function is compared to nil. -/
theorem s_eqNF {f : Fn} {a b : List AV} {p1 p2 : Array TypeId} {p3 : Bool} (hN : Nat.blt d C.N = true) (hx : opV A x = some (.fn f a b)) (hy : opV A y = some (.v .nilFunc)) (hT : C.P.underlying T = some (.func p1 p2 p3)) :
    StepU C ⟨some d, .binOp .eql T x y T', ty, pos, af, gd⟩ (opR x ++ opR y) [] A [(d, .imm (.v (.bool false)))] :=
  StepU.op2 rfl hN hx hy fun w I ρ h1 h2 => by
    obtain ⟨fs, gs, e⟩ := rep_fn h1
    have e2 : ρ y = .nilFunc := rep_val h2 rfl
    exact ⟨_, run_eql (by rw [e, e2]; rfl) (by rw [e, e2]; rfl) (by rw [e, e2]; exact run_equal (run_eqNF hT)), rep_p w I rfl⟩
end

/-- A box of parts, as one whole that is read otherwise. -/
theorem aw_upB {C : Cx} {c : Code} {st : St} {Q : Exit → St → Prop} (g : Nat) {T : TypeId} {X : SV} {x : AV} (y : AV) (hg : look st g = .box T X) (hx : toAV X = some x) (hu : Up x y) (h : AW C c ((g, .box T (.imm y)) :: st) Q) : AW C c st Q := by
  intro a w ⟨G, S⟩
  refine h a w ⟨G, S.os, S.tape, S.output, S.size, S.block, S.sub, S.rel, S.glob, S.new, S.val, S.nts, S.dfs, fun j => ?_, fun j j' b hj h1 h2 => ?_⟩
  · have e := upd_one (look st) g (.box T (.imm y)) j
    rw [upd_look] at e
    rw [show ((g, SV.box T (.imm y)) :: st) = [(g, SV.box T (.imm y))] ++ st from rfl, e]
    split
    · rename_i hjk; subst hjk
      have := S.holds j
      rw [hg] at this
      simp only [Holds, BoxS] at this ⊢
      obtain ⟨h1, ⟨cs, fr, hb, hr, hf⟩, h2⟩ := this
      exact ⟨h1, ⟨cs, fr, hb, by simp only [RepS]; exact hu.2.2 _ _ _ (toAV_spec X x _ hx hr), hf⟩, h2⟩
    · exact S.holds j
  · have conv : ∀ j b, ownsB G j b (look ((g, SV.box T (.imm y)) :: st) j) → ownsB G j b (look st j) := by
      intro j b hb
      have e := upd_one (look st) g (.box T (.imm y)) j
      rw [upd_look] at e
      rw [show ((g, SV.box T (.imm y)) :: st) = [(g, SV.box T (.imm y))] ++ st from rfl, e] at hb
      split at hb
      · rename_i hjk; subst hjk; rw [hg]; simp only [ownsB] at hb ⊢; exact hb
      · exact hb
    exact S.apart j j' b hj (conv j b h1) (conv j' b h2)
end Go.Al

namespace Go.Proofs
open Go Go.Al
set_option maxRecDepth 10000
set_option maxHeartbeats 4000000 in
theorem eqdS_c (a b : List GSpan) (fn : FuncId) (hl : a.length ≤ 1000000000) (hf : ∀ x ∈ a, ∀ y : GSpan, PCall Tryd.prog Γ0 fn ([] ++ [x.av, y.av] ++ []) [bv (decide (x = y))]) : PCall Tryd.prog Γ0 89 [(.sl 42 (a.map GSpan.av)), (.sl 42 (b.map GSpan.av)), .fn (.func fn) [] []] [bv (decide (a = b))] := by
  refine pcall_of Tryd.func89 rfl Tryd.ntmps89 (by kernel_rfl) rfl fun w0 I0 G0 => ?_
  refine aw_seq ?_
  refine aw_region ?_
  refine g_u (s_as_imm rfl rfl) ?_
  refine g_nil ?_
  refine normal_thn ?_
  refine aw_seq ?_
  refine aw_seq ?_
  refine aw_region ?_
  refine g_u (s_mv_imm rfl rfl) ?_
  refine g_u (s_lenL rfl rfl Tryd.underlying61) ?_
  refine g_u (s_mv_imm rfl rfl) ?_
  refine g_u (s_lenL rfl rfl Tryd.underlying61) ?_
  refine g_u (s_neI rfl rfl rfl) ?_
  refine g_nil ?_
  refine normal_thn ?_
  refine aw_cond rfl (fun hb1 => ?_) (fun hb1 => ?_)
  · skip
    have q : ¬ a.length = b.length := by have e := bne_iff_ne.1 hb1; simp only [List.length_map] at e; omega
    refine aw_seq ?_
    refine aw_region ?_
    refine g_u (s_as_imm rfl rfl) ?_
    refine g_nil ?_
    refine normal_thn ?_
    refine aw_ret ?_
    refine ret_thn ?_
    exact ⟨⟨(rfl : toAV (Al.look _ _) = some _).trans (congrArg some (by (exact congrArg bv (by first | exact (decide_eq_false (fun e => q (by rw [e]))).symm | exact (decide_eq_true (ext_nth gs0 el (fun j hj => h2 j (by omega)))).symm)))), rfl⟩, trivial⟩
  · skip
    have el : a.length = b.length := by have e := bne_eq_false_iff_eq.1 hb1; simp only [List.length_map] at e; omega
    refine aw_skip ?_
    refine normal_thn ?_
    refine aw_seq ?_
    refine aw_seq ?_
    refine aw_region ?_
    refine g_u (s_mv_imm rfl rfl) ?_
    refine g_u (s_lenL rfl rfl Tryd.underlying61) ?_
    refine g_u (s_mv_imm rfl rfl) ?_
    refine g_nil ?_
    refine normal_thn ?_
    refine aw_block ?_
    refine aw_loop' (fun i : Nat => [(1, .imm (.sl 42 (b.map GSpan.av))), (2, .imm (.fn (.func fn) [] [])), (15, .imm (.sl 42 (a.map GSpan.av))), (16, .imm (iv (a.length : Int))), (17, .imm (iv (i : Int)))]) (fun i => i ≤ a.length ∧ ∀ j, j < i → nth a j gs0 = nth b j gs0) (fun i => a.length - i) (0) ?_ ⟨rfl, rfl, rfl, look_int rfl (by rw [List.length_map]), rfl, trivial⟩ ?_
    · exact ⟨Nat.zero_le _, fun j h => absurd h (Nat.not_lt_zero _)⟩
    · rintro i ⟨h1, h2⟩; (try dsimp only at h1 h2)
      refine aw_seq ?_
      refine aw_region ?_
      refine g_u (s_ltI rfl rfl rfl) ?_
      refine g_nil ?_
      refine normal_thn ?_
      refine aw_seq ?_
      refine aw_cond rfl (fun hb2 => ?_) (fun hb2 => ?_)
      · skip
        have hi : i < a.length := by have := of_decide_eq_true hb2; (try simp only [List.length_map] at this); omega
        have hib : i < b.length := by omega
        refine aw_skip ?_
        refine normal_thn ?_
        refine aw_seq ?_
        refine aw_block ?_
        refine aw_seq ?_
        refine aw_region ?_
        refine g_u (s_mv_imm rfl rfl) ?_
        refine g_u (s_indexAddr rfl rfl rfl Tryd.underlying61 tS52 (by omega) (ixS hi)) ?_
        refine g_u (s_load_cp rfl rfl tA52 tS52 rfl (by first | exact getS_w (GSpan.width _) rfl | rfl)) ?_
        refine g_uG (s_alloc' 1008 rfl rfl rfl tZ52) rfl ?_
        refine g_u (s_as_imm rfl rfl) ?_
        refine g_u (s_store_imm rfl rfl rfl tS52 (by first | exact beqW (GSpan.width _) | rfl) (by first | exact setS_w (z52_w.trans (GSpan.width _).symm) rfl | rfl)) ?_
        refine g_nil ?_
        refine normal_thn ?_
        refine aw_seq ?_
        refine aw_region ?_
        refine g_u (s_mv_imm rfl rfl) ?_
        refine g_u (s_mv_imm rfl rfl) ?_
        refine g_u (s_indexAddr rfl rfl rfl Tryd.underlying61 tS52 (by omega) (ixS hib)) ?_
        refine g_u (s_load_cp rfl rfl tA52 tS52 rfl (by first | exact getS_w (GSpan.width _) rfl | rfl)) ?_
        refine g_uG (s_alloc' 1009 rfl rfl rfl tZ52) rfl ?_
        refine g_u (s_store_imm rfl rfl rfl tS52 (by first | exact beqW (GSpan.width _) | rfl) (by first | exact setS_w (z52_w.trans (GSpan.width _).symm) rfl | rfl)) ?_
        refine g_nil ?_
        refine normal_thn ?_
        refine aw_seq ?_
        refine aw_region ?_
        refine g_u (s_mv_imm rfl rfl) ?_
        refine g_u (s_load_imm rfl rfl rfl tA52 tS52 rfl (by first | exact getS_w (GSpan.width _) rfl | rfl)) ?_
        refine g_u (s_load_imm rfl rfl rfl tA52 tS52 rfl (by first | exact getS_w (GSpan.width _) rfl | rfl)) ?_
        refine g_u (s_callv1 (hf _ (nthS_mem hi) _) rfl rfl rfl) ?_
        refine g_u (s_not rfl rfl) ?_
        refine g_nil ?_
        refine normal_thn ?_
        refine aw_cond rfl (fun hb3 => ?_) (fun hb3 => ?_)
        · skip
          have q : ¬ nthS a i = nthS b i := fun h => by have e := hb3; rw [decide_eq_true h] at e; cases e
          refine aw_seq ?_
          refine aw_region ?_
          refine g_u (s_as_imm rfl rfl) ?_
          refine g_nil ?_
          refine normal_thn ?_
          refine aw_ret ?_
          refine ret_blk ?_
          refine ret_thn ?_
          refine ret_thn ?_
          refine ret_blk ?_
          refine ret_thn ?_
          exact ⟨⟨(rfl : toAV (Al.look _ _) = some _).trans (congrArg some (by (exact congrArg bv (by first | exact (decide_eq_false (fun e => q (by rw [e]))).symm | exact (decide_eq_true (ext_nth gs0 el (fun j hj => h2 j (by omega)))).symm)))), rfl⟩, trivial⟩
        · skip
          have ev : nthS a i = nthS b i := by have e := hb3; simpa using e
          refine aw_skip ?_
          refine normal_blk ?_
          refine normal_thn ?_
          refine aw_region ?_
          refine g_u (s_add rfl rfl rfl) ?_
          refine g_u (s_mv_imm rfl rfl) ?_
          refine g_nil ?_
          refine normal_thn ?_
          refine ⟨i + 1, ⟨hi, fun j hj => by rcases Nat.lt_or_ge j i with h | h; exact h2 j h; rw [show j = i by omega]; exact ev⟩, ⟨rfl, rfl, rfl, rfl, look_int rfl (by rw [wrap64 (by omega) (by omega)]; rfl), trivial⟩, by (try dsimp only); omega⟩
      · skip
        have hin : i = a.length := by have := of_decide_eq_false hb2; (try simp only [List.length_map] at this); omega
        refine aw_exit ?_
        refine exit_thn ?_
        refine exit_thn ?_
        refine exit_blk ?_
        refine normal_thn ?_
        refine aw_seq ?_
        refine aw_region ?_
        refine g_u (s_as_imm rfl rfl) ?_
        refine g_nil ?_
        refine normal_thn ?_
        refine aw_ret ?_
        exact ⟨⟨(rfl : toAV (Al.look _ _) = some _).trans (congrArg some (by (exact congrArg bv (by first | exact (decide_eq_false (fun e => q (by rw [e]))).symm | exact (decide_eq_true (ext_nth gs0 el (fun j hj => h2 j (by omega)))).symm)))), rfl⟩, trivial⟩

set_option maxHeartbeats 4000000 in
theorem eqdC_c (a b : List GScope) (fn : FuncId) (hl : a.length ≤ 1000000000) (hf : ∀ x ∈ a, ∀ y : GScope, PCall Tryd.prog Γ0 fn ([] ++ [x.av, y.av] ++ []) [bv (decide (x = y))]) : PCall Tryd.prog Γ0 57 [(.sl 3 (a.map GScope.av)), (.sl 3 (b.map GScope.av)), .fn (.func fn) [] []] [bv (decide (a = b))] := by
  refine pcall_of Tryd.func57 rfl Tryd.ntmps57 (by kernel_rfl) rfl fun w0 I0 G0 => ?_
  refine aw_seq ?_
  refine aw_region ?_
  refine g_u (s_as_imm rfl rfl) ?_
  refine g_nil ?_
  refine normal_thn ?_
  refine aw_seq ?_
  refine aw_seq ?_
  refine aw_region ?_
  refine g_u (s_mv_imm rfl rfl) ?_
  refine g_u (s_lenL rfl rfl Tryd.underlying31) ?_
  refine g_u (s_mv_imm rfl rfl) ?_
  refine g_u (s_lenL rfl rfl Tryd.underlying31) ?_
  refine g_u (s_neI rfl rfl rfl) ?_
  refine g_nil ?_
  refine normal_thn ?_
  refine aw_cond rfl (fun hb1 => ?_) (fun hb1 => ?_)
  · skip
    have q : ¬ a.length = b.length := by have e := bne_iff_ne.1 hb1; simp only [List.length_map] at e; omega
    refine aw_seq ?_
    refine aw_region ?_
    refine g_u (s_as_imm rfl rfl) ?_
    refine g_nil ?_
    refine normal_thn ?_
    refine aw_ret ?_
    refine ret_thn ?_
    exact ⟨⟨(rfl : toAV (Al.look _ _) = some _).trans (congrArg some (by (exact congrArg bv (by first | exact (decide_eq_false (fun e => q (by rw [e]))).symm | exact (decide_eq_true (ext_nth gc0 el (fun j hj => h2 j (by omega)))).symm)))), rfl⟩, trivial⟩
  · skip
    have el : a.length = b.length := by have e := bne_eq_false_iff_eq.1 hb1; simp only [List.length_map] at e; omega
    refine aw_skip ?_
    refine normal_thn ?_
    refine aw_seq ?_
    refine aw_seq ?_
    refine aw_region ?_
    refine g_u (s_mv_imm rfl rfl) ?_
    refine g_u (s_lenL rfl rfl Tryd.underlying31) ?_
    refine g_u (s_mv_imm rfl rfl) ?_
    refine g_nil ?_
    refine normal_thn ?_
    refine aw_block ?_
    refine aw_loop' (fun i : Nat => [(1, .imm (.sl 3 (b.map GScope.av))), (2, .imm (.fn (.func fn) [] [])), (15, .imm (.sl 3 (a.map GScope.av))), (16, .imm (iv (a.length : Int))), (17, .imm (iv (i : Int)))]) (fun i => i ≤ a.length ∧ ∀ j, j < i → nth a j gc0 = nth b j gc0) (fun i => a.length - i) (0) ?_ ⟨rfl, rfl, rfl, look_int rfl (by rw [List.length_map]), rfl, trivial⟩ ?_
    · exact ⟨Nat.zero_le _, fun j h => absurd h (Nat.not_lt_zero _)⟩
    · rintro i ⟨h1, h2⟩; (try dsimp only at h1 h2)
      refine aw_seq ?_
      refine aw_region ?_
      refine g_u (s_ltI rfl rfl rfl) ?_
      refine g_nil ?_
      refine normal_thn ?_
      refine aw_seq ?_
      refine aw_cond rfl (fun hb2 => ?_) (fun hb2 => ?_)
      · skip
        have hi : i < a.length := by have := of_decide_eq_true hb2; (try simp only [List.length_map] at this); omega
        have hib : i < b.length := by omega
        refine aw_skip ?_
        refine normal_thn ?_
        refine aw_seq ?_
        refine aw_block ?_
        refine aw_seq ?_
        refine aw_region ?_
        refine g_u (s_mv_imm rfl rfl) ?_
        refine g_u (s_indexAddr rfl rfl rfl Tryd.underlying31 tS67 (by omega) (ixC hi)) ?_
        refine g_u (s_load_cp rfl rfl tA67 tS67 rfl rfl) ?_
        refine g_uG (s_alloc' 1008 rfl rfl rfl tZ67) rfl ?_
        refine g_u (s_as_imm rfl rfl) ?_
        refine g_u (s_store_imm rfl rfl rfl tS67 rfl rfl) ?_
        refine g_nil ?_
        refine normal_thn ?_
        refine aw_seq ?_
        refine aw_region ?_
        refine g_u (s_mv_imm rfl rfl) ?_
        refine g_u (s_mv_imm rfl rfl) ?_
        refine g_u (s_indexAddr rfl rfl rfl Tryd.underlying31 tS67 (by omega) (ixC hib)) ?_
        refine g_u (s_load_cp rfl rfl tA67 tS67 rfl rfl) ?_
        refine g_uG (s_alloc' 1009 rfl rfl rfl tZ67) rfl ?_
        refine g_u (s_store_imm rfl rfl rfl tS67 rfl rfl) ?_
        refine g_nil ?_
        refine normal_thn ?_
        refine aw_seq ?_
        refine aw_region ?_
        refine g_u (s_mv_imm rfl rfl) ?_
        refine g_u (s_load_agg rfl rfl rfl tA67 tS67 rfl rfl) ?_
        refine g_u (s_load_agg rfl rfl rfl tA67 tS67 rfl rfl) ?_
        refine g_u (s_callv1 (hf _ (nthC_mem hi) _) rfl rfl rfl) ?_
        refine g_u (s_not rfl rfl) ?_
        refine g_nil ?_
        refine normal_thn ?_
        refine aw_cond rfl (fun hb3 => ?_) (fun hb3 => ?_)
        · skip
          have q : ¬ nthC a i = nthC b i := fun h => by have e := hb3; rw [decide_eq_true h] at e; cases e
          refine aw_seq ?_
          refine aw_region ?_
          refine g_u (s_as_imm rfl rfl) ?_
          refine g_nil ?_
          refine normal_thn ?_
          refine aw_ret ?_
          refine ret_blk ?_
          refine ret_thn ?_
          refine ret_thn ?_
          refine ret_blk ?_
          refine ret_thn ?_
          exact ⟨⟨(rfl : toAV (Al.look _ _) = some _).trans (congrArg some (by (exact congrArg bv (by first | exact (decide_eq_false (fun e => q (by rw [e]))).symm | exact (decide_eq_true (ext_nth gc0 el (fun j hj => h2 j (by omega)))).symm)))), rfl⟩, trivial⟩
        · skip
          have ev : nthC a i = nthC b i := by have e := hb3; simpa using e
          refine aw_skip ?_
          refine normal_blk ?_
          refine normal_thn ?_
          refine aw_region ?_
          refine g_u (s_add rfl rfl rfl) ?_
          refine g_u (s_mv_imm rfl rfl) ?_
          refine g_nil ?_
          refine normal_thn ?_
          refine ⟨i + 1, ⟨hi, fun j hj => by rcases Nat.lt_or_ge j i with h | h; exact h2 j h; rw [show j = i by omega]; exact ev⟩, ⟨rfl, rfl, rfl, rfl, look_int rfl (by rw [wrap64 (by omega) (by omega)]; rfl), trivial⟩, by (try dsimp only); omega⟩
      · skip
        have hin : i = a.length := by have := of_decide_eq_false hb2; (try simp only [List.length_map] at this); omega
        refine aw_exit ?_
        refine exit_thn ?_
        refine exit_thn ?_
        refine exit_blk ?_
        refine normal_thn ?_
        refine aw_seq ?_
        refine aw_region ?_
        refine g_u (s_as_imm rfl rfl) ?_
        refine g_nil ?_
        refine normal_thn ?_
        refine aw_ret ?_
        exact ⟨⟨(rfl : toAV (Al.look _ _) = some _).trans (congrArg some (by (exact congrArg bv (by first | exact (decide_eq_false (fun e => q (by rw [e]))).symm | exact (decide_eq_true (ext_nth gc0 el (fun j hj => h2 j (by omega)))).symm)))), rfl⟩, trivial⟩

set_option maxHeartbeats 4000000 in
theorem eqdR_c (a b : List GRes) (fn : FuncId) (hl : a.length ≤ 1000000000) (hf : ∀ x ∈ a, ∀ y : GRes, PCall Tryd.prog Γ0 fn ([] ++ [x.av, y.av] ++ []) [bv (decide (x = y))]) : PCall Tryd.prog Γ0 32 [(.sl 2 (a.map GRes.av)), (.sl 2 (b.map GRes.av)), .fn (.func fn) [] []] [bv (decide (a = b))] := by
  refine pcall_of Tryd.func32 rfl Tryd.ntmps32 (by kernel_rfl) rfl fun w0 I0 G0 => ?_
  refine aw_seq ?_
  refine aw_region ?_
  refine g_u (s_as_imm rfl rfl) ?_
  refine g_nil ?_
  refine normal_thn ?_
  refine aw_seq ?_
  refine aw_seq ?_
  refine aw_region ?_
  refine g_u (s_mv_imm rfl rfl) ?_
  refine g_u (s_lenL rfl rfl Tryd.underlying22) ?_
  refine g_u (s_mv_imm rfl rfl) ?_
  refine g_u (s_lenL rfl rfl Tryd.underlying22) ?_
  refine g_u (s_neI rfl rfl rfl) ?_
  refine g_nil ?_
  refine normal_thn ?_
  refine aw_cond rfl (fun hb1 => ?_) (fun hb1 => ?_)
  · skip
    have q : ¬ a.length = b.length := by have e := bne_iff_ne.1 hb1; simp only [List.length_map] at e; omega
    refine aw_seq ?_
    refine aw_region ?_
    refine g_u (s_as_imm rfl rfl) ?_
    refine g_nil ?_
    refine normal_thn ?_
    refine aw_ret ?_
    refine ret_thn ?_
    exact ⟨⟨(rfl : toAV (Al.look _ _) = some _).trans (congrArg some (by (exact congrArg bv (by first | exact (decide_eq_false (fun e => q (by rw [e]))).symm | exact (decide_eq_true (ext_nth gr0 el (fun j hj => h2 j (by omega)))).symm)))), rfl⟩, trivial⟩
  · skip
    have el : a.length = b.length := by have e := bne_eq_false_iff_eq.1 hb1; simp only [List.length_map] at e; omega
    refine aw_skip ?_
    refine normal_thn ?_
    refine aw_seq ?_
    refine aw_seq ?_
    refine aw_region ?_
    refine g_u (s_mv_imm rfl rfl) ?_
    refine g_u (s_lenL rfl rfl Tryd.underlying22) ?_
    refine g_u (s_mv_imm rfl rfl) ?_
    refine g_nil ?_
    refine normal_thn ?_
    refine aw_block ?_
    refine aw_loop' (fun i : Nat => [(1, .imm (.sl 2 (b.map GRes.av))), (2, .imm (.fn (.func fn) [] [])), (15, .imm (.sl 2 (a.map GRes.av))), (16, .imm (iv (a.length : Int))), (17, .imm (iv (i : Int)))]) (fun i => i ≤ a.length ∧ ∀ j, j < i → nth a j gr0 = nth b j gr0) (fun i => a.length - i) (0) ?_ ⟨rfl, rfl, rfl, look_int rfl (by rw [List.length_map]), rfl, trivial⟩ ?_
    · exact ⟨Nat.zero_le _, fun j h => absurd h (Nat.not_lt_zero _)⟩
    · rintro i ⟨h1, h2⟩; (try dsimp only at h1 h2)
      refine aw_seq ?_
      refine aw_region ?_
      refine g_u (s_ltI rfl rfl rfl) ?_
      refine g_nil ?_
      refine normal_thn ?_
      refine aw_seq ?_
      refine aw_cond rfl (fun hb2 => ?_) (fun hb2 => ?_)
      · skip
        have hi : i < a.length := by have := of_decide_eq_true hb2; (try simp only [List.length_map] at this); omega
        have hib : i < b.length := by omega
        refine aw_skip ?_
        refine normal_thn ?_
        refine aw_seq ?_
        refine aw_block ?_
        refine aw_seq ?_
        refine aw_region ?_
        refine g_u (s_mv_imm rfl rfl) ?_
        refine g_u (s_indexAddr rfl rfl rfl Tryd.underlying22 tS33 (by omega) (ixR hi)) ?_
        refine g_u (s_load_cp rfl rfl tA33 tS33 rfl rfl) ?_
        refine g_uG (s_alloc' 1008 rfl rfl rfl tZ33) rfl ?_
        refine g_u (s_as_imm rfl rfl) ?_
        refine g_u (s_store_imm rfl rfl rfl tS33 rfl rfl) ?_
        refine g_nil ?_
        refine normal_thn ?_
        refine aw_seq ?_
        refine aw_region ?_
        refine g_u (s_mv_imm rfl rfl) ?_
        refine g_u (s_mv_imm rfl rfl) ?_
        refine g_u (s_indexAddr rfl rfl rfl Tryd.underlying22 tS33 (by omega) (ixR hib)) ?_
        refine g_u (s_load_cp rfl rfl tA33 tS33 rfl rfl) ?_
        refine g_uG (s_alloc' 1009 rfl rfl rfl tZ33) rfl ?_
        refine g_u (s_store_imm rfl rfl rfl tS33 rfl rfl) ?_
        refine g_nil ?_
        refine normal_thn ?_
        refine aw_seq ?_
        refine aw_region ?_
        refine g_u (s_mv_imm rfl rfl) ?_
        refine g_u (s_load_agg rfl rfl rfl tA33 tS33 rfl rfl) ?_
        refine g_u (s_load_agg rfl rfl rfl tA33 tS33 rfl rfl) ?_
        refine g_u (s_callv1 (hf _ (nthR_mem hi) _) rfl rfl rfl) ?_
        refine g_u (s_not rfl rfl) ?_
        refine g_nil ?_
        refine normal_thn ?_
        refine aw_cond rfl (fun hb3 => ?_) (fun hb3 => ?_)
        · skip
          have q : ¬ nthR a i = nthR b i := fun h => by have e := hb3; rw [decide_eq_true h] at e; cases e
          refine aw_seq ?_
          refine aw_region ?_
          refine g_u (s_as_imm rfl rfl) ?_
          refine g_nil ?_
          refine normal_thn ?_
          refine aw_ret ?_
          refine ret_blk ?_
          refine ret_thn ?_
          refine ret_thn ?_
          refine ret_blk ?_
          refine ret_thn ?_
          exact ⟨⟨(rfl : toAV (Al.look _ _) = some _).trans (congrArg some (by (exact congrArg bv (by first | exact (decide_eq_false (fun e => q (by rw [e]))).symm | exact (decide_eq_true (ext_nth gr0 el (fun j hj => h2 j (by omega)))).symm)))), rfl⟩, trivial⟩
        · skip
          have ev : nthR a i = nthR b i := by have e := hb3; simpa using e
          refine aw_skip ?_
          refine normal_blk ?_
          refine normal_thn ?_
          refine aw_region ?_
          refine g_u (s_add rfl rfl rfl) ?_
          refine g_u (s_mv_imm rfl rfl) ?_
          refine g_nil ?_
          refine normal_thn ?_
          refine ⟨i + 1, ⟨hi, fun j hj => by rcases Nat.lt_or_ge j i with h | h; exact h2 j h; rw [show j = i by omega]; exact ev⟩, ⟨rfl, rfl, rfl, rfl, look_int rfl (by rw [wrap64 (by omega) (by omega)]; rfl), trivial⟩, by (try dsimp only); omega⟩
      · skip
        have hin : i = a.length := by have := of_decide_eq_false hb2; (try simp only [List.length_map] at this); omega
        refine aw_exit ?_
        refine exit_thn ?_
        refine exit_thn ?_
        refine exit_blk ?_
        refine normal_thn ?_
        refine aw_seq ?_
        refine aw_region ?_
        refine g_u (s_as_imm rfl rfl) ?_
        refine g_nil ?_
        refine normal_thn ?_
        refine aw_ret ?_
        exact ⟨⟨(rfl : toAV (Al.look _ _) = some _).trans (congrArg some (by (exact congrArg bv (by first | exact (decide_eq_false (fun e => q (by rw [e]))).symm | exact (decide_eq_true (ext_nth gr0 el (fun j hj => h2 j (by omega)))).symm)))), rfl⟩, trivial⟩

set_option maxHeartbeats 4000000 in
theorem psameC_c (a b : GScope) (hw : a.wt ≤ 1000000000) : PCall Tryd.prog Γ0 58 [a.av, b.av] [bv (decide (a = b))] := by
  have qw : a.wt = 1 + a.name.size + a.version.size + sumBy GSpan.wt a.spans := rfl
  have ql := sumBy_len GSpan.wt (fun e => by unfold GSpan.wt; omega) a.spans
  refine pcall_of Tryd.func58 rfl Tryd.ntmps58 (by kernel_rfl) rfl fun w0 I0 G0 => ?_
  refine aw_seq ?_
  refine aw_region ?_
  refine g_uG (s_box_imm 1002 rfl rfl rfl rfl) rfl ?_
  refine g_uG (s_box_imm 1003 rfl rfl rfl rfl) rfl ?_
  refine g_u (s_as_imm rfl rfl) ?_
  refine g_nil ?_
  refine normal_thn ?_
  refine aw_seq ?_
  refine aw_region ?_
  refine g_u (s_fieldAddr rfl rfl fa67_0 rfl) ?_
  refine g_u (s_load_imm rfl rfl rfl tA9 tS9 rfl rfl) ?_
  refine g_u (s_fieldAddr rfl rfl fa67_0 rfl) ?_
  refine g_u (s_load_imm rfl rfl rfl tA9 tS9 rfl rfl) ?_
  refine g_u (s_eqS rfl rfl rfl) ?_
  refine g_u (s_mv_imm rfl rfl) ?_
  refine g_case (t := 10) rfl ?_
  rintro (hb1 | hb1)
  · rw [hb1]
    have f1 : a.name = b.name := by have e := hb1; rw [str_beq] at e; simpa using e
    refine g_run rfl rfl (s_fieldAddr rfl rfl fa67_1 rfl) ?_
    refine g_run rfl rfl (s_load_imm rfl rfl rfl tA9 tS9 rfl rfl) ?_
    refine g_run rfl rfl (s_fieldAddr rfl rfl fa67_1 rfl) ?_
    refine g_run rfl rfl (s_load_imm rfl rfl rfl tA9 tS9 rfl rfl) ?_
    refine g_run rfl rfl (s_eqS rfl rfl rfl) ?_
    refine g_u (s_pick_t rfl rfl rfl) ?_
    refine g_u (s_mv_imm rfl rfl) ?_
    refine g_case (t := 17) rfl ?_
    rintro (hb2 | hb2)
    · rw [hb2]
      have f2 : a.version = b.version := by have e := hb2; rw [str_beq] at e; simpa using e
      refine g_run rfl rfl (s_fieldAddr rfl rfl fa67_2 rfl) ?_
      refine g_run rfl rfl (s_load_imm rfl rfl rfl tA61 tS61 rfl rfl) ?_
      refine g_run rfl rfl (s_fieldAddr rfl rfl fa67_2 rfl) ?_
      refine g_run rfl rfl (s_load_imm rfl rfl rfl tA61 tS61 rfl rfl) ?_
      refine g_run rfl rfl (s_call1 (eqdS_c a.spans b.spans 90 (by omega) (fun x hx y => psameS_c x y (by have h5 := sumBy_mem GSpan.wt hx; omega))) rfl rfl) ?_
      refine g_u (s_pick_t rfl rfl rfl) ?_
      refine g_u (s_as_imm rfl rfl) ?_
      refine g_nil ?_
      refine normal_thn ?_
      refine aw_ret ?_
      exact ⟨⟨(rfl : toAV (Al.look _ _) = some _).trans (congrArg some (by (exact congrArg bv (by first | exact (decide_eq_false (fun e => q (by rw [e]))).symm | (rw [Bool.eq_iff_iff, decide_eq_true_iff, decide_eq_true_iff]; exact ⟨fun h => GScope.ext' f1 f2 h, fun h => by rw [h]⟩))))), rfl⟩, trivial⟩
    · rw [hb2]
      have q : ¬ a.version = b.version := by have e := hb2; rw [str_beq] at e; simpa using e
      refine g_skip rfl rfl rfl ?_
      refine g_skip rfl rfl rfl ?_
      refine g_skip rfl rfl rfl ?_
      refine g_skip rfl rfl rfl ?_
      refine g_skip rfl rfl rfl ?_
      refine g_u (s_pick_f rfl rfl rfl) ?_
      refine g_u (s_as_imm rfl rfl) ?_
      refine g_nil ?_
      refine normal_thn ?_
      refine aw_ret ?_
      exact ⟨⟨(rfl : toAV (Al.look _ _) = some _).trans (congrArg some (by (exact congrArg bv (by first | exact (decide_eq_false (fun e => q (by rw [e]))).symm | (rw [Bool.eq_iff_iff, decide_eq_true_iff, decide_eq_true_iff]; exact ⟨fun h => GScope.ext' f1 f2 h, fun h => by rw [h]⟩))))), rfl⟩, trivial⟩
  · rw [hb1]
    have q : ¬ a.name = b.name := by have e := hb1; rw [str_beq] at e; simpa using e
    refine g_skip rfl rfl rfl ?_
    refine g_skip rfl rfl rfl ?_
    refine g_skip rfl rfl rfl ?_
    refine g_skip rfl rfl rfl ?_
    refine g_skip rfl rfl rfl ?_
    refine g_u (s_pick_f rfl rfl rfl) ?_
    refine g_u (s_mv_imm rfl rfl) ?_
    refine g_skip rfl rfl rfl ?_
    refine g_skip rfl rfl rfl ?_
    refine g_skip rfl rfl rfl ?_
    refine g_skip rfl rfl rfl ?_
    refine g_skip rfl rfl rfl ?_
    refine g_u (s_pick_f rfl rfl rfl) ?_
    refine g_u (s_as_imm rfl rfl) ?_
    refine g_nil ?_
    refine normal_thn ?_
    refine aw_ret ?_
    exact ⟨⟨(rfl : toAV (Al.look _ _) = some _).trans (congrArg some (by (exact congrArg bv (by first | exact (decide_eq_false (fun e => q (by rw [e]))).symm | (rw [Bool.eq_iff_iff, decide_eq_true_iff, decide_eq_true_iff]; exact ⟨fun h => GScope.ext' f1 f2 h, fun h => by rw [h]⟩))))), rfl⟩, trivial⟩

set_option maxHeartbeats 4000000 in
theorem psameR_c (a b : GRes) (hw : a.wt ≤ 1000000000) : PCall Tryd.prog Γ0 33 [a.av, b.av] [bv (decide (a = b))] := by
  have qw : a.wt = 1 + wtAs a.attrs + sumBy GScope.wt a.scopes := rfl
  have ql := sumBy_len GScope.wt (fun e => by unfold GScope.wt; omega) a.scopes
  refine pcall_of Tryd.func33 rfl Tryd.ntmps33 (by kernel_rfl) rfl fun w0 I0 G0 => ?_
  refine aw_seq ?_
  refine aw_region ?_
  refine g_uG (s_box_imm 1002 rfl rfl rfl rfl) rfl ?_
  refine g_uG (s_box_imm 1003 rfl rfl rfl rfl) rfl ?_
  refine g_u (s_as_imm rfl rfl) ?_
  refine g_nil ?_
  refine normal_thn ?_
  refine aw_seq ?_
  refine aw_region ?_
  refine g_u (s_fieldAddr rfl rfl fa33_0 rfl) ?_
  refine g_u (s_load_imm rfl rfl rfl tA30 tS30 rfl rfl) ?_
  refine g_u (s_fieldAddr rfl rfl fa33_0 rfl) ?_
  refine g_u (s_load_imm rfl rfl rfl tA30 tS30 rfl rfl) ?_
  refine g_u (s_call1 (psameAs_c a.attrs b.attrs (by omega)) rfl rfl) ?_
  refine g_u (s_mv_imm rfl rfl) ?_
  refine g_case (t := 10) rfl ?_
  rintro (hb1 | hb1)
  · rw [hb1]
    have f1 : a.attrs = b.attrs := (sameAs_iff _ _).1 hb1
    refine g_run rfl rfl (s_fieldAddr rfl rfl fa33_1 rfl) ?_
    refine g_run rfl rfl (s_load_imm rfl rfl rfl tA31 tS31 rfl rfl) ?_
    refine g_run rfl rfl (s_fieldAddr rfl rfl fa33_1 rfl) ?_
    refine g_run rfl rfl (s_load_imm rfl rfl rfl tA31 tS31 rfl rfl) ?_
    refine g_run rfl rfl (s_call1 (eqdC_c a.scopes b.scopes 58 (by omega) (fun x hx y => psameC_c x y (by have h5 := sumBy_mem GScope.wt hx; omega))) rfl rfl) ?_
    refine g_u (s_pick_t rfl rfl rfl) ?_
    refine g_u (s_as_imm rfl rfl) ?_
    refine g_nil ?_
    refine normal_thn ?_
    refine aw_ret ?_
    exact ⟨⟨(rfl : toAV (Al.look _ _) = some _).trans (congrArg some (by (exact congrArg bv (by first | exact (decide_eq_false (fun e => q (by rw [e]))).symm | (rw [Bool.eq_iff_iff, decide_eq_true_iff, decide_eq_true_iff]; exact ⟨fun h => GRes.ext' f1 h, fun h => by rw [h]⟩))))), rfl⟩, trivial⟩
  · rw [hb1]
    have q : ¬ a.attrs = b.attrs := fun h => by have e := hb1; rw [h, sameAs_refl] at e; cases e
    refine g_skip rfl rfl rfl ?_
    refine g_skip rfl rfl rfl ?_
    refine g_skip rfl rfl rfl ?_
    refine g_skip rfl rfl rfl ?_
    refine g_skip rfl rfl rfl ?_
    refine g_u (s_pick_f rfl rfl rfl) ?_
    refine g_u (s_as_imm rfl rfl) ?_
    refine g_nil ?_
    refine normal_thn ?_
    refine aw_ret ?_
    exact ⟨⟨(rfl : toAV (Al.look _ _) = some _).trans (congrArg some (by (exact congrArg bv (by first | exact (decide_eq_false (fun e => q (by rw [e]))).symm | (rw [Bool.eq_iff_iff, decide_eq_true_iff, decide_eq_true_iff]; exact ⟨fun h => GRes.ext' f1 h, fun h => by rw [h]⟩))))), rfl⟩, trivial⟩

set_option maxHeartbeats 400000 in
theorem psameB_c (a b : List GRes) (hw : wtB a ≤ 1000000000) : PCall Tryd.prog Γ0 10 [batchAv a, batchAv b] [bv (decide (a = b))] := by
  have ql := sumBy_len GRes.wt (fun e => by unfold GRes.wt; omega) a
  have qw : wtB a = sumBy GRes.wt a := rfl
  refine pcall_of Tryd.func10 rfl Tryd.ntmps10 (by kernel_rfl) rfl fun w0 I0 G0 => ?_
  refine aw_seq ?_
  refine aw_region ?_
  refine g_uG (s_box_imm 1002 rfl rfl rfl rfl) rfl ?_
  refine g_uG (s_box_imm 1003 rfl rfl rfl rfl) rfl ?_
  refine g_u (s_as_imm rfl rfl) ?_
  refine g_nil ?_
  refine normal_thn ?_
  refine aw_seq ?_
  refine aw_region ?_
  refine g_u (s_fieldAddr rfl rfl fa24_0 rfl) ?_
  refine g_u (s_load_imm rfl rfl rfl tA22 tS22 rfl rfl) ?_
  refine g_u (s_fieldAddr rfl rfl fa24_0 rfl) ?_
  refine g_u (s_load_imm rfl rfl rfl tA22 tS22 rfl rfl) ?_
  refine g_u (s_call1 (eqdR_c a b 33 (by omega) (fun x hx y => psameR_c x y (by have h5 := sumBy_mem GRes.wt hx; omega))) rfl rfl) ?_
  refine g_u (s_as_imm rfl rfl) ?_
  refine g_nil ?_
  refine normal_thn ?_
  refine aw_ret ?_
  exact ⟨⟨(rfl : toAV (Al.look _ _) = some _).trans (congrArg some (by rfl)), rfl⟩, trivial⟩

end Go.Proofs

