/- Texts that the proofs of this claim share, part 7: the abstract logic, plain Lean on values and batches, and walks. No condition but those typed in each lemma. -/
import Derived.Shelf.Sort.Plain
import Derived.Shelf.Slices.In.SortNone
import Derived.Scope
import Derived.Test.YtchikjokpmdipaaGreatDoorP6
set_option linter.unusedSimpArgs false
set_option linter.unusedVariables false
namespace Go.Proofs
open Go Go.Al

/-! ### Keys collected in a map, sorted: the own form -/

/-- The last place of a key. -/
def lastAt : List GA → ByteArray → Nat → Option Nat
  | [], _, _ => none
  | x :: xs, k, i => match lastAt xs k (i + 1) with
    | some j => some j
    | none => if x.key = k then some i else none
def lastI (l : List GA) (k : ByteArray) : Nat := (lastAt l k 0).getD 0
def mks (l : List GA) : List ByteArray := l.foldl (fun acc x => mputK acc x.key) []
def mvs (l : List GA) : List AV := (mks l).map fun k => iv (lastI l k : Int)

theorem lastAt_snoc (k : ByteArray) (x : GA) : ∀ (m : List GA) (i : Nat), lastAt (m ++ [x]) k i = if x.key = k then some (i + m.length) else lastAt m k i
  | [], i => by simp only [List.nil_append, lastAt]; split <;> simp
  | y :: m, i => by
    simp only [List.cons_append, lastAt]
    rw [lastAt_snoc k x m (i + 1)]
    by_cases h : x.key = k
    · simp only [h, if_true, List.length_cons]; congr 1; omega
    · simp only [if_neg h]
theorem lastAt_lt {k : ByteArray} : ∀ {m : List GA} {i j : Nat}, lastAt m k i = some j → i ≤ j ∧ j < i + m.length
  | [], i, j, h => by simp [lastAt] at h
  | x :: xs, i, j, h => by
    simp only [lastAt] at h
    split at h
    · rename_i j' hj; cases h; have := lastAt_lt hj; simp; omega
    · split at h
      · cases h; simp
      · cases h
theorem mks_snoc (m : List GA) (x : GA) : mks (m ++ [x]) = mputK (mks m) x.key := by simp [mks, List.foldl_append]

theorem mfind_none : ∀ {l : List ByteArray} {s : ByteArray} {i : Nat}, mfind l s i = none ↔ s ∉ l
  | [], s, i => by simp [mfind]
  | x :: xs, s, i => by
    rw [mfind]
    by_cases h : s = x
    · simp [h]
    · simp [h, mfind_none]
theorem nodup_mks (l : List GA) : (mks l).Nodup := by
  have key : ∀ (l : List GA) (acc : List ByteArray), acc.Nodup → (l.foldl (fun acc x => mputK acc x.key) acc).Nodup := by
    intro l
    induction l with
    | nil => intro acc h; exact h
    | cons x l ih =>
      intro acc h
      refine ih _ ?_
      show (mputK acc x.key).Nodup
      unfold mputK
      split
      · exact h
      · rename_i hm
        have := mfind_none.1 hm
        rw [List.nodup_append]
        refine ⟨h, by simp, ?_⟩
        intro a ha b hb
        simp at hb; subst hb
        rintro rfl; exact this ha
  exact key l [] (by simp)
theorem mem_mputK {l : List ByteArray} {s k : ByteArray} : k ∈ mputK l s ↔ k = s ∨ k ∈ l := by
  unfold mputK
  split
  · rename_i j hm
    have := mfind_get hm
    have hs : s ∈ l := List.mem_of_getElem? this
    constructor
    · exact .inr
    · rintro (rfl | h)
      · exact hs
      · exact h
  · simp; exact Or.comm
theorem mks_spec (l : List GA) (k : ByteArray) : k ∈ mks l ↔ ∃ j, lastAt l k 0 = some j := by
  induction l using snocInd with
  | nil => simp [mks, lastAt]
  | snoc m x ih =>
    rw [mks_snoc, mem_mputK, lastAt_snoc, ih]
    by_cases h : x.key = k
    · simp [h]
    · have : ¬ k = x.key := fun e => h e.symm
      simp [h, this]
where
  snocInd {motive : List GA → Prop} (l : List GA) (nil : motive []) (snoc : ∀ m x, motive m → motive (m ++ [x])) : motive l := by
    have : ∀ n (l : List GA), l.length = n → motive l := by
      intro n
      induction n with
      | zero => intro l h; rw [List.eq_nil_of_length_eq_zero h]; exact nil
      | succ n ih =>
        intro l h
        have hne : l ≠ [] := by rintro rfl; simp at h
        rw [← List.dropLast_concat_getLast hne]
        exact snoc _ _ (ih _ (by simp [h]))
    exact this _ l rfl
theorem mvs_snoc (m : List GA) (x : GA) : mvs (m ++ [x]) = mputV (mks m) (mvs m) x.key (iv (m.length : Int)) := by
  have hl : ∀ k, lastI (m ++ [x]) k = if x.key = k then m.length else lastI m k := by
    intro k
    unfold lastI
    rw [lastAt_snoc]
    split <;> simp
  unfold mvs mputV
  rw [mks_snoc]
  unfold mputK
  cases hm : mfind (mks m) x.key 0 with
  | some i =>
    have h1 := mfind_lt hm
    have h2 := mfind_get hm
    simp only [Nat.sub_zero] at h2
    refine List.ext_getElem? fun j => ?_
    simp only [List.getElem?_map]
    by_cases hj : j = i
    · subst hj
      rw [h2, List.getElem?_set_self (by simp; omega)]
      simp [hl]
    · rw [List.getElem?_set_ne (Ne.symm hj), List.getElem?_map]
      cases hk : (mks m)[j]? with
      | none => rfl
      | some k =>
        have hne : ¬ x.key = k := by
          intro e
          rw [e] at h2
          have hn := nodup_mks m
          have hji : j < (mks m).length := (List.getElem?_eq_some_iff.1 hk).1
          have := (List.getElem?_inj hji hn).1 (hk.trans h2.symm)
          exact hj this
        simp [hl, hne]
  | none =>
    have h1 := mfind_none.1 hm
    simp only [List.map_append, List.map_cons, List.map_nil, hl, if_true]
    congr 1
    refine List.map_congr_left fun k hk => ?_
    rw [if_neg (fun e => h1 (by rw [e]; exact hk))]
theorem mks_len (l : List GA) : (mks l).length ≤ l.length := by
  have key : ∀ (l : List GA) (acc : List ByteArray), (l.foldl (fun acc x => mputK acc x.key) acc).length ≤ acc.length + l.length := by
    intro l
    induction l with
    | nil => intro acc; simp
    | cons x l ih =>
      intro acc
      have h1 := ih (mputK acc x.key)
      have h2 : (mputK acc x.key).length ≤ acc.length + 1 := by unfold mputK; split <;> simp
      simp only [List.foldl_cons, List.length_cons] at *; omega
  have := key l []
  simp only [List.length_nil, Nat.zero_add] at this
  exact this

/-! ### What stands under a key of the own form -/
theorem getA_intoP {l : List GA} {p : Option ByteArray} (a : GA) (k : ByteArray) (h : risA p l) : getA (intoA l a) k = if a.key = k then some a.val else getA l k := by
  induction l generalizing p with
  | nil => simp only [intoA, getA]
  | cons x xs ih =>
    rw [intoA]
    split
    · rename_i hx
      simp only [getA]
      rw [ih h.2]
      by_cases h1 : a.key = k
      · have : ¬ x.key = k := by rintro e; rw [e, h1, ltB_irrefl] at hx; cases hx
        simp [h1, this]
      · simp only [if_neg h1]
    · rename_i hx
      split
      · rename_i he
        simp only [getA]
        by_cases h1 : a.key = k
        · simp [h1]
        · have : ¬ x.key = k := by rw [he]; exact h1
          simp [h1, this]
      · simp only [getA]
theorem nthA_append_lt {m : List GA} {x : GA} {j : Nat} (h : j < m.length) : nthA (m ++ [x]) j = nthA m j := by
  unfold nthA nth; rw [List.getD_eq_getElem?_getD, List.getD_eq_getElem?_getD, List.getElem?_append_left h]
theorem nthA_append_last {m : List GA} {x : GA} : nthA (m ++ [x]) m.length = x := by
  unfold nthA nth; simp
theorem getA_canonAs (l : List GA) (k : ByteArray) : getA (canonAs l) k = (lastAt l k 0).map fun j => canonV (nthA l j).val := by
  unfold canonAs
  induction l using mks_spec.snocInd with
  | nil => rfl
  | snoc m x ih =>
    rw [List.map_append, List.map_cons, List.map_nil, intoAll_snoc, getA_intoP _ _ (ris_intoAll _ [] trivial), lastAt_snoc, ih]
    have e1 : (canonP x).key = x.key := by rw [canonP_eq]; rfl
    have e2 : (canonP x).val = canonV x.val := by rw [canonP_eq]; rfl
    rw [e1, e2]
    by_cases h : x.key = k
    · simp only [h, if_true, Option.map_some, Nat.zero_add, nthA_append_last]
    · simp only [if_neg h]
      cases hl : lastAt m k 0 with
      | none => rfl
      | some j =>
        have := lastAt_lt hl
        simp only [Option.map_some]
        rw [nthA_append_lt (by omega)]

theorem risA_ext : ∀ {l m : List GA} {p q : Option ByteArray}, risA p l → risA q m → (∀ k, getA l k = getA m k) → l = m
  | [], [], _, _, _, _, _ => rfl
  | [], y :: m, _, _, _, _, h => by have := h y.key; simp [getA] at this
  | x :: l, [], _, _, _, _, h => by have := h x.key; simp [getA] at this
  | x :: l, y :: m, p, q, h1, h2, h => by
    have memk : ∀ {l : List GA} {k : ByteArray} {v : GV}, getA l k = some v → ∃ a ∈ l, a.val = v ∧ a.key = k := getA_mem
    have hk : x.key = y.key := by
      have a1 := h x.key
      have a2 := h y.key
      simp only [getA, if_true] at a1 a2
      by_cases e : y.key = x.key
      · exact e.symm
      · have e' : ¬ x.key = y.key := fun q => e q.symm
        rw [if_neg e] at a1
        rw [if_neg e'] at a2
        obtain ⟨b, hb, _, hbk⟩ := memk a1.symm
        obtain ⟨c, hc, _, hck⟩ := memk a2
        have h3 := risA_mem h2.2 b hb
        have h4 := risA_mem h1.2 c hc
        rw [hbk] at h3; rw [hck] at h4
        rw [ltB_asymm h3] at h4; cases h4
    have hv : x.val = y.val := by
      have a1 := h x.key
      simp only [getA, if_true, hk] at a1
      exact Option.some.inj a1
    have hxy : x = y := by
      cases x; cases y; simp only [GA.key, GA.val] at hk hv; rw [hk, hv]
    subst hxy
    congr 1
    refine risA_ext h1.2 h2.2 fun k => ?_
    by_cases e : x.key = k
    · have none1 : ∀ {m : List GA}, risA (some x.key) m → getA m k = none := by
        intro m hm
        cases hg : getA m k with
        | none => rfl
        | some v =>
          obtain ⟨b, hb, _, hbk⟩ := memk hg
          have := risA_mem hm b hb
          rw [hbk, e, ltB_irrefl] at this; cases this
      rw [none1 h1.2, none1 h2.2]
    · have := h k
      simp only [getA, if_neg e] at this
      exact this

/-! ### Sorted -/
theorem bl_lt : ∀ a b : List UInt8, Op.bytesLess a b = decide (a < b)
  | [], [] => by simp [Op.bytesLess]
  | [], _ :: _ => by simp [Op.bytesLess]
  | _ :: _, [] => by simp [Op.bytesLess]
  | x :: a, y :: b => by
    have ih := bl_lt a b
    simp only [Op.bytesLess, List.cons_lt_cons_iff]
    by_cases h : x < y
    · simp [h]
    · by_cases h2 : y < x
      · have : ¬ x = y := by rintro rfl; exact absurd h2 (UInt8.lt_irrefl _)
        simp [h, h2, this]
      · have : x = y := UInt8.le_antisymm (UInt8.not_lt.1 h2) (UInt8.not_lt.1 h)
        subst this
        simp [h, ih]
theorem le_iff (s t : ByteArray) : decide (s.data.toList ≤ t.data.toList) = !ltB t s := by
  have e : ltB t s = decide (t.data.toList < s.data.toList) := by
    unfold ltB
    have hl : ∀ s : ByteArray, lst s = s.data.toList := fun s => rfl
    rw [hl, hl]; exact bl_lt _ _
  rw [e, ← decide_not]
  exact decide_eq_decide.2 List.not_lt.symm
theorem sortB_perm (l : List ByteArray) : (sortB l).Perm l := by
  have h := (List.mergeSort_perm (l.map fun s => s.data.toList) (fun x y => decide (x ≤ y))).map (fun b : List UInt8 => (⟨b.toArray⟩ : ByteArray))
  simpa [sortB, Function.comp_def] using h
theorem sortB_sorted (l : List ByteArray) : (sortB l).Pairwise fun s t => ltB t s = false := by
  have h := List.pairwise_mergeSort (le := fun x y : List UInt8 => decide (x ≤ y)) (fun a b c h1 h2 => by simp only [decide_eq_true_eq] at *; exact List.le_trans h1 h2) (fun a b => by simp only [Bool.or_eq_true, decide_eq_true_eq]; exact List.le_total a b) (l.map fun s => s.data.toList)
  unfold sortB
  rw [List.pairwise_map]
  refine h.imp ?_
  intro a b hab
  have := le_iff ⟨a.toArray⟩ ⟨b.toArray⟩
  simp only [List.toList_toArray] at this
  rw [hab] at this
  simpa using this.symm
theorem ris_of_pairwise {f : ByteArray → GA} (hf : ∀ k, (f k).key = k) : ∀ (l : List ByteArray) (p : Option ByteArray), (∀ q, p = some q → ∀ k ∈ l, ltB q k = true) → l.Pairwise (fun s t => ltB s t = true) → risA p (l.map f)
  | [], _, _, _ => trivial
  | k :: l, p, hp, h => by
    rw [List.pairwise_cons] at h
    simp only [List.map_cons, risA, hf]
    refine ⟨?_, ris_of_pairwise hf l _ (fun q e => by cases e; exact h.1) h.2⟩
    cases p with
    | none => trivial
    | some q => exact hp q rfl k List.mem_cons_self
theorem getA_mapped {v : ByteArray → GV} (k : ByteArray) : ∀ l : List ByteArray, (k ∈ l → getA (l.map fun k => GA.mk k (v k)) k = some (v k)) ∧ (k ∉ l → getA (l.map fun k => GA.mk k (v k)) k = none)
  | [] => ⟨fun h => by simp at h, fun _ => rfl⟩
  | x :: l => by
    have ih := getA_mapped (v := v) k l
    rw [List.map_cons, getA, List.mem_cons]
    by_cases h : (GA.mk x (v x)).key = k
    · rw [if_pos h]
      have h' : x = k := h
      subst h'
      exact ⟨fun _ => rfl, fun hk => absurd (.inl rfl) hk⟩
    · rw [if_neg h]
      have h' : ¬ k = x := fun e => h e.symm
      exact ⟨fun hk => ih.1 (hk.resolve_left h'), fun hk => ih.2 fun q => hk (.inr q)⟩

/-- The program's way to the own form. -/
theorem canonAs_sorted (l : List GA) {ks : List ByteArray} (h : ks.Perm (mks l)) : (sortB ks).map (fun k => GA.mk k (canonV (nthA l (lastI l k)).val)) = canonAs l := by
  have hp : (sortB ks).Perm (mks l) := (sortB_perm ks).trans h
  have hn : (sortB ks).Nodup := hp.nodup_iff.2 (nodup_mks l)
  have hs : (sortB ks).Pairwise fun s t => ltB s t = true := by
    have h1 := sortB_sorted ks
    have h2 : (sortB ks).Pairwise (· ≠ ·) := hn
    refine (h1.and h2).imp ?_
    rintro a b ⟨h3, h4⟩
    cases h5 : ltB a b with
    | true => rfl
    | false => exact absurd (ltB_tri h5 h3) h4
  refine risA_ext (p := none) (q := none) (ris_of_pairwise (f := fun k => GA.mk k (canonV (nthA l (lastI l k)).val)) (fun _ => rfl) _ none (fun q e => by cases e) hs) (ris_canonAs l) fun k => ?_
  have hgm := getA_mapped (v := fun k => canonV (nthA l (lastI l k)).val) k (sortB ks)
  rw [getA_canonAs]
  have hm : k ∈ sortB ks ↔ ∃ j, lastAt l k 0 = some j := (hp.mem_iff).trans (mks_spec l k)
  cases hl : lastAt l k 0 with
  | none =>
    rw [hgm.2 (fun hk => by obtain ⟨j, hj⟩ := hm.1 hk; rw [hl] at hj; cases hj)]; rfl
  | some j =>
    rw [hgm.1 (hm.2 ⟨j, hl⟩)]
    simp only [lastI, hl, Option.getD_some, Option.map_some]

/-- Who has seen all has seen each key once. -/
theorem seen_perm {ks : List ByteArray} {seen : List Nat} (hn : seen.Nodup) (hl : ∀ i ∈ seen, i < ks.length) (hall : ∀ i, i < ks.length → i ∈ seen) : (seen.map fun i => ks.getD i ⟨#[]⟩).Perm ks := by
  have h1 : seen.Perm (List.range ks.length) := by
    refine (List.perm_ext_iff_of_nodup hn List.nodup_range).2 fun i => ?_
    rw [List.mem_range]
    exact ⟨hl i, hall i⟩
  have h2 := h1.map fun i => ks.getD i ⟨#[]⟩
  have h3 : (List.range ks.length).map (fun i => ks.getD i ⟨#[]⟩) = ks := by
    refine List.ext_getElem (by simp) fun i h4 h5 => ?_
    rw [List.getElem_map, List.getElem_range, List.getD_eq_getElem?_getD, List.getElem?_eq_getElem h5]; rfl
  rw [h3] at h2
  exact h2
end Go.Proofs

namespace Go.Al
open Go.RowKit

/-! ### The step of a range over a map -/

/-- A region whose first operation goes one of several ways. -/
theorem aw_first {C : Cx} {id : Nat} {o : Oper} {os : List Oper} {ops : Array Oper} {st : St} {Q : Exit → St → Prop} (hl : ops.toList = o :: os) (hg : o.guard = none)
    (h : ∀ a w, Sim C (look st) a w → ∃ p : St, o.wp C.P a w (fun a' w' => Sim C (look (p ++ st)) a' w') (fun _ _ _ => False) ∧ Go1 C ops os (p ++ st) [] (fun st' _ => Q .normal st')) : AW C (.region id ops false) st Q := by
  intro a w S
  obtain ⟨p, h1, h2⟩ := h a w S
  obtain ⟨tr, st', r, f, k, _⟩ := Go1.sound _ _ _ _ h2
  refine wp_region ?_
  have h0 : ops[0]? = some o := by rw [← Array.getElem?_toList, hl]; rfl
  have hsz : ops.size = os.length + 1 := by rw [← Array.length_toList, hl]; rfl
  rw [List.range_eq_range', hsz, List.range'_succ]
  simp only [wpOps, h0]
  have hw : Region.wanted o (yielded ops a.tmps) = true := by simp [Region.wanted, hg]
  simp only [hw, if_true]
  refine .inl (wpOps_run.Oper.wp_mono' (fun a' w' S' => ?_) (fun _ _ _ h => h.elim) h1)
  exact wpOps_run os 1 _ tr a' w' (fun j => by rw [← Array.getElem?_toList, hl, Nat.add_comm, List.getElem?_cons_succ]) r S' (fun a' w' S' => ⟨st', k, f ▸ S'⟩)

theorem leftOf_mem {es : Array MapEntry} {seen : Array Nat} {e : MapEntry} (h : e ∈ (leftOf es seen).toList) : e ∈ es.toList ∧ e.born ∉ seen := by
  unfold leftOf at h
  simp at h
  simpa using h

theorem leftOf_none {es : Array MapEntry} {seen : Array Nat} (h : (leftOf es seen).size = 0) : ∀ e ∈ es.toList, e.born ∈ seen := by
  intro e he
  have h0 : leftOf es seen = #[] := Array.eq_empty_of_size_eq_zero h
  unfold leftOf at h0
  rw [Array.filter_eq_empty_iff] at h0
  have := h0 e (by simpa using he)
  simpa using this

section
variable {C : Cx} {d : Nat} {ty : TypeId} {pos : String} {af : Array Edge} {x : Operand}

/-- A draw, or none. -/
theorem SimG.draws {A : Nat → SV} {G : Gh} {a : Act} {w w1 : World} (S : SimG C A G a w) (h : w1 = w ∨ w1 = w.drew) : SimG C A G a w1 := by
  rcases h with rfl | rfl
  · exact S
  · exact S.heap rfl rfl rfl rfl

theorem wp_next {st : St} {a : Act} {w : World} {gi gm n : Nat} {seen : List Nat} {l : List ByteArray} {vs : List AV} (S : Sim C (look st) a w) (hN : Nat.blt d C.N = true) (hx : opS (look st) x = .ptr gi 0) (hg : look st gi = .itr gm n seen) (hm : look st gm = .mpr (strs l) vs) (hn : Nat.beq n l.length = true) (hgN : Nat.ble C.N gi = true) :
    ((∀ i, i < n → i ∈ seen) ∧ Oper.wp C.P ⟨some d, .next x false, ty, pos, af, none⟩ a w (fun a' w' => Sim C (look ([(d, .tup [.imm (.v (.bool false))])] ++ st)) a' w') (fun _ _ _ => False)) ∨
    ∃ i s v, i < n ∧ i ∉ seen ∧ l[i]? = some s ∧ vs[i]? = some v ∧
      Oper.wp C.P ⟨some d, .next x false, ty, pos, af, none⟩ a w (fun a' w' => Sim C (look ([(d, .tup [.imm (.v (.bool true)), .imm (.v (.string s)), .imm v]), (gi, .itr gm n (seen ++ [i]))] ++ st)) a' w') (fun _ _ _ => False) := by
  obtain ⟨G, S⟩ := S
  have hN' : d < C.N := by simpa [Nat.blt_eq] using hN
  have hgN' : C.N ≤ gi := Nat.le_of_ble_eq_true hgN
  have hn' : n = l.length := Nat.eq_of_beq_eq_true hn
  obtain ⟨c, hc1, hc2⟩ := S.opS hx rfl
  simp only [RepS] at hc1
  have hev : a.eval x = .pointer (some ⟨G.blk gi, 0, none⟩) := by rw [hc2, hc1]; rfl
  have hi := S.holds gi
  rw [hg] at hi
  simp only [Holds] at hi
  obtain ⟨ho1, hi1, hi2⟩ := hi
  have hb := S.holds gm
  rw [hm] at hb
  simp only [Holds] at hb
  obtain ⟨ho2, ⟨es, h1, h2, h3, h4⟩, hni⟩ := hb
  have hkeys : es.toList.map (·.key) = l.map Value.string := repVs_strs h3
  have hlen : es.size = l.length := by have := congrArg List.length hkeys; simpa using this
  have hold : ∀ x ∈ es.toList, x.born < n := by
    intro x hx
    obtain ⟨i, hi, rfl⟩ := List.getElem_of_mem hx
    have := h2 i (by simpa using hi)
    simp only [Array.getElem_toList, this]
    have : i < es.size := by simpa using hi
    omega
  have hes : es.size = n := by omega
  rcases run_next_at (P := C.P) w ty (G.blk gi) (G.blk gm) n n seen.toArray es es.size hi1 h1 hold (Nat.le_refl _) with ⟨h0, hrun⟩ | ⟨e, he, w1, hw1, hrun⟩
  · refine .inl ⟨fun i hi => ?_, ?_⟩
    · have hie : i < es.size := by omega
      have := leftOf_none h0 es[i] (by simp)
      rw [h2 i hie] at this
      simpa using this
    · unfold Oper.wp
      have : (execOp a.eval ⟨some d, .next x false, ty, pos, af, none⟩).run C.P w = .ok (.value (.tuple #[.bool false])) w := by
        simp only [execOp, hev, Sem.run_bind, hrun, Result.andThen_ok, Sem.run_pure]
      rw [this, Oper.upon_value]
      have S2 := S.put (d := d) hN' (x := .tup [.imm (.v (.bool false))]) (v := .tuple #[.bool false]) (by
        simp only [SlotS]
        exact ⟨[.bool false], rfl, .bool false, [], rfl, valS_imm.2 (rep_p _ _ rfl), rfl⟩)
      rw [upd_look] at S2
      exact ⟨G, S2⟩
  · obtain ⟨he1, he2⟩ := leftOf_mem he
    obtain ⟨i, hi, rfl⟩ := List.getElem_of_mem he1
    have hie : i < es.size := by simpa using hi
    have hbi := h2 i hie
    simp only [Array.getElem_toList] at he2 hrun ⊢
    have hki : es[i].key = .string (l[i]'(by omega)) := by
      have hk2 : (es.toList.map (·.key))[i]? = (l.map Value.string)[i]? := by rw [hkeys]
      simp only [List.getElem?_map, Array.getElem?_toList, Array.getElem?_eq_getElem hie, Option.map_some] at hk2
      rw [List.getElem?_eq_getElem (by omega), Option.map_some] at hk2
      exact Option.some.inj hk2
    have hvl := repVs_len h4
    have hvl' : vs.length = es.size := by simpa using hvl.symm
    obtain ⟨u, hu1, hu2⟩ := repVs_get h4 (List.getElem?_eq_getElem (show i < vs.length by omega))
    simp only [List.getElem?_map, Array.getElem?_toList, Array.getElem?_eq_getElem hie, Option.map_some, Option.some.injEq] at hu1
    refine .inr ⟨i, l[i]'(by omega), vs[i]'(by omega), by omega, ?_, List.getElem?_eq_getElem _, List.getElem?_eq_getElem _, ?_⟩
    · rw [hbi] at he2; simpa using he2
    · unfold Oper.wp
      have : (execOp a.eval ⟨some d, .next x false, ty, pos, af, none⟩).run C.P w = .ok (.value (.tuple #[.bool true, es[i].key, es[i].val])) (setBlk w1 (G.blk gi) (.mapIter (some (G.blk gm)) n (seen ++ [i]).toArray n)) := by
        simp only [execOp, hev, Sem.run_bind, hrun, Result.andThen_ok, Sem.run_pure]
        simp only [hbi, hes]
        congr 1
        simp only [ChangeMaps.setBlock, setBlk]
        congr 2
        simp
      rw [this, Oper.upon_value]
      have S1 := S.draws hw1
      have hhe : w1.heap = w.heap := by rcases hw1 with rfl | rfl <;> rfl
      have hle1 : Le w G.I w1 G.I := fun b o h => ⟨h, kp_of_block (by rw [hhe])⟩
      have S2 := S1.turnOG (g := gi) (X' := .itr gm n (seen ++ [i])) (o' := .mapIter (some (G.blk gm)) n (seen ++ [i]).toArray n) ⟨ho1.1, by rw [hhe]; exact ho1.2⟩ hi2 (by rw [hg]; simp [ownsB]) (fun b h => by simpa only [ownsB] using h) (fun hle => by
        simp only [Holds]
        exact ⟨⟨ho1.1, by rw [setBlk_size, hhe]; exact ho1.2⟩, setBlk_get (by rw [hhe]; exact ho1.2), hi2⟩)
      rw [upd_look] at S2
      have hle2 : Le w1 G.I (setBlk w1 (G.blk gi) (.mapIter (some (G.blk gm)) n (seen ++ [i]).toArray n)) G.I := fun b o h => ⟨h, by
        have : b ≠ G.blk gi := by rintro rfl; exact hi2 o h
        exact kp_of_block (setBlk_ne this)⟩
      have S3 := S2.put (d := d) hN' (x := .tup [.imm (.v (.bool true)), .imm (.v (.string (l[i]'(by omega)))), .imm (vs[i]'(by omega))]) (v := .tuple #[.bool true, es[i].key, es[i].val]) (by
        simp only [SlotS]
        refine ⟨[.bool true, es[i].key, es[i].val], rfl, .bool true, _, rfl, valS_imm.2 (rep_p _ _ rfl), es[i].key, _, rfl, valS_imm.2 (by rw [hki]; exact rep_p _ _ rfl), es[i].val, [], rfl, valS_imm.2 ?_, rfl⟩
        rw [hu1]; exact hu2.mono (hle1.trans hle2))
      rw [upd_look] at S3
      exact ⟨G, S3⟩

theorem aw_next {id : Nat} {ops : Array Oper} {os : List Oper} {st : St} {Q : Exit → St → Prop} {gi gm n : Nat} {seen : List Nat} {l : List ByteArray} {vs : List AV} (hl : ops.toList = ⟨some d, .next x false, ty, pos, af, none⟩ :: os)
    (hN : Nat.blt d C.N = true) (hx : opS (look st) x = .ptr gi 0) (hg : look st gi = .itr gm n seen) (hm : look st gm = .mpr (strs l) vs) (hn : Nat.beq n l.length = true) (hgN : Nat.ble C.N gi = true)
    (hdone : (∀ i, i < n → i ∈ seen) → Go1 C ops os ((d, .tup [.imm (.v (.bool false))]) :: st) [] (fun st' _ => Q .normal st'))
    (hmore : ∀ i s v, i < n → i ∉ seen → l[i]? = some s → vs[i]? = some v → Go1 C ops os ((d, .tup [.imm (.v (.bool true)), .imm (.v (.string s)), .imm v]) :: (gi, .itr gm n (seen ++ [i])) :: st) [] (fun st' _ => Q .normal st')) :
    AW C (.region id ops false) st Q := by
  refine aw_first hl rfl fun a w S => ?_
  rcases wp_next (ty := ty) (pos := pos) (af := af) S hN hx hg hm hn hgN with ⟨h1, h2⟩ | ⟨i, s, v, h1, h2, h3, h4, h5⟩
  · exact ⟨_, h2, hdone h1⟩
  · exact ⟨_, h5, hmore i s v h1 h2 h3 h4⟩
end
end Go.Al
namespace Go.Al
section
variable {C : Cx} {A : Nat → SV} {d : Nat} {ty : TypeId} {pos : String} {af : Array Edge} {gd : Option (Nat × Bool)} {x : Operand}
/-- What the step has handed out. -/
theorem s_entry {gi gm n i : Nat} {seen : List Nat} {l : List ByteArray} {vs : List AV} {s : ByteArray} {v : AV} (hN : Nat.blt d C.N = true) (hx : opS A x = .ptr gi 0) (hg : A gi = .itr gm n (seen ++ [i])) (hm : A gm = .mpr (strs l) vs) (hn : Nat.beq n l.length = true) (hs : l[i]? = some s) (hv : vs[i]? = some v) :
    StepU C ⟨some d, .entry x, ty, pos, af, gd⟩ (gi :: gm :: opR x) [] A [(d, .tup [.imm (.v (.string s)), .imm v])] := by
  refine StepU.value rfl hN fun A' G a w hR S => ?_
  have hgA : A' gi = .itr gm n (seen ++ [i]) := (hR gi (by simp)).trans hg
  have hmA : A' gm = .mpr (strs l) vs := (hR gm (by simp)).trans hm
  have hn' : n = l.length := Nat.eq_of_beq_eq_true hn
  obtain ⟨c, hc1, hc2⟩ := S.opS ((opS_congr (fun k hk => hR k (List.mem_cons_of_mem _ (List.mem_cons_of_mem _ hk)))).trans hx) rfl
  simp only [RepS] at hc1
  have hev : a.eval x = .pointer (some ⟨G.blk gi, 0, none⟩) := by rw [hc2, hc1]; rfl
  have hi := S.holds gi
  rw [hgA] at hi
  simp only [Holds] at hi
  obtain ⟨ho1, hi1, hi2⟩ := hi
  have hb := S.holds gm
  rw [hmA] at hb
  simp only [Holds] at hb
  obtain ⟨ho2, ⟨es, h1, h2, h3, h4⟩, hni⟩ := hb
  have hkeys : es.toList.map (·.key) = l.map Value.string := repVs_strs h3
  have hlen : es.size = l.length := by have := congrArg List.length hkeys; simpa using this
  have hil : i < l.length := (List.getElem?_eq_some_iff.1 hs).1
  have hie : i < es.size := by omega
  have hki : es[i].key = .string s := by
    have hk2 : (es.toList.map (·.key))[i]? = (l.map Value.string)[i]? := by rw [hkeys]
    simp only [List.getElem?_map, Array.getElem?_toList, Array.getElem?_eq_getElem hie, Option.map_some, hs] at hk2
    exact Option.some.inj hk2
  obtain ⟨u, hu1, hu2⟩ := repVs_get h4 hv
  simp only [List.getElem?_map, Array.getElem?_toList, Array.getElem?_eq_getElem hie, Option.map_some, Option.some.injEq] at hu1
  have hnd : (es.toList.map (·.born)).Nodup := by
    have : es.toList.map (·.born) = List.range es.size := by
      refine List.ext_getElem (by simp) fun j h5 h6 => ?_
      have : j < es.size := by simpa using h5
      simp [h2 j this]
    rw [this]; exact List.nodup_range
  have hi1' : w.heap[G.blk gi]? = some (.mapIter (some (G.blk gm)) n (seen.toArray.push es[i].born) es.size) := by
    rw [hi1, h2 i hie, hn', hlen]; simp
  have hrun := run_entry_at (P := C.P) w (G.blk gi) (G.blk gm) n seen.toArray es es.size es[i] hi1' h1 (by simp) hnd
  refine ⟨.tuple #[es[i].key, es[i].val], ?_, ?_⟩
  · simp only [execOp, hev, Sem.run_bind, hrun, Result.andThen_ok, Sem.run_pure]
  · simp only [SlotS]
    exact ⟨[es[i].key, es[i].val], rfl, es[i].key, _, rfl, valS_imm.2 (by rw [hki]; exact rep_p _ _ rfl), es[i].val, [], rfl, valS_imm.2 (by rw [hu1]; exact hu2), rfl⟩
end
theorem look_row {st : St} {k : Nat} {l m : List ByteArray} (h : look st k = .row l) (e : l = m) : look st k = .row m := by rw [h, e]
theorem look_units {st : St} {k g n m : Nat} (h : look st k = .slg g 0 (units n)) (e : n = m) : look st k = .slg g 0 (units m) := by rw [h, e]
theorem look_itr {st : St} {k g n m : Nat} {s t : List Nat} (h : look st k = .itr g n s) (e : n = m) (e2 : s = t) : look st k = .itr g m t := by rw [h, e, e2]
theorem look_mpr {st : St} {k : Nat} {a a' b b' : List AV} (h : look st k = .mpr a b) (e : a = a') (e2 : b = b') : look st k = .mpr a' b' := by rw [h, e, e2]
theorem strs_length (l : List ByteArray) : (strs l).length = l.length := by simp [strs]
end Go.Al

namespace Go.Proofs
open Go Go.Al

theorem sameVs_ne {a b : List GV} (h : a ≠ b) : sameVs a b = false := by cases hs : sameVs a b; rfl; exact absurd ((sameVs_iff _ _).1 hs) h
theorem sameA_ne {a b : GA} (h : a ≠ b) : sameA a b = false := by cases hs : sameA a b; rfl; exact absurd ((sameA_iff _ _).1 hs) h
theorem sameA_refl (a : GA) : sameA a a = true := (sameA_iff a a).2 rfl
theorem sameVs_refl (a : List GV) : sameVs a a = true := (sameVs_iff a a).2 rfl

/-! ### How deep -/

/-! ### Keys met so far -/
theorem nodup_lt : ∀ (n : Nat) (s : List Nat), s.Nodup → (∀ i ∈ s, i < n) → s.length ≤ n
  | 0, s, _, h => by
    cases s with
    | nil => simp
    | cons x s => exact absurd (h x (by simp)) (by omega)
  | n + 1, s, hn, h => by
    by_cases hm : n ∈ s
    · have h1 := nodup_lt n (s.erase n) (hn.erase n) (fun i hi => by
        have h2 := h i (List.mem_of_mem_erase hi)
        have h3 := ((List.Nodup.mem_erase_iff hn).1 hi).1
        omega)
      have := List.length_erase_of_mem hm
      omega
    · have := nodup_lt n s hn (fun i hi => by
        have h1 := h i hi
        have : i ≠ n := by rintro rfl; exact hm hi
        omega)
      omega
def ksOf (l : List GA) (seen : List Nat) : List ByteArray := seen.map fun i => (mks l).getD i ⟨#[]⟩
theorem ksOf_snoc {l : List GA} {seen : List Nat} {q : Nat} {tx : ByteArray} (h : (mks l)[q]? = some tx) : ksOf l (seen ++ [q]) = ksOf l seen ++ [tx] := by
  simp only [ksOf, List.map_append, List.map_cons, List.map_nil, List.getD_eq_getElem?_getD, h, Option.getD_some]
theorem ksOf_len (l : List GA) (seen : List Nat) : (ksOf l seen).length = seen.length := by simp [ksOf]
theorem nodup_snoc {s : List Nat} {q : Nat} (h : s.Nodup) (hq : q ∉ s) : (s ++ [q]).Nodup := by
  rw [List.nodup_append]
  refine ⟨h, by simp, fun a ha b hb => ?_⟩
  simp at hb; subst hb; rintro rfl; exact hq ha
theorem look_key {l : List GA} {k : ByteArray} (h : k ∈ mks l) : ∃ p, mfind (mks l) k 0 = some p ∧ (mvs l)[p]? = some (iv (lastI l k : Int)) ∧ lastI l k < l.length := by
  cases hm : mfind (mks l) k 0 with
  | none => exact absurd h (mfind_none.1 hm)
  | some p =>
    have h1 := mfind_get hm
    simp only [Nat.sub_zero] at h1
    refine ⟨p, rfl, by unfold mvs; rw [List.getElem?_map, h1]; rfl, ?_⟩
    obtain ⟨j, hj⟩ := (mks_spec l k).1 h
    have := lastAt_lt hj
    unfold lastI
    rw [hj]; simp; omega
end Go.Proofs

namespace Go.Proofs
open Go Go.Al Go.Shelf
def Tryz.lays190_ren : Go.Shelf.Ren := ⟨fun | 190 => 55 | 125 => 71 | 258 => 70 | 128 => 102 | 129 => 103 | 302 => 93 | 303 => 94 | 304 => 95 | 305 => 96 | 306 => 97 | 307 => 98 | 308 => 99 | 309 => 100 | 310 => 101 | 333 => 111 | 329 => 112 | 330 => 113 | 334 => 114 | 335 => 115 | 336 => 116 | 344 => 120 | n => n, fun | 31 => 78 | 9 => 9 | 3 => 3 | 46 => 92 | 0 => 0 | 51 => 118 | 53 => 26 | 4 => 4 | 183 => 110 | 182 => 109 | 131 => 115 | 5 => 5 | 218 => 123 | 222 => 127 | 228 => 133 | 229 => 75 | n => n, fun | n => n⟩
theorem Tryz.lays190 : Go.Proofs.Lays.n190 Tryz.prog Tryz.lays190_ren := {
  mixed := by kernel_rfl
  f125 := Tryz.func71.trans (congrArg some (by kernel_rfl))
  f128 := Tryz.func102.trans (congrArg some (by kernel_rfl))
  f129 := Tryz.func103.trans (congrArg some (by kernel_rfl))
  f190 := Tryz.func55.trans (congrArg some (by kernel_rfl))
  f258 := Tryz.func70.trans (congrArg some (by kernel_rfl))
  f302 := Tryz.func93.trans (congrArg some (by kernel_rfl))
  f303 := Tryz.func94.trans (congrArg some (by kernel_rfl))
  f304 := Tryz.func95.trans (congrArg some (by kernel_rfl))
  f305 := Tryz.func96.trans (congrArg some (by kernel_rfl))
  f306 := Tryz.func97.trans (congrArg some (by kernel_rfl))
  f307 := Tryz.func98.trans (congrArg some (by kernel_rfl))
  f308 := Tryz.func99.trans (congrArg some (by kernel_rfl))
  f309 := Tryz.func100.trans (congrArg some (by kernel_rfl))
  f310 := Tryz.func101.trans (congrArg some (by kernel_rfl))
  f329 := Tryz.func112.trans (congrArg some (by kernel_rfl))
  f330 := Tryz.func113.trans (congrArg some (by kernel_rfl))
  f333 := Tryz.func111.trans (congrArg some (by kernel_rfl))
  f334 := Tryz.func114.trans (congrArg some (by kernel_rfl))
  f335 := Tryz.func115.trans (congrArg some (by kernel_rfl))
  f336 := Tryz.func116.trans (congrArg some (by kernel_rfl))
  f344 := Tryz.func120.trans (congrArg some (by kernel_rfl))
  t0 := Tryz.underlying0
  a0 := Tryz.isAgg0
  z0 := Tryz.sizeOf0
  v0 := Tryz.zeroValue0
  t3 := Tryz.underlying3
  a3 := Tryz.isAgg3
  z3 := Tryz.sizeOf3
  v3 := Tryz.zeroValue3
  t4 := Tryz.underlying4
  a4 := Tryz.isAgg4
  z4 := Tryz.sizeOf4
  v4 := Tryz.zeroValue4
  t5 := Tryz.underlying5
  a5 := Tryz.isAgg5
  z5 := Tryz.sizeOf5
  v5 := Tryz.zeroValue5
  t9 := Tryz.underlying9
  a9 := Tryz.isAgg9
  z9 := Tryz.sizeOf9
  v9 := Tryz.zeroValue9
  t31 := Tryz.underlying78
  a31 := Tryz.isAgg78
  z31 := Tryz.sizeOf78
  v31 := Tryz.zeroValue78
  t46 := Tryz.underlying92
  a46 := Tryz.isAgg92
  z46 := Tryz.sizeOf92
  v46 := Tryz.zeroValue92
  t51 := Tryz.underlying118
  a51 := Tryz.isAgg118
  z51 := Tryz.sizeOf118
  v51 := Tryz.zeroValue118
  t53 := Tryz.underlying26
  a53 := Tryz.isAgg26
  z53 := Tryz.sizeOf26
  v53 := Tryz.zeroValue26
  t131 := Tryz.underlying115
  a131 := Tryz.isAgg115
  z131 := Tryz.sizeOf115
  v131 := Tryz.zeroValue115
  t182 := Tryz.underlying109
  a182 := Tryz.isAgg109
  z182 := Tryz.sizeOf109
  v182 := Tryz.zeroValue109
  t183 := Tryz.underlying110
  a183 := Tryz.isAgg110
  z183 := Tryz.sizeOf110
  v183 := Tryz.zeroValue110
  t218 := Tryz.underlying123
  a218 := Tryz.isAgg123
  z218 := Tryz.sizeOf123
  v218 := Tryz.zeroValue123
  t222 := Tryz.underlying127
  a222 := Tryz.isAgg127
  z222 := Tryz.sizeOf127
  v222 := Tryz.zeroValue127
  t228 := Tryz.underlying133
  a228 := Tryz.isAgg133
  z228 := Tryz.sizeOf133
  v228 := Tryz.zeroValue133
  t229 := Tryz.underlying75
  a229 := Tryz.isAgg75
  z229 := Tryz.sizeOf75
  v229 := Tryz.zeroValue75 }
theorem sort_c : SortC Tryz.prog Γ0 55 where
  call := by kernel_rfl
  sorts := fun blk cap ss w hH hb hs => Any.slices_Sort_string Tryz.lays190 blk 0 cap ss w hH hb hs
  empty := ⟨by kernel_rfl, fun w I args hv hg hr => by
    simp only [RepVs] at hr
    obtain ⟨cc, r, rfl, h1, rfl⟩ := hr
    have e : mkV (.v (.slice none 0 0)) cc = .slice none 0 0 := by
      simp only [RepC] at h1
      rw [h1.1]; rfl
    rw [e]
    refine (Any.slices_Sort_string_none Tryz.lays190 none 0 w).mono ?_
    rintro e w' ⟨rfl, rfl⟩
    exact ⟨_, I, rfl, RowKit.Below.refl _ _, Le.refl _ _, fun b o h => .inl h, hv, [], rfl, by simp only [RepVs]⟩⟩
end Go.Proofs

namespace Go.Proofs
open Go Go.Al
set_option maxRecDepth 10000
set_option maxHeartbeats 1000000 in
theorem eqfV_c (a b : List GV) (fn : FuncId) (hl : a.length ≤ 1000000000) (hf : ∀ x ∈ a, ∀ y : GV, PCall Tryz.prog Γ0 fn ([] ++ [x.av, y.av] ++ []) [bv (sameV x y)]) : PCall Tryz.prog Γ0 72 [(.sl 6 (a.map avV)), (.sl 6 (b.map avV)), .fn (.func fn) [] []] [bv (sameVs a b)] := by
  refine pcall_of Tryz.func72 rfl Tryz.ntmps72 (by kernel_rfl) rfl fun w0 I0 G0 => ?_
  refine aw_seq ?_
  refine aw_region ?_
  refine g_u (s_as_imm rfl rfl) ?_
  refine g_nil ?_
  refine normal_thn ?_
  refine aw_seq ?_
  refine aw_seq ?_
  refine aw_region ?_
  refine g_u (s_mv_imm rfl rfl) ?_
  refine g_u (s_lenL rfl rfl Tryz.underlying46) ?_
  refine g_u (s_mv_imm rfl rfl) ?_
  refine g_u (s_lenL rfl rfl Tryz.underlying46) ?_
  refine g_u (s_neI rfl rfl rfl) ?_
  refine g_nil ?_
  refine normal_thn ?_
  refine aw_cond rfl (fun hb1 => ?_) (fun hb1 => ?_)
  · skip
    have q : ¬ a.length = b.length := by have e := bne_iff_ne.1 hb1; simp only [List.length_map] at e; omega
    refine aw_seq ?_
    refine aw_region ?_
    refine g_u (s_as_imm rfl rfl) ?_
    refine g_nil ?_
    refine normal_thn ?_
    refine aw_ret ?_
    refine ret_thn ?_
    exact ⟨⟨(rfl : toAV (Al.look _ _) = some _).trans (congrArg some (by (exact congrArg bv (by first | exact (sameVs_ne (fun e => q (by rw [e]))).symm | exact ((sameVs_iff _ _).2 (ext_nth v0 el (fun j hj => h2 j (by omega)))).symm)))), rfl⟩, trivial⟩
  · skip
    have el : a.length = b.length := by have e := bne_eq_false_iff_eq.1 hb1; simp only [List.length_map] at e; omega
    refine aw_skip ?_
    refine normal_thn ?_
    refine aw_seq ?_
    refine aw_seq ?_
    refine aw_region ?_
    refine g_u (s_mv_imm rfl rfl) ?_
    refine g_u (s_lenL rfl rfl Tryz.underlying46) ?_
    refine g_u (s_mv_imm rfl rfl) ?_
    refine g_nil ?_
    refine normal_thn ?_
    refine aw_block ?_
    refine aw_loop' (fun i : Nat => [(1, .imm (.sl 6 (b.map avV))), (2, .imm (.fn (.func fn) [] [])), (15, .imm (.sl 6 (a.map avV))), (16, .imm (iv (a.length : Int))), (17, .imm (iv (i : Int)))]) (fun i => i ≤ a.length ∧ ∀ j, j < i → nth a j v0 = nth b j v0) (fun i => a.length - i) (0) ?_ ⟨rfl, rfl, rfl, look_int rfl (by rw [List.length_map]), rfl, trivial⟩ ?_
    · exact ⟨Nat.zero_le _, fun j h => absurd h (Nat.not_lt_zero _)⟩
    · rintro i ⟨h1, h2⟩; (try dsimp only at h1 h2)
      refine aw_seq ?_
      refine aw_region ?_
      refine g_u (s_ltI rfl rfl rfl) ?_
      refine g_nil ?_
      refine normal_thn ?_
      refine aw_seq ?_
      refine aw_cond rfl (fun hb2 => ?_) (fun hb2 => ?_)
      · skip
        have hi : i < a.length := by have := of_decide_eq_true hb2; (try simp only [List.length_map] at this); omega
        have hib : i < b.length := by omega
        refine aw_skip ?_
        refine normal_thn ?_
        refine aw_seq ?_
        refine aw_block ?_
        refine aw_seq ?_
        refine aw_region ?_
        refine g_u (s_mv_imm rfl rfl) ?_
        refine g_u (s_indexAddr rfl rfl rfl Tryz.underlying46 tS48 (by omega) (ixV hi)) ?_
        refine g_u (s_load_cp rfl rfl tA48 tS48 rfl rfl) ?_
        refine g_uG (s_alloc' 1008 rfl rfl rfl tZ48) rfl ?_
        refine g_u (s_as_imm rfl rfl) ?_
        refine g_u (s_store_imm rfl rfl rfl tS48 rfl rfl) ?_
        refine g_nil ?_
        refine normal_thn ?_
        refine aw_seq ?_
        refine aw_region ?_
        refine g_u (s_mv_imm rfl rfl) ?_
        refine g_u (s_mv_imm rfl rfl) ?_
        refine g_u (s_indexAddr rfl rfl rfl Tryz.underlying46 tS48 (by omega) (ixV hib)) ?_
        refine g_u (s_load_cp rfl rfl tA48 tS48 rfl rfl) ?_
        refine g_uG (s_alloc' 1009 rfl rfl rfl tZ48) rfl ?_
        refine g_u (s_store_imm rfl rfl rfl tS48 rfl rfl) ?_
        refine g_nil ?_
        refine normal_thn ?_
        refine aw_seq ?_
        refine aw_region ?_
        refine g_u (s_mv_imm rfl rfl) ?_
        refine g_u (s_load_agg rfl rfl rfl tA48 tS48 rfl rfl) ?_
        refine g_u (s_load_agg rfl rfl rfl tA48 tS48 rfl rfl) ?_
        refine g_u (s_callv1 (hf _ (nthV_mem hi) _) rfl rfl rfl) ?_
        refine g_u (s_not rfl rfl) ?_
        refine g_nil ?_
        refine normal_thn ?_
        refine aw_cond rfl (fun hb3 => ?_) (fun hb3 => ?_)
        · skip
          have q : ¬ nthV a i = nthV b i := fun h => by have e := hb3; rw [h, sameV_refl] at e; cases e
          refine aw_seq ?_
          refine aw_region ?_
          refine g_u (s_as_imm rfl rfl) ?_
          refine g_nil ?_
          refine normal_thn ?_
          refine aw_ret ?_
          refine ret_blk ?_
          refine ret_thn ?_
          refine ret_thn ?_
          refine ret_blk ?_
          refine ret_thn ?_
          exact ⟨⟨(rfl : toAV (Al.look _ _) = some _).trans (congrArg some (by (exact congrArg bv (by first | exact (sameVs_ne (fun e => q (by rw [e]))).symm | exact ((sameVs_iff _ _).2 (ext_nth v0 el (fun j hj => h2 j (by omega)))).symm)))), rfl⟩, trivial⟩
        · skip
          have ev : nthV a i = nthV b i := (sameV_iff _ _).1 (by have e := hb3; simpa using e)
          refine aw_skip ?_
          refine normal_blk ?_
          refine normal_thn ?_
          refine aw_region ?_
          refine g_u (s_add rfl rfl rfl) ?_
          refine g_u (s_mv_imm rfl rfl) ?_
          refine g_nil ?_
          refine normal_thn ?_
          refine ⟨i + 1, ⟨hi, fun j hj => by rcases Nat.lt_or_ge j i with h | h; exact h2 j h; rw [show j = i by omega]; exact ev⟩, ⟨rfl, rfl, rfl, rfl, look_int rfl (by rw [wrap64 (by omega) (by omega)]; rfl), trivial⟩, by (try dsimp only); omega⟩
      · skip
        have hin : i = a.length := by have := of_decide_eq_false hb2; (try simp only [List.length_map] at this); omega
        refine aw_exit ?_
        refine exit_thn ?_
        refine exit_thn ?_
        refine exit_blk ?_
        refine normal_thn ?_
        refine aw_seq ?_
        refine aw_region ?_
        refine g_u (s_as_imm rfl rfl) ?_
        refine g_nil ?_
        refine normal_thn ?_
        refine aw_ret ?_
        exact ⟨⟨(rfl : toAV (Al.look _ _) = some _).trans (congrArg some (by (exact congrArg bv (by first | exact (sameVs_ne (fun e => q (by rw [e]))).symm | exact ((sameVs_iff _ _).2 (ext_nth v0 el (fun j hj => h2 j (by omega)))).symm)))), rfl⟩, trivial⟩

set_option maxHeartbeats 1000000 in
theorem eqfA_c (a b : List GA) (fn : FuncId) (hl : a.length ≤ 1000000000) (hf : ∀ x ∈ a, ∀ y : GA, PCall Tryz.prog Γ0 fn ([] ++ [x.av, y.av] ++ []) [bv (sameA x y)]) : PCall Tryz.prog Γ0 57 [(.sl 7 (a.map avA)), (.sl 7 (b.map avA)), .fn (.func fn) [] []] [bv (sameAs a b)] := by
  refine pcall_of Tryz.func57 rfl Tryz.ntmps57 (by kernel_rfl) rfl fun w0 I0 G0 => ?_
  refine aw_seq ?_
  refine aw_region ?_
  refine g_u (s_as_imm rfl rfl) ?_
  refine g_nil ?_
  refine normal_thn ?_
  refine aw_seq ?_
  refine aw_seq ?_
  refine aw_region ?_
  refine g_u (s_mv_imm rfl rfl) ?_
  refine g_u (s_lenL rfl rfl Tryz.underlying27) ?_
  refine g_u (s_mv_imm rfl rfl) ?_
  refine g_u (s_lenL rfl rfl Tryz.underlying27) ?_
  refine g_u (s_neI rfl rfl rfl) ?_
  refine g_nil ?_
  refine normal_thn ?_
  refine aw_cond rfl (fun hb1 => ?_) (fun hb1 => ?_)
  · skip
    have q : ¬ a.length = b.length := by have e := bne_iff_ne.1 hb1; simp only [List.length_map] at e; omega
    refine aw_seq ?_
    refine aw_region ?_
    refine g_u (s_as_imm rfl rfl) ?_
    refine g_nil ?_
    refine normal_thn ?_
    refine aw_ret ?_
    refine ret_thn ?_
    exact ⟨⟨(rfl : toAV (Al.look _ _) = some _).trans (congrArg some (by (exact congrArg bv (by first | exact (sameAs_ne (fun e => q (by rw [e]))).symm | exact ((sameAs_iff _ _).2 (ext_nth a0 el (fun j hj => h2 j (by omega)))).symm)))), rfl⟩, trivial⟩
  · skip
    have el : a.length = b.length := by have e := bne_eq_false_iff_eq.1 hb1; simp only [List.length_map] at e; omega
    refine aw_skip ?_
    refine normal_thn ?_
    refine aw_seq ?_
    refine aw_seq ?_
    refine aw_region ?_
    refine g_u (s_mv_imm rfl rfl) ?_
    refine g_u (s_lenL rfl rfl Tryz.underlying27) ?_
    refine g_u (s_mv_imm rfl rfl) ?_
    refine g_nil ?_
    refine normal_thn ?_
    refine aw_block ?_
    refine aw_loop' (fun i : Nat => [(1, .imm (.sl 7 (b.map avA))), (2, .imm (.fn (.func fn) [] [])), (15, .imm (.sl 7 (a.map avA))), (16, .imm (iv (a.length : Int))), (17, .imm (iv (i : Int)))]) (fun i => i ≤ a.length ∧ ∀ j, j < i → nth a j a0 = nth b j a0) (fun i => a.length - i) (0) ?_ ⟨rfl, rfl, rfl, look_int rfl (by rw [List.length_map]), rfl, trivial⟩ ?_
    · exact ⟨Nat.zero_le _, fun j h => absurd h (Nat.not_lt_zero _)⟩
    · rintro i ⟨h1, h2⟩; (try dsimp only at h1 h2)
      refine aw_seq ?_
      refine aw_region ?_
      refine g_u (s_ltI rfl rfl rfl) ?_
      refine g_nil ?_
      refine normal_thn ?_
      refine aw_seq ?_
      refine aw_cond rfl (fun hb2 => ?_) (fun hb2 => ?_)
      · skip
        have hi : i < a.length := by have := of_decide_eq_true hb2; (try simp only [List.length_map] at this); omega
        have hib : i < b.length := by omega
        refine aw_skip ?_
        refine normal_thn ?_
        refine aw_seq ?_
        refine aw_block ?_
        refine aw_seq ?_
        refine aw_region ?_
        refine g_u (s_mv_imm rfl rfl) ?_
        refine g_u (s_indexAddr rfl rfl rfl Tryz.underlying27 tS50 (by omega) (ixA hi)) ?_
        refine g_u (s_load_cp rfl rfl tA50 tS50 rfl rfl) ?_
        refine g_uG (s_alloc' 1008 rfl rfl rfl tZ50) rfl ?_
        refine g_u (s_as_imm rfl rfl) ?_
        refine g_u (s_store_imm rfl rfl rfl tS50 rfl rfl) ?_
        refine g_nil ?_
        refine normal_thn ?_
        refine aw_seq ?_
        refine aw_region ?_
        refine g_u (s_mv_imm rfl rfl) ?_
        refine g_u (s_mv_imm rfl rfl) ?_
        refine g_u (s_indexAddr rfl rfl rfl Tryz.underlying27 tS50 (by omega) (ixA hib)) ?_
        refine g_u (s_load_cp rfl rfl tA50 tS50 rfl rfl) ?_
        refine g_uG (s_alloc' 1009 rfl rfl rfl tZ50) rfl ?_
        refine g_u (s_store_imm rfl rfl rfl tS50 rfl rfl) ?_
        refine g_nil ?_
        refine normal_thn ?_
        refine aw_seq ?_
        refine aw_region ?_
        refine g_u (s_mv_imm rfl rfl) ?_
        refine g_u (s_load_agg rfl rfl rfl tA50 tS50 rfl rfl) ?_
        refine g_u (s_load_agg rfl rfl rfl tA50 tS50 rfl rfl) ?_
        refine g_u (s_callv1 (hf _ (nthA_mem hi) _) rfl rfl rfl) ?_
        refine g_u (s_not rfl rfl) ?_
        refine g_nil ?_
        refine normal_thn ?_
        refine aw_cond rfl (fun hb3 => ?_) (fun hb3 => ?_)
        · skip
          have q : ¬ nthA a i = nthA b i := fun h => by have e := hb3; rw [h, sameA_refl] at e; cases e
          refine aw_seq ?_
          refine aw_region ?_
          refine g_u (s_as_imm rfl rfl) ?_
          refine g_nil ?_
          refine normal_thn ?_
          refine aw_ret ?_
          refine ret_blk ?_
          refine ret_thn ?_
          refine ret_thn ?_
          refine ret_blk ?_
          refine ret_thn ?_
          exact ⟨⟨(rfl : toAV (Al.look _ _) = some _).trans (congrArg some (by (exact congrArg bv (by first | exact (sameAs_ne (fun e => q (by rw [e]))).symm | exact ((sameAs_iff _ _).2 (ext_nth a0 el (fun j hj => h2 j (by omega)))).symm)))), rfl⟩, trivial⟩
        · skip
          have ev : nthA a i = nthA b i := (sameA_iff _ _).1 (by have e := hb3; simpa using e)
          refine aw_skip ?_
          refine normal_blk ?_
          refine normal_thn ?_
          refine aw_region ?_
          refine g_u (s_add rfl rfl rfl) ?_
          refine g_u (s_mv_imm rfl rfl) ?_
          refine g_nil ?_
          refine normal_thn ?_
          refine ⟨i + 1, ⟨hi, fun j hj => by rcases Nat.lt_or_ge j i with h | h; exact h2 j h; rw [show j = i by omega]; exact ev⟩, ⟨rfl, rfl, rfl, rfl, look_int rfl (by rw [wrap64 (by omega) (by omega)]; rfl), trivial⟩, by (try dsimp only); omega⟩
      · skip
        have hin : i = a.length := by have := of_decide_eq_false hb2; (try simp only [List.length_map] at this); omega
        refine aw_exit ?_
        refine exit_thn ?_
        refine exit_thn ?_
        refine exit_blk ?_
        refine normal_thn ?_
        refine aw_seq ?_
        refine aw_region ?_
        refine g_u (s_as_imm rfl rfl) ?_
        refine g_nil ?_
        refine normal_thn ?_
        refine aw_ret ?_
        exact ⟨⟨(rfl : toAV (Al.look _ _) = some _).trans (congrArg some (by (exact congrArg bv (by first | exact (sameAs_ne (fun e => q (by rw [e]))).symm | exact ((sameAs_iff _ _).2 (ext_nth a0 el (fun j hj => h2 j (by omega)))).symm)))), rfl⟩, trivial⟩

set_option maxHeartbeats 400000 in
theorem psameA_st (a b : GA) (ih : PCall Tryz.prog Γ0 59 [a.val.av, b.val.av] [bv (sameV a.val b.val)]) : PCall Tryz.prog Γ0 58 [a.av, b.av] [bv (sameA a b)] := by
  refine pcall_of Tryz.func58 rfl Tryz.ntmps58 (by kernel_rfl) rfl fun w0 I0 G0 => ?_
  refine aw_seq ?_
  refine aw_region ?_
  refine g_uG (s_box_imm 1002 rfl rfl rfl rfl) rfl ?_
  refine g_uG (s_box_imm 1003 rfl rfl rfl rfl) rfl ?_
  refine g_u (s_as_imm rfl rfl) ?_
  refine g_nil ?_
  refine normal_thn ?_
  refine aw_seq ?_
  refine aw_region ?_
  refine g_u (s_fieldAddr rfl rfl fa50_0 rfl) ?_
  refine g_u (s_load_imm rfl rfl rfl tA9 tS9 rfl rfl) ?_
  refine g_u (s_fieldAddr rfl rfl fa50_0 rfl) ?_
  refine g_u (s_load_imm rfl rfl rfl tA9 tS9 rfl rfl) ?_
  refine g_u (s_eqS rfl rfl rfl) ?_
  refine g_u (s_mv_imm rfl rfl) ?_
  refine g_case (t := 10) rfl ?_
  rintro (hb1 | hb1)
  · rw [hb1]
    have ek : a.key = b.key := by have e := hb1; rw [str_beq] at e; exact of_decide_eq_true e
    refine g_run rfl rfl (s_fieldAddr rfl rfl fa50_1 rfl) ?_
    refine g_run rfl rfl (s_load_imm rfl rfl rfl tA48 tS48 rfl rfl) ?_
    refine g_run rfl rfl (s_fieldAddr rfl rfl fa50_1 rfl) ?_
    refine g_run rfl rfl (s_load_imm rfl rfl rfl tA48 tS48 rfl rfl) ?_
    refine g_run rfl rfl (s_call1 (ih) rfl rfl) ?_
    refine g_u (s_pick_t rfl rfl rfl) ?_
    refine g_u (s_as_imm rfl rfl) ?_
    refine g_nil ?_
    refine normal_thn ?_
    refine aw_ret ?_
    exact ⟨⟨(rfl : toAV (Al.look _ _) = some _).trans (congrArg some (by (exact congrArg bv (by first | exact (sameA_ne (fun e => q (by rw [e]))).symm | (rw [Bool.eq_iff_iff, sameV_iff, sameA_iff]; exact ⟨fun h => GA.ext' ek h, fun h => by rw [h]⟩))))), rfl⟩, trivial⟩
  · rw [hb1]
    have q : ¬ a.key = b.key := by have e := hb1; rw [str_beq] at e; exact of_decide_eq_false e
    refine g_skip rfl rfl rfl ?_
    refine g_skip rfl rfl rfl ?_
    refine g_skip rfl rfl rfl ?_
    refine g_skip rfl rfl rfl ?_
    refine g_skip rfl rfl rfl ?_
    refine g_u (s_pick_f rfl rfl rfl) ?_
    refine g_u (s_as_imm rfl rfl) ?_
    refine g_nil ?_
    refine normal_thn ?_
    refine aw_ret ?_
    exact ⟨⟨(rfl : toAV (Al.look _ _) = some _).trans (congrArg some (by (exact congrArg bv (by first | exact (sameA_ne (fun e => q (by rw [e]))).symm | (rw [Bool.eq_iff_iff, sameV_iff, sameA_iff]; exact ⟨fun h => GA.ext' ek h, fun h => by rw [h]⟩))))), rfl⟩, trivial⟩

set_option maxHeartbeats 400000 in
theorem psameAs_st (a b : List GA) (hl : a.length ≤ 1000000000) (ih : ∀ x ∈ a, ∀ y : GA, PCall Tryz.prog Γ0 59 [x.val.av, y.val.av] [bv (sameV x.val y.val)]) : PCall Tryz.prog Γ0 39 [.sl 7 (a.map avA), .sl 7 (b.map avA)] [bv (sameAs a b)] := by
  refine pcall_of Tryz.func39 rfl Tryz.ntmps39 (by kernel_rfl) rfl fun w0 I0 G0 => ?_
  refine aw_seq ?_
  refine aw_region ?_
  refine g_u (s_as_imm rfl rfl) ?_
  refine g_nil ?_
  refine normal_thn ?_
  refine aw_seq ?_
  refine aw_region ?_
  refine g_u (s_mv_imm rfl rfl) ?_
  refine g_u (s_mv_imm rfl rfl) ?_
  refine g_u (s_call1 (eqfA_c a b 58 hl (fun x hx y => psameA_st x y (ih x hx y))) rfl rfl) ?_
  refine g_u (s_as_imm rfl rfl) ?_
  refine g_nil ?_
  refine normal_thn ?_
  refine aw_ret ?_
  exact ⟨⟨(rfl : toAV (Al.look _ _) = some _).trans (congrArg some (by rfl)), rfl⟩, trivial⟩

set_option maxHeartbeats 2000000 in
theorem psameV_st (a b : GV) (ihl : PCall Tryz.prog Γ0 72 [.sl 6 (a.list.map avV), .sl 6 (b.list.map avV), .fn (.func 59) [] []] [bv (sameVs a.list b.list)]) (ihm : PCall Tryz.prog Γ0 39 [.sl 7 (a.map.map avA), .sl 7 (b.map.map avA)] [bv (sameAs a.map b.map)]) : PCall Tryz.prog Γ0 59 [a.av, b.av] [bv (sameV a b)] := by
  refine pcall_of Tryz.func59 rfl Tryz.ntmps59 (by kernel_rfl) rfl fun w0 I0 G0 => ?_
  refine aw_seq ?_
  refine aw_region ?_
  refine g_uG (s_box_imm 1002 rfl rfl rfl rfl) rfl ?_
  refine g_uG (s_box_imm 1003 rfl rfl rfl rfl) rfl ?_
  refine g_u (s_as_imm rfl rfl) ?_
  refine g_nil ?_
  refine normal_thn ?_
  refine aw_seq ?_
  refine aw_seq ?_
  refine aw_region ?_
  refine g_u (s_fieldAddr rfl rfl fa48_0 rfl) ?_
  refine g_u (s_load_imm rfl rfl rfl tA5 tS5 rfl rfl) ?_
  refine g_u (s_fieldAddr rfl rfl fa48_0 rfl) ?_
  refine g_u (s_load_imm rfl rfl rfl tA5 tS5 rfl rfl) ?_
  refine g_u (s_neI rfl rfl rfl) ?_
  refine g_u (s_mv_imm rfl rfl) ?_
  refine g_case (t := 10) rfl ?_
  rintro (hb1 | hb1)
  · rw [hb1]
    have q : ¬ a.kind = b.kind := bne_iff_ne.1 hb1
    refine g_skip rfl rfl rfl ?_
    refine g_skip rfl rfl rfl ?_
    refine g_skip rfl rfl rfl ?_
    refine g_skip rfl rfl rfl ?_
    refine g_skip rfl rfl rfl ?_
    refine g_u (s_pick_t rfl rfl rfl) ?_
    refine g_u (s_mv_imm rfl rfl) ?_
    refine g_skip rfl rfl rfl ?_
    refine g_skip rfl rfl rfl ?_
    refine g_skip rfl rfl rfl ?_
    refine g_skip rfl rfl rfl ?_
    refine g_skip rfl rfl rfl ?_
    refine g_u (s_pick_t rfl rfl rfl) ?_
    refine g_u (s_mv_imm rfl rfl) ?_
    refine g_skip rfl rfl rfl ?_
    refine g_skip rfl rfl rfl ?_
    refine g_skip rfl rfl rfl ?_
    refine g_skip rfl rfl rfl ?_
    refine g_skip rfl rfl rfl ?_
    refine g_u (s_pick_t rfl rfl rfl) ?_
    refine g_nil ?_
    refine normal_thn ?_
    refine aw_cond_true rfl ?_
    refine aw_seq ?_
    refine aw_region ?_
    refine g_u (s_as_imm rfl rfl) ?_
    refine g_nil ?_
    refine normal_thn ?_
    refine aw_ret ?_
    refine ret_thn ?_
    exact ⟨⟨(rfl : toAV (Al.look _ _) = some _).trans (congrArg some (by (exact congrArg bv (by first | exact (sameV_ne (fun e => q (by rw [e]))).symm | exact sameV_map e1 e2 e3 e4 e5)))), rfl⟩, trivial⟩
  · rw [hb1]
    have e1 : a.kind = b.kind := bne_eq_false_iff_eq.1 hb1
    refine g_run rfl rfl (s_fieldAddr rfl rfl fa48_1 rfl) ?_
    refine g_run rfl rfl (s_load_imm rfl rfl rfl tA9 tS9 rfl rfl) ?_
    refine g_run rfl rfl (s_fieldAddr rfl rfl fa48_1 rfl) ?_
    refine g_run rfl rfl (s_load_imm rfl rfl rfl tA9 tS9 rfl rfl) ?_
    refine g_run rfl rfl (s_neS rfl rfl rfl) ?_
    refine g_u (s_pick_f rfl rfl rfl) ?_
    refine g_u (s_mv_imm rfl rfl) ?_
    refine g_case (t := 17) rfl ?_
    rintro (hb2 | hb2)
    · rw [hb2]
      have q : ¬ a.text = b.text := by have e := hb2; rw [str_beq] at e; simpa using e
      refine g_skip rfl rfl rfl ?_
      refine g_skip rfl rfl rfl ?_
      refine g_skip rfl rfl rfl ?_
      refine g_skip rfl rfl rfl ?_
      refine g_skip rfl rfl rfl ?_
      refine g_u (s_pick_t rfl rfl rfl) ?_
      refine g_u (s_mv_imm rfl rfl) ?_
      refine g_skip rfl rfl rfl ?_
      refine g_skip rfl rfl rfl ?_
      refine g_skip rfl rfl rfl ?_
      refine g_skip rfl rfl rfl ?_
      refine g_skip rfl rfl rfl ?_
      refine g_u (s_pick_t rfl rfl rfl) ?_
      refine g_nil ?_
      refine normal_thn ?_
      refine aw_cond_true rfl ?_
      refine aw_seq ?_
      refine aw_region ?_
      refine g_u (s_as_imm rfl rfl) ?_
      refine g_nil ?_
      refine normal_thn ?_
      refine aw_ret ?_
      refine ret_thn ?_
      exact ⟨⟨(rfl : toAV (Al.look _ _) = some _).trans (congrArg some (by (exact congrArg bv (by first | exact (sameV_ne (fun e => q (by rw [e]))).symm | exact sameV_map e1 e2 e3 e4 e5)))), rfl⟩, trivial⟩
    · rw [hb2]
      have e2 : a.text = b.text := by have e := hb2; rw [str_beq] at e; simpa using e
      refine g_run rfl rfl (s_fieldAddr rfl rfl fa48_2 rfl) ?_
      refine g_run rfl rfl (s_load_imm rfl rfl rfl tA3 tS3 rfl rfl) ?_
      refine g_run rfl rfl (s_fieldAddr rfl rfl fa48_2 rfl) ?_
      refine g_run rfl rfl (s_load_imm rfl rfl rfl tA3 tS3 rfl rfl) ?_
      refine g_run rfl rfl (s_neI rfl rfl rfl) ?_
      refine g_u (s_pick_f rfl rfl rfl) ?_
      refine g_u (s_mv_imm rfl rfl) ?_
      refine g_case (t := 24) rfl ?_
      rintro (hb3 | hb3)
      · rw [hb3]
        have q : ¬ a.num = b.num := bne_iff_ne.1 hb3
        refine g_skip rfl rfl rfl ?_
        refine g_skip rfl rfl rfl ?_
        refine g_skip rfl rfl rfl ?_
        refine g_skip rfl rfl rfl ?_
        refine g_skip rfl rfl rfl ?_
        refine g_u (s_pick_t rfl rfl rfl) ?_
        refine g_nil ?_
        refine normal_thn ?_
        refine aw_cond_true rfl ?_
        refine aw_seq ?_
        refine aw_region ?_
        refine g_u (s_as_imm rfl rfl) ?_
        refine g_nil ?_
        refine normal_thn ?_
        refine aw_ret ?_
        refine ret_thn ?_
        exact ⟨⟨(rfl : toAV (Al.look _ _) = some _).trans (congrArg some (by (exact congrArg bv (by first | exact (sameV_ne (fun e => q (by rw [e]))).symm | exact sameV_map e1 e2 e3 e4 e5)))), rfl⟩, trivial⟩
      · rw [hb3]
        have e3 : a.num = b.num := bne_eq_false_iff_eq.1 hb3
        refine g_run rfl rfl (s_fieldAddr rfl rfl fa48_3 rfl) ?_
        refine g_run rfl rfl (s_load_imm rfl rfl rfl tA26 tS26 rfl rfl) ?_
        refine g_run rfl rfl (s_fieldAddr rfl rfl fa48_3 rfl) ?_
        refine g_run rfl rfl (s_load_imm rfl rfl rfl tA26 tS26 rfl rfl) ?_
        refine g_run rfl rfl (s_neI rfl rfl rfl) ?_
        refine g_u (s_pick_f rfl rfl rfl) ?_
        refine g_nil ?_
        refine normal_thn ?_
        refine aw_cond rfl (fun hb4 => ?_) (fun hb4 => ?_)
        · skip
          have q : ¬ a.bits = b.bits := bne_iff_ne.1 hb4
          refine aw_seq ?_
          refine aw_region ?_
          refine g_u (s_as_imm rfl rfl) ?_
          refine g_nil ?_
          refine normal_thn ?_
          refine aw_ret ?_
          refine ret_thn ?_
          exact ⟨⟨(rfl : toAV (Al.look _ _) = some _).trans (congrArg some (by (exact congrArg bv (by first | exact (sameV_ne (fun e => q (by rw [e]))).symm | exact sameV_map e1 e2 e3 e4 e5)))), rfl⟩, trivial⟩
        · skip
          have e4 : a.bits = b.bits := bne_eq_false_iff_eq.1 hb4
          refine aw_skip ?_
          refine normal_thn ?_
          refine aw_seq ?_
          refine aw_region ?_
          refine g_u (s_fieldAddr rfl rfl fa48_4 rfl) ?_
          refine g_u (s_load_imm rfl rfl rfl tA46 tS46 rfl rfl) ?_
          refine g_u (s_fieldAddr rfl rfl fa48_4 rfl) ?_
          refine g_u (s_load_imm rfl rfl rfl tA46 tS46 rfl rfl) ?_
          refine g_u (s_call1 (ihl) rfl rfl) ?_
          refine g_u (s_mv_imm rfl rfl) ?_
          refine g_case (t := 36) rfl ?_
          rintro (hb5 | hb5)
          · rw [hb5]
            have e5 : a.list = b.list := (sameVs_iff _ _).1 hb5
            refine g_run rfl rfl (s_fieldAddr rfl rfl fa48_5 rfl) ?_
            refine g_run rfl rfl (s_load_imm rfl rfl rfl tA27 tS27 rfl rfl) ?_
            refine g_run rfl rfl (s_fieldAddr rfl rfl fa48_5 rfl) ?_
            refine g_run rfl rfl (s_load_imm rfl rfl rfl tA27 tS27 rfl rfl) ?_
            refine g_run rfl rfl (s_call1 (ihm) rfl rfl) ?_
            refine g_u (s_pick_t rfl rfl rfl) ?_
            refine g_u (s_as_imm rfl rfl) ?_
            refine g_nil ?_
            refine normal_thn ?_
            refine aw_ret ?_
            exact ⟨⟨(rfl : toAV (Al.look _ _) = some _).trans (congrArg some (by (exact congrArg bv (by first | exact (sameV_ne (fun e => q (by rw [e]))).symm | exact sameV_map e1 e2 e3 e4 e5)))), rfl⟩, trivial⟩
          · rw [hb5]
            have q : ¬ a.list = b.list := fun h => by have e := hb5; rw [h, sameVs_refl] at e; cases e
            refine g_skip rfl rfl rfl ?_
            refine g_skip rfl rfl rfl ?_
            refine g_skip rfl rfl rfl ?_
            refine g_skip rfl rfl rfl ?_
            refine g_skip rfl rfl rfl ?_
            refine g_u (s_pick_f rfl rfl rfl) ?_
            refine g_u (s_as_imm rfl rfl) ?_
            refine g_nil ?_
            refine normal_thn ?_
            refine aw_ret ?_
            exact ⟨⟨(rfl : toAV (Al.look _ _) = some _).trans (congrArg some (by (exact congrArg bv (by first | exact (sameV_ne (fun e => q (by rw [e]))).symm | exact sameV_map e1 e2 e3 e4 e5)))), rfl⟩, trivial⟩

theorem psameV_c (a : GV) : a.wt ≤ 1000000000 → ∀ b : GV, PCall Tryz.prog Γ0 59 [a.av, b.av] [bv (sameV a b)] := by
  refine GV.ind (P := fun a => a.wt ≤ 1000000000 → ∀ b : GV, PCall Tryz.prog Γ0 59 [a.av, b.av] [bv (sameV a b)]) ?_ a
  intro a h1 h2 hw b
  have ek := a.wt_eq
  have la := len_wtAs a.map
  have lv := len_wtVs a.list
  exact psameV_st a b (eqfV_c a.list b.list 59 (by omega) fun y hy z => h1 y hy (by have := wtVs_mem hy; omega) z) (psameAs_st a.map b.map (by omega) fun x hx y => h2 x hx (by have := wtAs_mem hx; have := x.wt_eq; omega) y.val)
theorem psameAs_c (a b : List GA) (hw : wtAs a ≤ 1000000000) : PCall Tryz.prog Γ0 39 [.sl 7 (a.map avA), .sl 7 (b.map avA)] [bv (sameAs a b)] := by
  have la := len_wtAs a
  exact psameAs_st a b (by omega) fun x hx y => psameV_c x.val (by have := wtAs_mem hx; have := x.wt_eq; omega) y.val

set_option maxHeartbeats 2000000 in
theorem pcanonAs_st (l : List GA) (hl : l.length ≤ 10000000) (ih : ∀ a ∈ l, PCall Tryz.prog Γ0 56 [a.val.av] [(canonV a.val).av]) : PCall Tryz.prog Γ0 38 [(.sl 7 (l.map avA))] [.sl 7 ((canonAs l).map avA)] := by
  refine pcall_of Tryz.func38 rfl Tryz.ntmps38 (by kernel_rfl) rfl fun w0 I0 G0 => ?_
  refine aw_seq ?_
  refine aw_region ?_
  refine g_u (s_as_imm rfl rfl) ?_
  refine g_nil ?_
  refine normal_thn ?_
  refine aw_seq ?_
  refine aw_region ?_
  refine g_uG (s_makeMap 1011 rfl rfl rfl) rfl ?_
  refine g_u (s_as_mref rfl rfl) ?_
  refine g_nil ?_
  refine normal_thn ?_
  refine aw_seq ?_
  refine aw_seq ?_
  refine aw_region ?_
  refine g_u (s_mv_imm rfl rfl) ?_
  refine g_u (s_lenL rfl rfl Tryz.underlying27) ?_
  refine g_u (s_mv_imm rfl rfl) ?_
  refine g_nil ?_
  refine normal_thn ?_
  refine aw_block ?_
  refine aw_loop' (fun i : Nat => [(0, .imm (.sl 7 (l.map avA))), (3, .mref 1011), (1011, .mpr (strs (mks (l.take i))) (mvs (l.take i))), (12, .imm (.sl 7 (l.map avA))), (13, .imm (iv (l.length : Int))), (14, .imm (iv (i : Int)))]) (fun i => i ≤ l.length) (fun i => l.length - i) (0) ?_ ⟨rfl, rfl, rfl, rfl, look_int rfl (by rw [List.length_map]), rfl, trivial⟩ ?_
  · exact Nat.zero_le _
  · rintro i h1; have h1 : i ≤ l.length := h1
    refine aw_seq ?_
    refine aw_region ?_
    refine g_u (s_ltI rfl rfl rfl) ?_
    refine g_nil ?_
    refine normal_thn ?_
    refine aw_seq ?_
    refine aw_cond rfl (fun hb1 => ?_) (fun hb1 => ?_)
    · skip
      have hi : i < l.length := by have := of_decide_eq_true hb1; (try simp only [List.length_map] at this); omega
      refine aw_skip ?_
      refine normal_thn ?_
      refine aw_seq ?_
      refine aw_block ?_
      refine aw_seq ?_
      refine aw_region ?_
      refine g_u (s_mv_imm rfl rfl) ?_
      refine g_u (s_indexAddr rfl rfl rfl Tryz.underlying27 tS50 (by omega) (ixA hi)) ?_
      refine g_u (s_load_cp rfl rfl tA50 tS50 rfl rfl) ?_
      refine g_uG (s_alloc' 1005 rfl rfl rfl tZ50) rfl ?_
      refine g_u (s_as_imm rfl rfl) ?_
      refine g_u (s_store_imm rfl rfl rfl tS50 rfl rfl) ?_
      refine g_nil ?_
      refine normal_thn ?_
      refine aw_region ?_
      refine g_u (s_mv_mref rfl rfl) ?_
      refine g_u (s_fieldAddr rfl rfl fa50_0 rfl) ?_
      refine g_u (s_load_imm rfl rfl rfl tA9 tS9 rfl rfl) ?_
      refine g_u (s_mv_imm rfl rfl) ?_
      refine g_u (s_mapUpdate rfl rfl rfl rfl Tryz.underlying77 Tryz.underlying9) ?_
      refine g_nil ?_
      refine normal_blk ?_
      refine normal_thn ?_
      refine aw_region ?_
      refine g_u (s_add rfl rfl rfl) ?_
      refine g_u (s_mv_imm rfl rfl) ?_
      refine g_nil ?_
      refine normal_thn ?_
      have et : l.take (i + 1) = l.take i ++ [nthA l i] := take_snoc (nth_get (d := a0) hi)
      have el : (l.take i).length = i := by rw [List.length_take]; omega
      refine ⟨i + 1, hi, ⟨rfl, rfl, look_mpr rfl (by rw [et, mks_snoc]) (by rw [et, mvs_snoc, el]), rfl, rfl, look_int rfl (by rw [wrap64 (by omega) (by omega)]; rfl), trivial⟩, by (try dsimp only); omega⟩
    · skip
      have hin : i = l.length := by have := of_decide_eq_false hb1; (try simp only [List.length_map] at this); omega
      refine aw_exit ?_
      refine exit_thn ?_
      refine exit_thn ?_
      refine exit_blk ?_
      refine normal_thn ?_
      refine aw_seq ?_
      refine aw_region ?_
      refine g_u (s_as_imm rfl rfl) ?_
      refine g_nil ?_
      refine normal_thn ?_
      refine aw_newrow 3006 6 rfl rfl rfl rfl ?_
      refine aw_seq ?_
      refine aw_seq ?_
      refine aw_region ?_
      refine g_u (s_mv_mref rfl rfl) ?_
      refine g_uG (s_range 1025 rfl rfl rfl rfl rfl rfl Tryz.underlying77) rfl ?_
      refine g_nil ?_
      refine normal_thn ?_
      refine aw_block ?_
      refine aw_loop' (fun seen : List Nat => [(0, .imm (.sl 7 (l.map avA))), (3, .mref 1011), (1011, .mpr (strs (mks l)) (mvs l)), (6, .slg 3006 0 (units (ksOf l seen).length)), (3006, .row (ksOf l seen)), (25, .ptr 1025 0), (1025, .itr 1011 (mks l).length seen)]) (fun seen => seen.Nodup ∧ ∀ j ∈ seen, j < (mks l).length) (fun seen => (mks l).length - seen.length) ([]) ?_ ⟨rfl, rfl, look_mpr rfl (by rw [hin, List.take_length]) (by rw [hin, List.take_length]), rfl, rfl, rfl, look_itr rfl (by rw [hin, List.take_length, strs_length]) rfl, trivial⟩ ?_
      · exact ⟨List.nodup_nil, fun j h => by cases h⟩
      · rintro seen ⟨h1, h2⟩; (try dsimp only at h1 h2)
        have hsl := nodup_lt _ seen h1 h2
        have hml := mks_len l
        have hkl := ksOf_len l seen
        refine aw_seq ?_
        refine aw_next rfl rfl rfl rfl rfl (Nat.beq_refl _) rfl (fun hall => ?_) (fun q tx va hq hs hk hv => ?_)
        · skip
          have hp := seen_perm h1 h2 hall
          have hp : (ksOf l seen).Perm (mks l) := hp
          have hcs := canonAs_sorted l hp
          have hskl : (sortB (ksOf l seen)).length = seen.length := by rw [sortB_length, ksOf_len]
          refine g_u (s_extract rfl rfl rfl rfl) ?_
          refine g_nil ?_
          refine normal_thn ?_
          refine aw_seq ?_
          refine aw_cond_false rfl ?_
          refine aw_exit ?_
          refine exit_thn ?_
          refine exit_thn ?_
          refine exit_blk ?_
          refine normal_thn ?_
          refine aw_seq ?_
          refine aw_region ?_
          refine g_u (s_mv_slg rfl rfl) ?_
          refine g_u (s_sort 6 (sort_c) rfl rfl rfl rfl rfl rfl rfl rfl rfl (by omega)) ?_
          refine g_nil ?_
          refine normal_thn ?_
          refine aw_seq ?_
          refine aw_region ?_
          refine g_u (s_as_imm rfl rfl) ?_
          refine g_nil ?_
          refine normal_thn ?_
          refine aw_newtok 3008 8 7 rfl rfl rfl rfl ?_
          refine aw_seq ?_
          refine aw_seq ?_
          refine aw_region ?_
          refine g_u (s_mv_imm rfl rfl) ?_
          refine g_u (s_lenL rfl rfl Tryz.underlying78) ?_
          refine g_u (s_mv_imm rfl rfl) ?_
          refine g_nil ?_
          refine normal_thn ?_
          refine aw_block ?_
          refine aw_loop' (fun j : Nat => [(0, .imm (.sl 7 (l.map avA))), (3, .mref 1011), (1011, .mpr (strs (mks l)) (mvs l)), (36, .imm (.sl 1 (strs (sortB (ksOf l seen))))), (37, .imm (iv ((sortB (ksOf l seen)).length : Int))), (8, .slg 3008 7 (((sortB (ksOf l seen)).take j).map (fun k => (GA.mk k (canonV (nthA l (lastI l k)).val)).av))), (3008, .tok 7 (((sortB (ksOf l seen)).take j).map (fun k => (GA.mk k (canonV (nthA l (lastI l k)).val)).av))), (38, .imm (iv (j : Int)))]) (fun j => j ≤ (sortB (ksOf l seen)).length) (fun j => (sortB (ksOf l seen)).length - j) (0) ?_ ⟨rfl, rfl, rfl, rfl, look_int rfl (by rw [strs_length]), rfl, rfl, rfl, trivial⟩ ?_
          · exact Nat.zero_le _
          · rintro j g1; have g1 : j ≤ (sortB (ksOf l seen)).length := g1
            refine aw_seq ?_
            refine aw_region ?_
            refine g_u (s_ltI rfl rfl rfl) ?_
            refine g_nil ?_
            refine normal_thn ?_
            refine aw_seq ?_
            refine aw_cond rfl (fun hb2 => ?_) (fun hb2 => ?_)
            · skip
              have hj : j < (sortB (ksOf l seen)).length := by have := of_decide_eq_true hb2; omega
              obtain ⟨p, hp1, hp2, hp3⟩ := look_key (l := l) (k := nth (sortB (ksOf l seen)) j ⟨#[]⟩) (((sortB_perm _).trans hp).mem_iff.1 (nth_mem hj))
              refine aw_skip ?_
              refine normal_thn ?_
              refine aw_seq ?_
              refine aw_block ?_
              refine aw_seq ?_
              refine aw_region ?_
              refine g_u (s_indexAddr rfl rfl rfl Tryz.underlying78 tS9 (by omega) (str_nth hj)) ?_
              refine g_u (s_load_cp rfl rfl tA9 tS9 rfl rfl) ?_
              refine g_u (s_as_imm rfl rfl) ?_
              refine g_nil ?_
              refine normal_thn ?_
              refine aw_region ?_
              refine g_u (s_mv_slg rfl rfl) ?_
              refine g_u (s_mv_imm rfl rfl) ?_
              refine g_u (s_mv_imm rfl rfl) ?_
              refine g_u (s_mv_mref rfl rfl) ?_
              refine g_u (s_mv_imm rfl rfl) ?_
              refine g_u (s_lookup rfl rfl rfl rfl Tryz.underlying77 Tryz.underlying9 hp1 hp2) ?_
              refine g_u (s_indexAddr rfl rfl rfl Tryz.underlying27 tS50 (by omega) (ixA hp3)) ?_
              refine g_u (s_fieldAddr_cp rfl rfl fa50_1 rfl rfl) ?_
              refine g_u (s_load_cp rfl rfl tA48 tS48 rfl rfl) ?_
              refine g_u (s_call1 (ih _ (nthA_mem hp3)) rfl rfl) ?_
              refine g_u (s_build rfl tU50 us50 pl50 rfl rfl rfl rfl) ?_
              refine g_u (s_buildSlice (X0 := z50) rfl Tryz.underlying27 tS50 tZ50 rfl rfl rfl rfl rfl rfl rfl rfl) ?_
              refine g_u (s_append rfl rfl rfl rfl rfl Tryz.underlying27 Tryz.underlying27 tS50 zv50 rfl (by decide) by50 (by (try dsimp only); simp only [List.length_append, List.length_cons, List.length_nil, List.length_map, List.length_take]; omega) (by (try dsimp only); simp only [List.length_append, List.length_cons, List.length_nil, List.length_map, List.length_take]; omega)) ?_
              refine g_u (s_as_slg rfl rfl) ?_
              refine g_nil ?_
              refine normal_blk ?_
              refine normal_thn ?_
              refine aw_region ?_
              refine g_u (s_add rfl rfl rfl) ?_
              refine g_u (s_mv_imm rfl rfl) ?_
              refine g_nil ?_
              refine normal_thn ?_
              have et : (((sortB (ksOf l seen)).take (j + 1)).map (fun k => (GA.mk k (canonV (nthA l (lastI l k)).val)).av)) = (((sortB (ksOf l seen)).take j).map (fun k => (GA.mk k (canonV (nthA l (lastI l k)).val)).av)) ++ [(fun k => (GA.mk k (canonV (nthA l (lastI l k)).val)).av) (nth (sortB (ksOf l seen)) j ⟨#[]⟩)] := by rw [take_snoc (nth_get (d := ⟨#[]⟩) hj), List.map_append]; rfl
              refine ⟨j + 1, hj, ⟨rfl, rfl, rfl, rfl, rfl, look_slg rfl et.symm, look_tok rfl et.symm, look_int rfl (by rw [wrap64 (by omega) (by omega)]; rfl), trivial⟩, by (try dsimp only); omega⟩
            · skip
              have hjn : j = (sortB (ksOf l seen)).length := by have := of_decide_eq_false hb2; omega
              refine aw_exit ?_
              refine exit_thn ?_
              refine exit_thn ?_
              refine exit_blk ?_
              refine normal_thn ?_
              refine aw_seq ?_
              refine aw_region ?_
              refine g_u (s_mv_slg rfl rfl) ?_
              refine g_u (s_as_slg rfl rfl) ?_
              refine g_nil ?_
              refine normal_thn ?_
              refine aw_ret ?_
              exact ⟨⟨(rfl : toAV (Al.look _ _) = some _).trans (congrArg some (by (refine congrArg (AV.sl 7) ?_; rw [hjn, List.take_length, ← hcs, List.map_map]; exact List.map_congr_left fun k _ => (avA_eq _).symm))), rfl⟩, trivial⟩
        · skip
          refine g_u (s_extract rfl rfl rfl rfl) ?_
          refine g_nil ?_
          refine normal_thn ?_
          refine aw_seq ?_
          refine aw_cond_true rfl ?_
          refine aw_skip ?_
          refine normal_thn ?_
          refine aw_block ?_
          refine aw_seq ?_
          refine aw_region ?_
          refine g_u (s_entry rfl rfl rfl rfl (Nat.beq_refl _) hk hv) ?_
          refine g_u (s_extract rfl rfl rfl rfl) ?_
          refine g_u (s_as_imm rfl rfl) ?_
          refine g_nil ?_
          refine normal_thn ?_
          refine aw_region ?_
          refine g_u (s_mv_slg rfl rfl) ?_
          refine g_u (s_mv_imm rfl rfl) ?_
          refine g_u (s_buildSlice (X0 := z9) rfl Tryz.underlying78 tS9 tZ9 rfl rfl rfl rfl rfl rfl rfl rfl) ?_
          refine g_u (s_appendR rfl rfl rfl rfl rfl Tryz.underlying78 Tryz.underlying78 tS9 zv9 rfl by9 (by omega) (by omega)) ?_
          refine g_u (s_as_slg rfl rfl) ?_
          refine g_nil ?_
          refine normal_blk ?_
          refine normal_thn ?_
          have hn2 := nodup_snoc h1 hs
          have hl2 : ∀ j ∈ seen ++ [q], j < (mks l).length := fun j hj => by rcases List.mem_append.1 hj with h | h; exact h2 j h; rw [List.mem_singleton.1 h]; exact hq
          have hsl2 := nodup_lt _ _ hn2 hl2
          rw [List.length_append] at hsl2
          refine ⟨seen ++ [q], ⟨hn2, hl2⟩, ⟨rfl, rfl, rfl, look_units rfl (by rw [ksOf_snoc hk, List.length_append]; rfl), look_row rfl (ksOf_snoc hk).symm, rfl, rfl, trivial⟩, by (try dsimp only); rw [List.length_append]; simp only [List.length_cons, List.length_nil] at *; omega⟩

set_option maxHeartbeats 400000 in
theorem pcanonV_st (v : GV) (hw : v.wt ≤ 10000000) (ih : ∀ y ∈ v.list, PCall Tryz.prog Γ0 56 [y.av] [(canonV y).av]) (ihm : PCall Tryz.prog Γ0 38 [.sl 7 (v.map.map avA)] [.sl 7 ((canonAs v.map).map avA)]) : PCall Tryz.prog Γ0 56 [v.av] [(canonV v).av] := by
  have ek := v.wt_eq
  have lv := len_wtVs v.list
  refine pcall_of Tryz.func56 rfl Tryz.ntmps56 (by kernel_rfl) rfl fun w0 I0 G0 => ?_
  refine aw_seq ?_
  refine aw_region ?_
  refine g_uG (s_box_imm 1001 rfl rfl rfl rfl) rfl ?_
  refine g_uG (s_alloc' 1002 rfl rfl rfl tZ48) rfl ?_
  refine g_nil ?_
  refine normal_thn ?_
  refine aw_seq ?_
  refine aw_region ?_
  refine g_u (s_as_imm rfl rfl) ?_
  refine g_nil ?_
  refine normal_thn ?_
  refine aw_newtok 3003 3 6 rfl rfl rfl rfl ?_
  refine aw_seq ?_
  refine aw_seq ?_
  refine aw_region ?_
  refine g_u (s_fieldAddr rfl rfl fa48_4 rfl) ?_
  refine g_u (s_load_imm rfl rfl rfl tA46 tS46 rfl rfl) ?_
  refine g_u (s_lenL rfl rfl Tryz.underlying46) ?_
  refine g_u (s_mv_imm rfl rfl) ?_
  refine g_nil ?_
  refine normal_thn ?_
  refine aw_block ?_
  refine aw_loop' (fun i : Nat => [(1, .ptr 1001 0), (1001, .box 48 (.imm v.av)), (2, .ptr 1002 0), (1002, .box 48 (.imm z48)), (3, .slg 3003 6 ((v.list.take i).map fun x => (canonV x).av)), (3003, .tok 6 ((v.list.take i).map fun x => (canonV x).av)), (7, .imm (.sl 6 (v.list.map avV))), (8, .imm (iv (v.list.length : Int))), (9, .imm (iv (i : Int)))]) (fun i => i ≤ v.list.length) (fun i => v.list.length - i) (0) ?_ ⟨rfl, rfl, rfl, rfl, rfl, rfl, rfl, look_int rfl (by rw [List.length_map]), rfl, trivial⟩ ?_
  · exact Nat.zero_le _
  · rintro i h1; have h1 : i ≤ v.list.length := h1
    refine aw_seq ?_
    refine aw_region ?_
    refine g_u (s_ltI rfl rfl rfl) ?_
    refine g_nil ?_
    refine normal_thn ?_
    refine aw_seq ?_
    refine aw_cond rfl (fun hb1 => ?_) (fun hb1 => ?_)
    · skip
      have hi : i < v.list.length := by have := of_decide_eq_true hb1; (try simp only [List.length_map] at this); omega
      refine aw_skip ?_
      refine normal_thn ?_
      refine aw_seq ?_
      refine aw_block ?_
      refine aw_seq ?_
      refine aw_region ?_
      refine g_u (s_indexAddr rfl rfl rfl Tryz.underlying46 tS48 (by omega) (ixV hi)) ?_
      refine g_u (s_load_cp rfl rfl tA48 tS48 rfl rfl) ?_
      refine g_uG (s_alloc' 1005 rfl rfl rfl tZ48) rfl ?_
      refine g_u (s_store_imm rfl rfl rfl tS48 rfl rfl) ?_
      refine g_nil ?_
      refine normal_thn ?_
      refine aw_region ?_
      refine g_u (s_mv_slg rfl rfl) ?_
      refine g_u (s_load_agg rfl rfl rfl tA48 tS48 rfl rfl) ?_
      refine g_u (s_call1 (ih _ (nthV_mem hi)) rfl rfl) ?_
      refine g_u (s_buildSlice (X0 := z48) rfl Tryz.underlying46 tS48 tZ48 rfl rfl rfl rfl rfl rfl rfl rfl) ?_
      refine g_u (s_append rfl rfl rfl rfl rfl Tryz.underlying46 Tryz.underlying46 tS48 zv48 rfl (by decide) by48 (by (try dsimp only); simp only [List.length_append, List.length_cons, List.length_nil, List.length_map, List.length_take, List.length_drop]; omega) (by (try dsimp only); simp only [List.length_append, List.length_cons, List.length_nil, List.length_map, List.length_take, List.length_drop]; omega)) ?_
      refine g_u (s_as_slg rfl rfl) ?_
      refine g_nil ?_
      refine normal_blk ?_
      refine normal_thn ?_
      refine aw_region ?_
      refine g_u (s_add rfl rfl rfl) ?_
      refine g_u (s_mv_imm rfl rfl) ?_
      refine g_nil ?_
      refine normal_thn ?_
      have et : ((v.list.take (i + 1)).map fun x => (canonV x).av) = ((v.list.take i).map fun x => (canonV x).av) ++ [(canonV (nthV v.list i)).av] := by rw [take_snoc (nth_get (d := v0) hi), List.map_append]; rfl
      refine ⟨i + 1, hi, ⟨rfl, rfl, rfl, rfl, look_slg rfl et.symm, look_tok rfl et.symm, rfl, rfl, look_int rfl (by rw [wrap64 (by omega) (by omega)]; rfl), trivial⟩, by (try dsimp only); omega⟩
    · skip
      have hin : i = v.list.length := by have := of_decide_eq_false hb1; (try simp only [List.length_map] at this); omega
      refine aw_exit ?_
      refine exit_thn ?_
      refine exit_thn ?_
      refine exit_blk ?_
      refine normal_thn ?_
      refine aw_seq ?_
      refine aw_region ?_
      refine g_u (s_mv_slg rfl rfl) ?_
      refine g_u (s_fieldAddr rfl rfl fa48_5 rfl) ?_
      refine g_u (s_load_imm rfl rfl rfl tA27 tS27 rfl rfl) ?_
      refine g_u (s_call1 (ihm) rfl rfl) ?_
      refine g_u (s_fieldAddr rfl rfl fa48_4 rfl) ?_
      refine g_u (s_store rfl rfl rfl rfl tS46 rfl rfl) ?_
      refine g_u (s_fieldAddr rfl rfl fa48_5 rfl) ?_
      refine g_u (s_store_imm rfl rfl rfl tS27 rfl rfl) ?_
      refine g_nil ?_
      refine normal_thn ?_
      refine aw_seq ?_
      refine aw_region ?_
      refine g_u (s_load_agg rfl rfl rfl tA48 tS48 rfl rfl) ?_
      refine g_u (s_store_imm rfl rfl rfl tS48 rfl rfl) ?_
      refine g_nil ?_
      refine normal_thn ?_
      refine aw_ret ?_
      exact ⟨⟨_, _, _, _, _, _, _, rfl, rfl, tA48, tS48, rfl, rfl, (rfl : toAV _ = some _).trans (congrArg some (by (rw [canonV_eq, hin, List.take_length]; show AV.agg _ = AV.agg [_, _, _, _, .sl 6 ((v.list.map canonV).map avV), _]; rw [List.map_map, show avV ∘ canonV = fun x => (canonV x).av from funext fun x => avV_eq _]; rfl)))⟩, trivial⟩

theorem pcanonV_c (v : GV) : v.wt ≤ 10000000 → PCall Tryz.prog Γ0 56 [v.av] [(canonV v).av] := by
  refine GV.ind (P := fun v => v.wt ≤ 10000000 → PCall Tryz.prog Γ0 56 [v.av] [(canonV v).av]) ?_ v
  intro v h1 h2 hw
  have ek := v.wt_eq
  have la := len_wtAs v.map
  exact pcanonV_st v hw (fun y hy => h1 y hy (by have := wtVs_mem hy; omega)) (pcanonAs_st v.map (by omega) fun a ha => h2 a ha (by have := wtAs_mem ha; have := a.wt_eq; omega))
theorem pcanonAs_c (l : List GA) (hw : wtAs l ≤ 10000000) : PCall Tryz.prog Γ0 38 [.sl 7 (l.map avA)] [.sl 7 ((canonAs l).map avA)] := by
  have la := len_wtAs l
  exact pcanonAs_st l (by omega) fun a ha => pcanonV_c a.val (by have := wtAs_mem ha; have := a.wt_eq; omega)

end Go.Proofs

namespace Go.Proofs
open Go Go.Al
set_option maxRecDepth 10000


end Go.Proofs

namespace Go.Proofs
open Go Go.Al

/-! ### What may be is its own form -/
/-! ### Lists within one another -/
end Go.Proofs

namespace Go.Proofs
open Go Go.Al
set_option maxRecDepth 10000

end Go.Proofs

namespace Go.Proofs
open Go Go.Al

/-! ### Whether spans may be -/
def firstC : List Int → Int
  | [] => 0
  | c :: cs => orC c (firstC cs)
abbrev FN := FuncId × List AV × List AV × Int
def fnA (x : FN) : AV := .fn (.func x.1) x.2.1 x.2.2.1
def fnd : FN := (0, [], [], 0)
def fcodes (l : List FN) : List Int := l.map fun x => x.2.2.2
theorem firstC_drop {l : List FN} {i : Nat} (h : i < l.length) : firstC (fcodes (l.drop i)) = orC (nth l i fnd).2.2.2 (firstC (fcodes (l.drop (i + 1)))) := by
  rw [drop_nth (d := fnd) h]; rfl
theorem evC_drop {l : List GE} {i : Nat} (h : i < l.length) : evC (l.drop i) = if 9223372036854775807 < (nthE l i).time then 11 else orC (orC (nameC (nthE l i).name) (attrsC (nthE l i).attrs)) (evC (l.drop (i + 1))) := by
  rw [drop_nth (d := ge0) h, evC]; rfl
theorem lkC_drop {l : List GL} {i : Nat} (h : i < l.length) : lkC (l.drop i) = if zeros (nthL l i).trace || zeros (nthL l i).span then 10 else orC (orC (nameC (nthL l i).state) (attrsC (nthL l i).attrs)) (lkC (l.drop (i + 1))) := by
  rw [drop_nth (d := gl0) h, lkC]; rfl
theorem zeros_beq : ∀ {n : Nat} {l : Bs}, l.length = n → (l == List.replicate n 0) = zeros l
  | 0, [], _ => rfl
  | n + 1, x :: l, h => by
    have ih := zeros_beq (n := n) (l := l) (by simpa using h)
    rw [List.replicate_succ, List.cons_beq_cons, ih]; rfl
/-- Whether a span may be, or what is wrong with it first. -/
def spanOk (s : GSpan) : Int :=
  firstC [if zeros s.trace || zeros s.id then 10 else 0, nameC s.state, nameC s.name, if s.kind < 0 ∨ 5 < s.kind then 7 else 0, rgCheckM ⟨s.start, s.fin⟩, attrsC s.attrs, evsC s.events, lksC s.links, if s.code < 0 ∨ 2 < s.code then 7 else 0, nameC s.note]
/-! ### The spans of law 27 -/
def gS27 : GSpan := ⟨1 :: List.replicate 15 0, 2 :: List.replicate 7 0, List.replicate 8 0, ⟨#[]⟩, ⟨#[103, 101, 116]⟩, 3, 5, 7, [.mk ⟨#[97]⟩ zeroV], [⟨6, ⟨#[101]⟩, []⟩], [⟨3 :: List.replicate 15 0, 4 :: List.replicate 7 0, ⟨#[]⟩, []⟩], 1, ⟨#[]⟩⟩
def gZ27 : GSpan := { gS27 with id := List.replicate 8 0 }
def gK27 : GSpan := { gS27 with kind := 6 }
def gW27 : GSpan := { gS27 with attrs := [.mk ⟨#[98]⟩ zeroV, .mk ⟨#[97]⟩ zeroV] }
def gC27 : GSpan := { gS27 with attrs := [.mk ⟨#[97]⟩ zeroV, .mk ⟨#[98]⟩ zeroV] }
theorem w27_canon : canonS gW27 = gC27 := by rfl
theorem n27 : ¬ gS27 = gW27 := fun h => by
  have := congrArg (fun s => s.attrs.length) h
  exact absurd this (by decide)
end Go.Proofs

namespace Go.Al

/-! ### A labelled stretch that nobody jumps back into -/
def scp (Q : Exit → St → Prop) : Exit → St → Prop
  | .goto _, _ => False
  | e, st => Q e st
theorem ret_scp {st : St} {Q : Exit → St → Prop} (h : Q .ret st) : scp Q .ret st := h
theorem aw_scope {C : Cx} {c : Code} {st : St} {Q : Exit → St → Prop} (h : AW C c st (scp Q)) : AW C (.scope c) st Q := by
  intro a w S
  refine wp_scope_straight (wp_mono (h a w S) ?_)
  rintro e a' w' ⟨st', q, S'⟩
  cases e with
  | goto l => exact q.elim
  | normal => exact ⟨st', q, S'⟩
  | exit id => exact ⟨st', q, S'⟩
  | ret => exact ⟨st', q, S'⟩
  | panic c => exact ⟨st', q, S'⟩
  | outgrown => exact ⟨st', q, S'⟩
theorem aw_label {C : Cx} {l : Nat} {st : St} {Q : Exit → St → Prop} (h : Q .normal st) : AW C (.label l) st Q := fun _ _ S => wp_label ⟨st, h, S⟩
end Go.Al

namespace Go.Proofs
open Go Go.Al
set_option maxRecDepth 10000
set_option maxHeartbeats 4000000 in
theorem eqdE_c (a b : List GE) (fn : FuncId) (hl : a.length ≤ 1000000000) (hf : ∀ x ∈ a, ∀ y : GE, PCall Tryz.prog Γ0 fn ([] ++ [x.av, y.av] ++ []) [bv (decide (x = y))]) : PCall Tryz.prog Γ0 40 [(.sl 3 (a.map GE.av)), (.sl 3 (b.map GE.av)), .fn (.func fn) [] []] [bv (decide (a = b))] := by
  refine pcall_of Tryz.func40 rfl Tryz.ntmps40 (by kernel_rfl) rfl fun w0 I0 G0 => ?_
  refine aw_seq ?_
  refine aw_region ?_
  refine g_u (s_as_imm rfl rfl) ?_
  refine g_nil ?_
  refine normal_thn ?_
  refine aw_seq ?_
  refine aw_seq ?_
  refine aw_region ?_
  refine g_u (s_mv_imm rfl rfl) ?_
  refine g_u (s_lenL rfl rfl Tryz.underlying28) ?_
  refine g_u (s_mv_imm rfl rfl) ?_
  refine g_u (s_lenL rfl rfl Tryz.underlying28) ?_
  refine g_u (s_neI rfl rfl rfl) ?_
  refine g_nil ?_
  refine normal_thn ?_
  refine aw_cond rfl (fun hb1 => ?_) (fun hb1 => ?_)
  · skip
    have q : ¬ a.length = b.length := by have e := bne_iff_ne.1 hb1; simp only [List.length_map] at e; omega
    refine aw_seq ?_
    refine aw_region ?_
    refine g_u (s_as_imm rfl rfl) ?_
    refine g_nil ?_
    refine normal_thn ?_
    refine aw_ret ?_
    refine ret_thn ?_
    exact ⟨⟨(rfl : toAV (Al.look _ _) = some _).trans (congrArg some (by (exact congrArg bv (by first | exact (decide_eq_false (fun e => q (by rw [e]))).symm | exact (decide_eq_true (ext_nth ge0 el (fun j hj => h2 j (by omega)))).symm)))), rfl⟩, trivial⟩
  · skip
    have el : a.length = b.length := by have e := bne_eq_false_iff_eq.1 hb1; simp only [List.length_map] at e; omega
    refine aw_skip ?_
    refine normal_thn ?_
    refine aw_seq ?_
    refine aw_seq ?_
    refine aw_region ?_
    refine g_u (s_mv_imm rfl rfl) ?_
    refine g_u (s_lenL rfl rfl Tryz.underlying28) ?_
    refine g_u (s_mv_imm rfl rfl) ?_
    refine g_nil ?_
    refine normal_thn ?_
    refine aw_block ?_
    refine aw_loop' (fun i : Nat => [(1, .imm (.sl 3 (b.map GE.av))), (2, .imm (.fn (.func fn) [] [])), (15, .imm (.sl 3 (a.map GE.av))), (16, .imm (iv (a.length : Int))), (17, .imm (iv (i : Int)))]) (fun i => i ≤ a.length ∧ ∀ j, j < i → nth a j ge0 = nth b j ge0) (fun i => a.length - i) (0) ?_ ⟨rfl, rfl, rfl, look_int rfl (by rw [List.length_map]), rfl, trivial⟩ ?_
    · exact ⟨Nat.zero_le _, fun j h => absurd h (Nat.not_lt_zero _)⟩
    · rintro i ⟨h1, h2⟩; (try dsimp only at h1 h2)
      refine aw_seq ?_
      refine aw_region ?_
      refine g_u (s_ltI rfl rfl rfl) ?_
      refine g_nil ?_
      refine normal_thn ?_
      refine aw_seq ?_
      refine aw_cond rfl (fun hb2 => ?_) (fun hb2 => ?_)
      · skip
        have hi : i < a.length := by have := of_decide_eq_true hb2; (try simp only [List.length_map] at this); omega
        have hib : i < b.length := by omega
        refine aw_skip ?_
        refine normal_thn ?_
        refine aw_seq ?_
        refine aw_block ?_
        refine aw_seq ?_
        refine aw_region ?_
        refine g_u (s_mv_imm rfl rfl) ?_
        refine g_u (s_indexAddr rfl rfl rfl Tryz.underlying28 tS42 (by omega) (ixE hi)) ?_
        refine g_u (s_load_cp rfl rfl tA42 tS42 rfl rfl) ?_
        refine g_uG (s_alloc' 1008 rfl rfl rfl tZ42) rfl ?_
        refine g_u (s_as_imm rfl rfl) ?_
        refine g_u (s_store_imm rfl rfl rfl tS42 rfl rfl) ?_
        refine g_nil ?_
        refine normal_thn ?_
        refine aw_seq ?_
        refine aw_region ?_
        refine g_u (s_mv_imm rfl rfl) ?_
        refine g_u (s_mv_imm rfl rfl) ?_
        refine g_u (s_indexAddr rfl rfl rfl Tryz.underlying28 tS42 (by omega) (ixE hib)) ?_
        refine g_u (s_load_cp rfl rfl tA42 tS42 rfl rfl) ?_
        refine g_uG (s_alloc' 1009 rfl rfl rfl tZ42) rfl ?_
        refine g_u (s_store_imm rfl rfl rfl tS42 rfl rfl) ?_
        refine g_nil ?_
        refine normal_thn ?_
        refine aw_seq ?_
        refine aw_region ?_
        refine g_u (s_mv_imm rfl rfl) ?_
        refine g_u (s_load_agg rfl rfl rfl tA42 tS42 rfl rfl) ?_
        refine g_u (s_load_agg rfl rfl rfl tA42 tS42 rfl rfl) ?_
        refine g_u (s_callv1 (hf _ (nthE_mem hi) _) rfl rfl rfl) ?_
        refine g_u (s_not rfl rfl) ?_
        refine g_nil ?_
        refine normal_thn ?_
        refine aw_cond rfl (fun hb3 => ?_) (fun hb3 => ?_)
        · skip
          have q : ¬ nthE a i = nthE b i := fun h => by have e := hb3; rw [decide_eq_true h] at e; cases e
          refine aw_seq ?_
          refine aw_region ?_
          refine g_u (s_as_imm rfl rfl) ?_
          refine g_nil ?_
          refine normal_thn ?_
          refine aw_ret ?_
          refine ret_blk ?_
          refine ret_thn ?_
          refine ret_thn ?_
          refine ret_blk ?_
          refine ret_thn ?_
          exact ⟨⟨(rfl : toAV (Al.look _ _) = some _).trans (congrArg some (by (exact congrArg bv (by first | exact (decide_eq_false (fun e => q (by rw [e]))).symm | exact (decide_eq_true (ext_nth ge0 el (fun j hj => h2 j (by omega)))).symm)))), rfl⟩, trivial⟩
        · skip
          have ev : nthE a i = nthE b i := by have e := hb3; simpa using e
          refine aw_skip ?_
          refine normal_blk ?_
          refine normal_thn ?_
          refine aw_region ?_
          refine g_u (s_add rfl rfl rfl) ?_
          refine g_u (s_mv_imm rfl rfl) ?_
          refine g_nil ?_
          refine normal_thn ?_
          refine ⟨i + 1, ⟨hi, fun j hj => by rcases Nat.lt_or_ge j i with h | h; exact h2 j h; rw [show j = i by omega]; exact ev⟩, ⟨rfl, rfl, rfl, rfl, look_int rfl (by rw [wrap64 (by omega) (by omega)]; rfl), trivial⟩, by (try dsimp only); omega⟩
      · skip
        have hin : i = a.length := by have := of_decide_eq_false hb2; (try simp only [List.length_map] at this); omega
        refine aw_exit ?_
        refine exit_thn ?_
        refine exit_thn ?_
        refine exit_blk ?_
        refine normal_thn ?_
        refine aw_seq ?_
        refine aw_region ?_
        refine g_u (s_as_imm rfl rfl) ?_
        refine g_nil ?_
        refine normal_thn ?_
        refine aw_ret ?_
        exact ⟨⟨(rfl : toAV (Al.look _ _) = some _).trans (congrArg some (by (exact congrArg bv (by first | exact (decide_eq_false (fun e => q (by rw [e]))).symm | exact (decide_eq_true (ext_nth ge0 el (fun j hj => h2 j (by omega)))).symm)))), rfl⟩, trivial⟩

set_option maxHeartbeats 4000000 in
theorem eqdL_c (a b : List GL) (fn : FuncId) (hl : a.length ≤ 1000000000) (hf : ∀ x ∈ a, ∀ y : GL, PCall Tryz.prog Γ0 fn ([] ++ [x.av, y.av] ++ []) [bv (decide (x = y))]) : PCall Tryz.prog Γ0 42 [(.sl 26 (a.map GL.av)), (.sl 26 (b.map GL.av)), .fn (.func fn) [] []] [bv (decide (a = b))] := by
  refine pcall_of Tryz.func42 rfl Tryz.ntmps42 (by kernel_rfl) rfl fun w0 I0 G0 => ?_
  refine aw_seq ?_
  refine aw_region ?_
  refine g_u (s_as_imm rfl rfl) ?_
  refine g_nil ?_
  refine normal_thn ?_
  refine aw_seq ?_
  refine aw_seq ?_
  refine aw_region ?_
  refine g_u (s_mv_imm rfl rfl) ?_
  refine g_u (s_lenL rfl rfl Tryz.underlying29) ?_
  refine g_u (s_mv_imm rfl rfl) ?_
  refine g_u (s_lenL rfl rfl Tryz.underlying29) ?_
  refine g_u (s_neI rfl rfl rfl) ?_
  refine g_nil ?_
  refine normal_thn ?_
  refine aw_cond rfl (fun hb1 => ?_) (fun hb1 => ?_)
  · skip
    have q : ¬ a.length = b.length := by have e := bne_iff_ne.1 hb1; simp only [List.length_map] at e; omega
    refine aw_seq ?_
    refine aw_region ?_
    refine g_u (s_as_imm rfl rfl) ?_
    refine g_nil ?_
    refine normal_thn ?_
    refine aw_ret ?_
    refine ret_thn ?_
    exact ⟨⟨(rfl : toAV (Al.look _ _) = some _).trans (congrArg some (by (exact congrArg bv (by first | exact (decide_eq_false (fun e => q (by rw [e]))).symm | exact (decide_eq_true (ext_nth gl0 el (fun j hj => h2 j (by omega)))).symm)))), rfl⟩, trivial⟩
  · skip
    have el : a.length = b.length := by have e := bne_eq_false_iff_eq.1 hb1; simp only [List.length_map] at e; omega
    refine aw_skip ?_
    refine normal_thn ?_
    refine aw_seq ?_
    refine aw_seq ?_
    refine aw_region ?_
    refine g_u (s_mv_imm rfl rfl) ?_
    refine g_u (s_lenL rfl rfl Tryz.underlying29) ?_
    refine g_u (s_mv_imm rfl rfl) ?_
    refine g_nil ?_
    refine normal_thn ?_
    refine aw_block ?_
    refine aw_loop' (fun i : Nat => [(1, .imm (.sl 26 (b.map GL.av))), (2, .imm (.fn (.func fn) [] [])), (15, .imm (.sl 26 (a.map GL.av))), (16, .imm (iv (a.length : Int))), (17, .imm (iv (i : Int)))]) (fun i => i ≤ a.length ∧ ∀ j, j < i → nth a j gl0 = nth b j gl0) (fun i => a.length - i) (0) ?_ ⟨rfl, rfl, rfl, look_int rfl (by rw [List.length_map]), rfl, trivial⟩ ?_
    · exact ⟨Nat.zero_le _, fun j h => absurd h (Nat.not_lt_zero _)⟩
    · rintro i ⟨h1, h2⟩; (try dsimp only at h1 h2)
      refine aw_seq ?_
      refine aw_region ?_
      refine g_u (s_ltI rfl rfl rfl) ?_
      refine g_nil ?_
      refine normal_thn ?_
      refine aw_seq ?_
      refine aw_cond rfl (fun hb2 => ?_) (fun hb2 => ?_)
      · skip
        have hi : i < a.length := by have := of_decide_eq_true hb2; (try simp only [List.length_map] at this); omega
        have hib : i < b.length := by omega
        refine aw_skip ?_
        refine normal_thn ?_
        refine aw_seq ?_
        refine aw_block ?_
        refine aw_seq ?_
        refine aw_region ?_
        refine g_u (s_mv_imm rfl rfl) ?_
        refine g_u (s_indexAddr rfl rfl rfl Tryz.underlying29 tS44 (by omega) (ixL hi)) ?_
        refine g_u (s_load_cp rfl rfl tA44 tS44 rfl (by first | exact getS_w (GL.width _) rfl | rfl)) ?_
        refine g_uG (s_alloc' 1008 rfl rfl rfl tZ44) rfl ?_
        refine g_u (s_as_imm rfl rfl) ?_
        refine g_u (s_store_imm rfl rfl rfl tS44 (by first | exact beqW (GL.width _) | rfl) (by first | exact setS_w (z44_w.trans (GL.width _).symm) rfl | rfl)) ?_
        refine g_nil ?_
        refine normal_thn ?_
        refine aw_seq ?_
        refine aw_region ?_
        refine g_u (s_mv_imm rfl rfl) ?_
        refine g_u (s_mv_imm rfl rfl) ?_
        refine g_u (s_indexAddr rfl rfl rfl Tryz.underlying29 tS44 (by omega) (ixL hib)) ?_
        refine g_u (s_load_cp rfl rfl tA44 tS44 rfl (by first | exact getS_w (GL.width _) rfl | rfl)) ?_
        refine g_uG (s_alloc' 1009 rfl rfl rfl tZ44) rfl ?_
        refine g_u (s_store_imm rfl rfl rfl tS44 (by first | exact beqW (GL.width _) | rfl) (by first | exact setS_w (z44_w.trans (GL.width _).symm) rfl | rfl)) ?_
        refine g_nil ?_
        refine normal_thn ?_
        refine aw_seq ?_
        refine aw_region ?_
        refine g_u (s_mv_imm rfl rfl) ?_
        refine g_u (s_load_imm rfl rfl rfl tA44 tS44 rfl (by first | exact getS_w (GL.width _) rfl | rfl)) ?_
        refine g_u (s_load_imm rfl rfl rfl tA44 tS44 rfl (by first | exact getS_w (GL.width _) rfl | rfl)) ?_
        refine g_u (s_callv1 (hf _ (nthL_mem hi) _) rfl rfl rfl) ?_
        refine g_u (s_not rfl rfl) ?_
        refine g_nil ?_
        refine normal_thn ?_
        refine aw_cond rfl (fun hb3 => ?_) (fun hb3 => ?_)
        · skip
          have q : ¬ nthL a i = nthL b i := fun h => by have e := hb3; rw [decide_eq_true h] at e; cases e
          refine aw_seq ?_
          refine aw_region ?_
          refine g_u (s_as_imm rfl rfl) ?_
          refine g_nil ?_
          refine normal_thn ?_
          refine aw_ret ?_
          refine ret_blk ?_
          refine ret_thn ?_
          refine ret_thn ?_
          refine ret_blk ?_
          refine ret_thn ?_
          exact ⟨⟨(rfl : toAV (Al.look _ _) = some _).trans (congrArg some (by (exact congrArg bv (by first | exact (decide_eq_false (fun e => q (by rw [e]))).symm | exact (decide_eq_true (ext_nth gl0 el (fun j hj => h2 j (by omega)))).symm)))), rfl⟩, trivial⟩
        · skip
          have ev : nthL a i = nthL b i := by have e := hb3; simpa using e
          refine aw_skip ?_
          refine normal_blk ?_
          refine normal_thn ?_
          refine aw_region ?_
          refine g_u (s_add rfl rfl rfl) ?_
          refine g_u (s_mv_imm rfl rfl) ?_
          refine g_nil ?_
          refine normal_thn ?_
          refine ⟨i + 1, ⟨hi, fun j hj => by rcases Nat.lt_or_ge j i with h | h; exact h2 j h; rw [show j = i by omega]; exact ev⟩, ⟨rfl, rfl, rfl, rfl, look_int rfl (by rw [wrap64 (by omega) (by omega)]; rfl), trivial⟩, by (try dsimp only); omega⟩
      · skip
        have hin : i = a.length := by have := of_decide_eq_false hb2; (try simp only [List.length_map] at this); omega
        refine aw_exit ?_
        refine exit_thn ?_
        refine exit_thn ?_
        refine exit_blk ?_
        refine normal_thn ?_
        refine aw_seq ?_
        refine aw_region ?_
        refine g_u (s_as_imm rfl rfl) ?_
        refine g_nil ?_
        refine normal_thn ?_
        refine aw_ret ?_
        exact ⟨⟨(rfl : toAV (Al.look _ _) = some _).trans (congrArg some (by (exact congrArg bv (by first | exact (decide_eq_false (fun e => q (by rw [e]))).symm | exact (decide_eq_true (ext_nth gl0 el (fun j hj => h2 j (by omega)))).symm)))), rfl⟩, trivial⟩

set_option maxHeartbeats 400000 in
theorem sameE_c (a b : GE) (hw : wtAs a.attrs ≤ 1000000000) : PCall Tryz.prog Γ0 41 [a.av, b.av] [bv (decide (a = b))] := by
  refine pcall_of Tryz.func41 rfl Tryz.ntmps41 (by kernel_rfl) rfl fun w0 I0 G0 => ?_
  refine aw_seq ?_
  refine aw_region ?_
  refine g_uG (s_box_imm 1002 rfl rfl rfl rfl) rfl ?_
  refine g_uG (s_box_imm 1003 rfl rfl rfl rfl) rfl ?_
  refine g_u (s_as_imm rfl rfl) ?_
  refine g_nil ?_
  refine normal_thn ?_
  refine aw_seq ?_
  refine aw_region ?_
  refine g_u (s_fieldAddr rfl rfl fa42_0 rfl) ?_
  refine g_u (s_load_imm rfl rfl rfl tA26 tS26 rfl rfl) ?_
  refine g_u (s_fieldAddr rfl rfl fa42_0 rfl) ?_
  refine g_u (s_load_imm rfl rfl rfl tA26 tS26 rfl rfl) ?_
  refine g_u (s_eqI rfl rfl rfl) ?_
  refine g_u (s_mv_imm rfl rfl) ?_
  refine g_case (t := 10) rfl ?_
  rintro (hb1 | hb1)
  · rw [hb1]
    have f1 : a.time = b.time := beq_iff_eq.1 hb1
    refine g_run rfl rfl (s_fieldAddr rfl rfl fa42_1 rfl) ?_
    refine g_run rfl rfl (s_load_imm rfl rfl rfl tA9 tS9 rfl rfl) ?_
    refine g_run rfl rfl (s_fieldAddr rfl rfl fa42_1 rfl) ?_
    refine g_run rfl rfl (s_load_imm rfl rfl rfl tA9 tS9 rfl rfl) ?_
    refine g_run rfl rfl (s_eqS rfl rfl rfl) ?_
    refine g_u (s_pick_t rfl rfl rfl) ?_
    refine g_u (s_mv_imm rfl rfl) ?_
    refine g_case (t := 17) rfl ?_
    rintro (hb2 | hb2)
    · rw [hb2]
      have f2 : a.name = b.name := by have e := hb2; rw [str_beq] at e; simpa using e
      refine g_run rfl rfl (s_fieldAddr rfl rfl fa42_2 rfl) ?_
      refine g_run rfl rfl (s_load_imm rfl rfl rfl tA27 tS27 rfl rfl) ?_
      refine g_run rfl rfl (s_fieldAddr rfl rfl fa42_2 rfl) ?_
      refine g_run rfl rfl (s_load_imm rfl rfl rfl tA27 tS27 rfl rfl) ?_
      refine g_run rfl rfl (s_call1 (psameAs_c _ _ (by omega)) rfl rfl) ?_
      refine g_u (s_pick_t rfl rfl rfl) ?_
      refine g_u (s_as_imm rfl rfl) ?_
      refine g_nil ?_
      refine normal_thn ?_
      refine aw_ret ?_
      exact ⟨⟨(rfl : toAV (Al.look _ _) = some _).trans (congrArg some (by (exact congrArg bv (by first | exact (decide_eq_false (fun e => q (by rw [e]))).symm | (rw [Bool.eq_iff_iff, sameAs_iff, decide_eq_true_iff]; exact ⟨fun h => GE.ext' f1 f2 h, fun h => by rw [h]⟩))))), rfl⟩, trivial⟩
    · rw [hb2]
      have q : ¬ a.name = b.name := by have e := hb2; rw [str_beq] at e; simpa using e
      refine g_skip rfl rfl rfl ?_
      refine g_skip rfl rfl rfl ?_
      refine g_skip rfl rfl rfl ?_
      refine g_skip rfl rfl rfl ?_
      refine g_skip rfl rfl rfl ?_
      refine g_u (s_pick_f rfl rfl rfl) ?_
      refine g_u (s_as_imm rfl rfl) ?_
      refine g_nil ?_
      refine normal_thn ?_
      refine aw_ret ?_
      exact ⟨⟨(rfl : toAV (Al.look _ _) = some _).trans (congrArg some (by (exact congrArg bv (by first | exact (decide_eq_false (fun e => q (by rw [e]))).symm | (rw [Bool.eq_iff_iff, sameAs_iff, decide_eq_true_iff]; exact ⟨fun h => GE.ext' f1 f2 h, fun h => by rw [h]⟩))))), rfl⟩, trivial⟩
  · rw [hb1]
    have q : ¬ a.time = b.time := beq_eq_false_iff_ne.1 hb1
    refine g_skip rfl rfl rfl ?_
    refine g_skip rfl rfl rfl ?_
    refine g_skip rfl rfl rfl ?_
    refine g_skip rfl rfl rfl ?_
    refine g_skip rfl rfl rfl ?_
    refine g_u (s_pick_f rfl rfl rfl) ?_
    refine g_u (s_mv_imm rfl rfl) ?_
    refine g_skip rfl rfl rfl ?_
    refine g_skip rfl rfl rfl ?_
    refine g_skip rfl rfl rfl ?_
    refine g_skip rfl rfl rfl ?_
    refine g_skip rfl rfl rfl ?_
    refine g_u (s_pick_f rfl rfl rfl) ?_
    refine g_u (s_as_imm rfl rfl) ?_
    refine g_nil ?_
    refine normal_thn ?_
    refine aw_ret ?_
    exact ⟨⟨(rfl : toAV (Al.look _ _) = some _).trans (congrArg some (by (exact congrArg bv (by first | exact (decide_eq_false (fun e => q (by rw [e]))).symm | (rw [Bool.eq_iff_iff, sameAs_iff, decide_eq_true_iff]; exact ⟨fun h => GE.ext' f1 f2 h, fun h => by rw [h]⟩))))), rfl⟩, trivial⟩

set_option maxHeartbeats 1000000 in
theorem sameL_c (a b : GL) (hw : wtAs a.attrs ≤ 1000000000) : PCall Tryz.prog Γ0 43 [a.av, b.av] [bv (decide (a = b))] := by
  refine pcall_of Tryz.func43 rfl Tryz.ntmps43 (by kernel_rfl) rfl fun w0 I0 G0 => ?_
  refine aw_seq ?_
  refine aw_region ?_
  refine g_uG (s_box_imm 1002 rfl rfl rfl rfl) rfl ?_
  refine g_uG (s_box_imm 1003 rfl rfl rfl rfl) rfl ?_
  refine g_u (s_as_imm rfl rfl) ?_
  refine g_nil ?_
  refine normal_thn ?_
  refine aw_seq ?_
  refine aw_region ?_
  refine g_u (s_fieldAddr rfl rfl fa44_0 rfl) ?_
  refine g_u (s_load_imm rfl rfl rfl tA23 tS23 rfl rfl) ?_
  refine g_u (s_fieldAddr rfl rfl fa44_0 rfl) ?_
  refine g_u (s_load_imm rfl rfl rfl tA23 tS23 rfl rfl) ?_
  refine g_u (s_eqA rfl rfl rfl eg23 rfl rfl (eq23 _ _)) ?_
  refine g_u (s_mv_imm rfl rfl) ?_
  refine g_case (t := 10) rfl ?_
  rintro (hb1 | hb1)
  · rw [hb1]
    have g1 : a.trace = b.trace := by have e := hb1; simpa using e
    refine g_run rfl rfl (s_fieldAddr rfl rfl fa44_1 rfl) ?_
    refine g_run rfl rfl (s_load_imm rfl rfl rfl tA25 tS25 rfl rfl) ?_
    refine g_run rfl rfl (s_fieldAddr rfl rfl fa44_1 rfl) ?_
    refine g_run rfl rfl (s_load_imm rfl rfl rfl tA25 tS25 rfl rfl) ?_
    refine g_run rfl rfl (s_eqA rfl rfl rfl eg25 rfl rfl (eq25 _ _)) ?_
    refine g_u (s_pick_t rfl rfl rfl) ?_
    refine g_u (s_mv_imm rfl rfl) ?_
    refine g_case (t := 17) rfl ?_
    rintro (hb2 | hb2)
    · rw [hb2]
      have g2 : a.span = b.span := by have e := hb2; simpa using e
      refine g_run rfl rfl (s_fieldAddr rfl rfl fa44_2 rfl) ?_
      refine g_run rfl rfl (s_load_imm rfl rfl rfl tA9 tS9 rfl rfl) ?_
      refine g_run rfl rfl (s_fieldAddr rfl rfl fa44_2 rfl) ?_
      refine g_run rfl rfl (s_load_imm rfl rfl rfl tA9 tS9 rfl rfl) ?_
      refine g_run rfl rfl (s_eqS rfl rfl rfl) ?_
      refine g_u (s_pick_t rfl rfl rfl) ?_
      refine g_u (s_mv_imm rfl rfl) ?_
      refine g_case (t := 24) rfl ?_
      rintro (hb3 | hb3)
      · rw [hb3]
        have g3 : a.state = b.state := by have e := hb3; rw [str_beq] at e; simpa using e
        refine g_run rfl rfl (s_fieldAddr rfl rfl fa44_3 rfl) ?_
        refine g_run rfl rfl (s_load_imm rfl rfl rfl tA27 tS27 rfl rfl) ?_
        refine g_run rfl rfl (s_fieldAddr rfl rfl fa44_3 rfl) ?_
        refine g_run rfl rfl (s_load_imm rfl rfl rfl tA27 tS27 rfl rfl) ?_
        refine g_run rfl rfl (s_call1 (psameAs_c _ _ (by omega)) rfl rfl) ?_
        refine g_u (s_pick_t rfl rfl rfl) ?_
        refine g_u (s_as_imm rfl rfl) ?_
        refine g_nil ?_
        refine normal_thn ?_
        refine aw_ret ?_
        exact ⟨⟨(rfl : toAV (Al.look _ _) = some _).trans (congrArg some (by (exact congrArg bv (by first | exact (decide_eq_false (fun e => q (by rw [e]))).symm | (rw [Bool.eq_iff_iff, sameAs_iff, decide_eq_true_iff]; exact ⟨fun h => GL.ext' g1 g2 g3 h, fun h => by rw [h]⟩))))), rfl⟩, trivial⟩
      · rw [hb3]
        have q : ¬ a.state = b.state := by have e := hb3; rw [str_beq] at e; simpa using e
        refine g_skip rfl rfl rfl ?_
        refine g_skip rfl rfl rfl ?_
        refine g_skip rfl rfl rfl ?_
        refine g_skip rfl rfl rfl ?_
        refine g_skip rfl rfl rfl ?_
        refine g_u (s_pick_f rfl rfl rfl) ?_
        refine g_u (s_as_imm rfl rfl) ?_
        refine g_nil ?_
        refine normal_thn ?_
        refine aw_ret ?_
        exact ⟨⟨(rfl : toAV (Al.look _ _) = some _).trans (congrArg some (by (exact congrArg bv (by first | exact (decide_eq_false (fun e => q (by rw [e]))).symm | (rw [Bool.eq_iff_iff, sameAs_iff, decide_eq_true_iff]; exact ⟨fun h => GL.ext' g1 g2 g3 h, fun h => by rw [h]⟩))))), rfl⟩, trivial⟩
    · rw [hb2]
      have q : ¬ a.span = b.span := by have e := hb2; simpa using e
      refine g_skip rfl rfl rfl ?_
      refine g_skip rfl rfl rfl ?_
      refine g_skip rfl rfl rfl ?_
      refine g_skip rfl rfl rfl ?_
      refine g_skip rfl rfl rfl ?_
      refine g_u (s_pick_f rfl rfl rfl) ?_
      refine g_u (s_mv_imm rfl rfl) ?_
      refine g_skip rfl rfl rfl ?_
      refine g_skip rfl rfl rfl ?_
      refine g_skip rfl rfl rfl ?_
      refine g_skip rfl rfl rfl ?_
      refine g_skip rfl rfl rfl ?_
      refine g_u (s_pick_f rfl rfl rfl) ?_
      refine g_u (s_as_imm rfl rfl) ?_
      refine g_nil ?_
      refine normal_thn ?_
      refine aw_ret ?_
      exact ⟨⟨(rfl : toAV (Al.look _ _) = some _).trans (congrArg some (by (exact congrArg bv (by first | exact (decide_eq_false (fun e => q (by rw [e]))).symm | (rw [Bool.eq_iff_iff, sameAs_iff, decide_eq_true_iff]; exact ⟨fun h => GL.ext' g1 g2 g3 h, fun h => by rw [h]⟩))))), rfl⟩, trivial⟩
  · rw [hb1]
    have q : ¬ a.trace = b.trace := by have e := hb1; simpa using e
    refine g_skip rfl rfl rfl ?_
    refine g_skip rfl rfl rfl ?_
    refine g_skip rfl rfl rfl ?_
    refine g_skip rfl rfl rfl ?_
    refine g_skip rfl rfl rfl ?_
    refine g_u (s_pick_f rfl rfl rfl) ?_
    refine g_u (s_mv_imm rfl rfl) ?_
    refine g_skip rfl rfl rfl ?_
    refine g_skip rfl rfl rfl ?_
    refine g_skip rfl rfl rfl ?_
    refine g_skip rfl rfl rfl ?_
    refine g_skip rfl rfl rfl ?_
    refine g_u (s_pick_f rfl rfl rfl) ?_
    refine g_u (s_mv_imm rfl rfl) ?_
    refine g_skip rfl rfl rfl ?_
    refine g_skip rfl rfl rfl ?_
    refine g_skip rfl rfl rfl ?_
    refine g_skip rfl rfl rfl ?_
    refine g_skip rfl rfl rfl ?_
    refine g_u (s_pick_f rfl rfl rfl) ?_
    refine g_u (s_as_imm rfl rfl) ?_
    refine g_nil ?_
    refine normal_thn ?_
    refine aw_ret ?_
    exact ⟨⟨(rfl : toAV (Al.look _ _) = some _).trans (congrArg some (by (exact congrArg bv (by first | exact (decide_eq_false (fun e => q (by rw [e]))).symm | (rw [Bool.eq_iff_iff, sameAs_iff, decide_eq_true_iff]; exact ⟨fun h => GL.ext' g1 g2 g3 h, fun h => by rw [h]⟩))))), rfl⟩, trivial⟩

set_option maxHeartbeats 8000000 in
theorem psameS_c (a b : GSpan) (hw : a.wt ≤ 1000000000) : PCall Tryz.prog Γ0 13 [a.av, b.av] [bv (decide (a = b))] := by
  have qw : a.wt = 1 + a.state.size + a.name.size + a.note.size + wtAs a.attrs + sumBy GE.wt a.events + sumBy GL.wt a.links := rfl
  have ql := sumBy_len GE.wt (fun e => by unfold GE.wt; omega) a.events
  have qm := sumBy_len GL.wt (fun e => by unfold GL.wt; omega) a.links
  refine pcall_of Tryz.func13 rfl Tryz.ntmps13 (by kernel_rfl) rfl fun w0 I0 G0 => ?_
  refine aw_seq ?_
  refine aw_region ?_
  refine g_uG (s_box_imm 1002 rfl rfl rfl rfl) rfl ?_
  refine g_uG (s_box_imm 1003 rfl rfl rfl rfl) rfl ?_
  refine g_u (s_as_imm rfl rfl) ?_
  refine g_nil ?_
  refine normal_thn ?_
  refine aw_seq ?_
  refine aw_region ?_
  refine g_u (s_fieldAddr rfl rfl fa33_0 rfl) ?_
  refine g_u (s_load_imm rfl rfl rfl tA23 tS23 rfl rfl) ?_
  refine g_u (s_fieldAddr rfl rfl fa33_0 rfl) ?_
  refine g_u (s_load_imm rfl rfl rfl tA23 tS23 rfl rfl) ?_
  refine g_u (s_eqA rfl rfl rfl eg23 rfl rfl (eq23 _ _)) ?_
  refine g_u (s_mv_imm rfl rfl) ?_
  refine g_case (t := 11) rfl ?_
  rintro (hb1 | hb1)
  · rw [hb1]
    have e0 : a.trace = b.trace := by have e := hb1; simpa using e
    refine g_run rfl rfl (s_fieldAddr rfl rfl fa33_1 rfl) ?_
    refine g_run rfl rfl (s_load_imm rfl rfl rfl tA25 tS25 rfl rfl) ?_
    refine g_run rfl rfl (s_fieldAddr rfl rfl fa33_1 rfl) ?_
    refine g_run rfl rfl (s_load_imm rfl rfl rfl tA25 tS25 rfl rfl) ?_
    refine g_run rfl rfl (s_eqA rfl rfl rfl eg25 rfl rfl (eq25 _ _)) ?_
    refine g_u (s_pick_t rfl rfl rfl) ?_
    refine g_u (s_mv_imm rfl rfl) ?_
    refine g_case (t := 18) rfl ?_
    rintro (hb2 | hb2)
    · rw [hb2]
      have e1 : a.id = b.id := by have e := hb2; simpa using e
      refine g_run rfl rfl (s_fieldAddr rfl rfl fa33_2 rfl) ?_
      refine g_run rfl rfl (s_load_imm rfl rfl rfl tA25 tS25 rfl rfl) ?_
      refine g_run rfl rfl (s_fieldAddr rfl rfl fa33_2 rfl) ?_
      refine g_run rfl rfl (s_load_imm rfl rfl rfl tA25 tS25 rfl rfl) ?_
      refine g_run rfl rfl (s_eqA rfl rfl rfl eg25 rfl rfl (eq25 _ _)) ?_
      refine g_u (s_pick_t rfl rfl rfl) ?_
      refine g_u (s_mv_imm rfl rfl) ?_
      refine g_case (t := 25) rfl ?_
      rintro (hb3 | hb3)
      · rw [hb3]
        have e2 : a.parent = b.parent := by have e := hb3; simpa using e
        refine g_run rfl rfl (s_fieldAddr rfl rfl fa33_3 rfl) ?_
        refine g_run rfl rfl (s_load_imm rfl rfl rfl tA9 tS9 rfl rfl) ?_
        refine g_run rfl rfl (s_fieldAddr rfl rfl fa33_3 rfl) ?_
        refine g_run rfl rfl (s_load_imm rfl rfl rfl tA9 tS9 rfl rfl) ?_
        refine g_run rfl rfl (s_eqS rfl rfl rfl) ?_
        refine g_u (s_pick_t rfl rfl rfl) ?_
        refine g_u (s_mv_imm rfl rfl) ?_
        refine g_case (t := 32) rfl ?_
        rintro (hb4 | hb4)
        · rw [hb4]
          have e3 : a.state = b.state := by have e := hb4; rw [str_beq] at e; simpa using e
          refine g_run rfl rfl (s_fieldAddr rfl rfl fa33_4 rfl) ?_
          refine g_run rfl rfl (s_load_imm rfl rfl rfl tA9 tS9 rfl rfl) ?_
          refine g_run rfl rfl (s_fieldAddr rfl rfl fa33_4 rfl) ?_
          refine g_run rfl rfl (s_load_imm rfl rfl rfl tA9 tS9 rfl rfl) ?_
          refine g_run rfl rfl (s_eqS rfl rfl rfl) ?_
          refine g_u (s_pick_t rfl rfl rfl) ?_
          refine g_u (s_as_imm rfl rfl) ?_
          refine g_nil ?_
          refine normal_thn ?_
          refine aw_seq ?_
          refine aw_seq ?_
          refine aw_region ?_
          refine g_u (s_mv_imm rfl rfl) ?_
          refine g_u (s_not rfl rfl) ?_
          refine g_u (s_mv_imm rfl rfl) ?_
          refine g_case (t := 41) rfl ?_
          rintro (hb5 | hb5)
          · rw [hb5]
            have q : ¬ a.name = b.name := by have e := hb5; rw [str_beq] at e; simpa using e
            refine g_skip rfl rfl rfl ?_
            refine g_skip rfl rfl rfl ?_
            refine g_skip rfl rfl rfl ?_
            refine g_skip rfl rfl rfl ?_
            refine g_skip rfl rfl rfl ?_
            refine g_u (s_pick_t rfl rfl rfl) ?_
            refine g_u (s_mv_imm rfl rfl) ?_
            refine g_skip rfl rfl rfl ?_
            refine g_skip rfl rfl rfl ?_
            refine g_skip rfl rfl rfl ?_
            refine g_skip rfl rfl rfl ?_
            refine g_skip rfl rfl rfl ?_
            refine g_u (s_pick_t rfl rfl rfl) ?_
            refine g_u (s_mv_imm rfl rfl) ?_
            refine g_skip rfl rfl rfl ?_
            refine g_skip rfl rfl rfl ?_
            refine g_skip rfl rfl rfl ?_
            refine g_skip rfl rfl rfl ?_
            refine g_skip rfl rfl rfl ?_
            refine g_u (s_pick_t rfl rfl rfl) ?_
            refine g_u (s_mv_imm rfl rfl) ?_
            refine g_skip rfl rfl rfl ?_
            refine g_skip rfl rfl rfl ?_
            refine g_skip rfl rfl rfl ?_
            refine g_skip rfl rfl rfl ?_
            refine g_skip rfl rfl rfl ?_
            refine g_u (s_pick_t rfl rfl rfl) ?_
            refine g_u (s_mv_imm rfl rfl) ?_
            refine g_skip rfl rfl rfl ?_
            refine g_skip rfl rfl rfl ?_
            refine g_skip rfl rfl rfl ?_
            refine g_skip rfl rfl rfl ?_
            refine g_skip rfl rfl rfl ?_
            refine g_skip rfl rfl rfl ?_
            refine g_u (s_pick_t rfl rfl rfl) ?_
            refine g_nil ?_
            refine normal_thn ?_
            refine aw_cond_true rfl ?_
            refine aw_seq ?_
            refine aw_region ?_
            refine g_u (s_as_imm rfl rfl) ?_
            refine g_nil ?_
            refine normal_thn ?_
            refine aw_ret ?_
            refine ret_thn ?_
            exact ⟨⟨(rfl : toAV (Al.look _ _) = some _).trans (congrArg some (by (exact congrArg bv (by first | exact (decide_eq_false (fun e => q ⟨congrArg GSpan.code e, congrArg GSpan.note e⟩)).symm | exact (decide_eq_false (fun e => q (by rw [e]))).symm | (rw [Bool.eq_iff_iff, decide_eq_true_iff, decide_eq_true_iff]; exact ⟨fun h => GSpan.ext' e0 e1 e2 e3 e4 e5 e6 e7 e9 e10 h e8.1 e8.2, fun h => by rw [h]⟩))))), rfl⟩, trivial⟩
          · rw [hb5]
            have e4 : a.name = b.name := by have e := hb5; rw [str_beq] at e; simpa using e
            refine g_run rfl rfl (s_fieldAddr rfl rfl fa33_5 rfl) ?_
            refine g_run rfl rfl (s_load_imm rfl rfl rfl tA3 tS3 rfl rfl) ?_
            refine g_run rfl rfl (s_fieldAddr rfl rfl fa33_5 rfl) ?_
            refine g_run rfl rfl (s_load_imm rfl rfl rfl tA3 tS3 rfl rfl) ?_
            refine g_run rfl rfl (s_neI rfl rfl rfl) ?_
            refine g_u (s_pick_f rfl rfl rfl) ?_
            refine g_u (s_mv_imm rfl rfl) ?_
            refine g_case (t := 48) rfl ?_
            rintro (hb6 | hb6)
            · rw [hb6]
              have q : ¬ a.kind = b.kind := bne_iff_ne.1 hb6
              refine g_skip rfl rfl rfl ?_
              refine g_skip rfl rfl rfl ?_
              refine g_skip rfl rfl rfl ?_
              refine g_skip rfl rfl rfl ?_
              refine g_skip rfl rfl rfl ?_
              refine g_u (s_pick_t rfl rfl rfl) ?_
              refine g_u (s_mv_imm rfl rfl) ?_
              refine g_skip rfl rfl rfl ?_
              refine g_skip rfl rfl rfl ?_
              refine g_skip rfl rfl rfl ?_
              refine g_skip rfl rfl rfl ?_
              refine g_skip rfl rfl rfl ?_
              refine g_u (s_pick_t rfl rfl rfl) ?_
              refine g_u (s_mv_imm rfl rfl) ?_
              refine g_skip rfl rfl rfl ?_
              refine g_skip rfl rfl rfl ?_
              refine g_skip rfl rfl rfl ?_
              refine g_skip rfl rfl rfl ?_
              refine g_skip rfl rfl rfl ?_
              refine g_u (s_pick_t rfl rfl rfl) ?_
              refine g_u (s_mv_imm rfl rfl) ?_
              refine g_skip rfl rfl rfl ?_
              refine g_skip rfl rfl rfl ?_
              refine g_skip rfl rfl rfl ?_
              refine g_skip rfl rfl rfl ?_
              refine g_skip rfl rfl rfl ?_
              refine g_skip rfl rfl rfl ?_
              refine g_u (s_pick_t rfl rfl rfl) ?_
              refine g_nil ?_
              refine normal_thn ?_
              refine aw_cond_true rfl ?_
              refine aw_seq ?_
              refine aw_region ?_
              refine g_u (s_as_imm rfl rfl) ?_
              refine g_nil ?_
              refine normal_thn ?_
              refine aw_ret ?_
              refine ret_thn ?_
              exact ⟨⟨(rfl : toAV (Al.look _ _) = some _).trans (congrArg some (by (exact congrArg bv (by first | exact (decide_eq_false (fun e => q ⟨congrArg GSpan.code e, congrArg GSpan.note e⟩)).symm | exact (decide_eq_false (fun e => q (by rw [e]))).symm | (rw [Bool.eq_iff_iff, decide_eq_true_iff, decide_eq_true_iff]; exact ⟨fun h => GSpan.ext' e0 e1 e2 e3 e4 e5 e6 e7 e9 e10 h e8.1 e8.2, fun h => by rw [h]⟩))))), rfl⟩, trivial⟩
            · rw [hb6]
              have e5 : a.kind = b.kind := bne_eq_false_iff_eq.1 hb6
              refine g_run rfl rfl (s_fieldAddr rfl rfl fa33_6 rfl) ?_
              refine g_run rfl rfl (s_load_imm rfl rfl rfl tA26 tS26 rfl rfl) ?_
              refine g_run rfl rfl (s_fieldAddr rfl rfl fa33_6 rfl) ?_
              refine g_run rfl rfl (s_load_imm rfl rfl rfl tA26 tS26 rfl rfl) ?_
              refine g_run rfl rfl (s_neI rfl rfl rfl) ?_
              refine g_u (s_pick_f rfl rfl rfl) ?_
              refine g_u (s_mv_imm rfl rfl) ?_
              refine g_case (t := 55) rfl ?_
              rintro (hb7 | hb7)
              · rw [hb7]
                have q : ¬ a.start = b.start := bne_iff_ne.1 hb7
                refine g_skip rfl rfl rfl ?_
                refine g_skip rfl rfl rfl ?_
                refine g_skip rfl rfl rfl ?_
                refine g_skip rfl rfl rfl ?_
                refine g_skip rfl rfl rfl ?_
                refine g_u (s_pick_t rfl rfl rfl) ?_
                refine g_u (s_mv_imm rfl rfl) ?_
                refine g_skip rfl rfl rfl ?_
                refine g_skip rfl rfl rfl ?_
                refine g_skip rfl rfl rfl ?_
                refine g_skip rfl rfl rfl ?_
                refine g_skip rfl rfl rfl ?_
                refine g_u (s_pick_t rfl rfl rfl) ?_
                refine g_u (s_mv_imm rfl rfl) ?_
                refine g_skip rfl rfl rfl ?_
                refine g_skip rfl rfl rfl ?_
                refine g_skip rfl rfl rfl ?_
                refine g_skip rfl rfl rfl ?_
                refine g_skip rfl rfl rfl ?_
                refine g_skip rfl rfl rfl ?_
                refine g_u (s_pick_t rfl rfl rfl) ?_
                refine g_nil ?_
                refine normal_thn ?_
                refine aw_cond_true rfl ?_
                refine aw_seq ?_
                refine aw_region ?_
                refine g_u (s_as_imm rfl rfl) ?_
                refine g_nil ?_
                refine normal_thn ?_
                refine aw_ret ?_
                refine ret_thn ?_
                exact ⟨⟨(rfl : toAV (Al.look _ _) = some _).trans (congrArg some (by (exact congrArg bv (by first | exact (decide_eq_false (fun e => q ⟨congrArg GSpan.code e, congrArg GSpan.note e⟩)).symm | exact (decide_eq_false (fun e => q (by rw [e]))).symm | (rw [Bool.eq_iff_iff, decide_eq_true_iff, decide_eq_true_iff]; exact ⟨fun h => GSpan.ext' e0 e1 e2 e3 e4 e5 e6 e7 e9 e10 h e8.1 e8.2, fun h => by rw [h]⟩))))), rfl⟩, trivial⟩
              · rw [hb7]
                have e6 : a.start = b.start := bne_eq_false_iff_eq.1 hb7
                refine g_run rfl rfl (s_fieldAddr rfl rfl fa33_7 rfl) ?_
                refine g_run rfl rfl (s_load_imm rfl rfl rfl tA26 tS26 rfl rfl) ?_
                refine g_run rfl rfl (s_fieldAddr rfl rfl fa33_7 rfl) ?_
                refine g_run rfl rfl (s_load_imm rfl rfl rfl tA26 tS26 rfl rfl) ?_
                refine g_run rfl rfl (s_neI rfl rfl rfl) ?_
                refine g_u (s_pick_f rfl rfl rfl) ?_
                refine g_u (s_mv_imm rfl rfl) ?_
                refine g_case (t := 62) rfl ?_
                rintro (hb8 | hb8)
                · rw [hb8]
                  have q : ¬ a.fin = b.fin := bne_iff_ne.1 hb8
                  refine g_skip rfl rfl rfl ?_
                  refine g_skip rfl rfl rfl ?_
                  refine g_skip rfl rfl rfl ?_
                  refine g_skip rfl rfl rfl ?_
                  refine g_skip rfl rfl rfl ?_
                  refine g_u (s_pick_t rfl rfl rfl) ?_
                  refine g_u (s_mv_imm rfl rfl) ?_
                  refine g_skip rfl rfl rfl ?_
                  refine g_skip rfl rfl rfl ?_
                  refine g_skip rfl rfl rfl ?_
                  refine g_skip rfl rfl rfl ?_
                  refine g_skip rfl rfl rfl ?_
                  refine g_skip rfl rfl rfl ?_
                  refine g_u (s_pick_t rfl rfl rfl) ?_
                  refine g_nil ?_
                  refine normal_thn ?_
                  refine aw_cond_true rfl ?_
                  refine aw_seq ?_
                  refine aw_region ?_
                  refine g_u (s_as_imm rfl rfl) ?_
                  refine g_nil ?_
                  refine normal_thn ?_
                  refine aw_ret ?_
                  refine ret_thn ?_
                  exact ⟨⟨(rfl : toAV (Al.look _ _) = some _).trans (congrArg some (by (exact congrArg bv (by first | exact (decide_eq_false (fun e => q ⟨congrArg GSpan.code e, congrArg GSpan.note e⟩)).symm | exact (decide_eq_false (fun e => q (by rw [e]))).symm | (rw [Bool.eq_iff_iff, decide_eq_true_iff, decide_eq_true_iff]; exact ⟨fun h => GSpan.ext' e0 e1 e2 e3 e4 e5 e6 e7 e9 e10 h e8.1 e8.2, fun h => by rw [h]⟩))))), rfl⟩, trivial⟩
                · rw [hb8]
                  have e7 : a.fin = b.fin := bne_eq_false_iff_eq.1 hb8
                  refine g_run rfl rfl (s_fieldAddr rfl rfl fa33_11 rfl) ?_
                  refine g_run rfl rfl (s_load_imm rfl rfl rfl tA31 tS31 rfl rfl) ?_
                  refine g_run rfl rfl (s_fieldAddr rfl rfl fa33_11 rfl) ?_
                  refine g_run rfl rfl (s_load_imm rfl rfl rfl tA31 tS31 rfl rfl) ?_
                  refine g_run rfl rfl (s_neA rfl rfl rfl eg31 rfl rfl (eq31 _ _ _ _)) ?_
                  refine g_u (s_pick_f rfl rfl rfl) ?_
                  refine g_u (s_mv_imm rfl rfl) ?_
                  refine g_case (t := 69) rfl ?_
                  rintro (hb9 | hb9)
                  · rw [hb9]
                    have q : ¬ (a.code = b.code ∧ a.note = b.note) := fun h => by have e := hb9; rw [str_beq, h.1, h.2] at e; simp at e
                    refine g_skip rfl rfl rfl ?_
                    refine g_skip rfl rfl rfl ?_
                    refine g_skip rfl rfl rfl ?_
                    refine g_skip rfl rfl rfl ?_
                    refine g_skip rfl rfl rfl ?_
                    refine g_skip rfl rfl rfl ?_
                    refine g_u (s_pick_t rfl rfl rfl) ?_
                    refine g_nil ?_
                    refine normal_thn ?_
                    refine aw_cond_true rfl ?_
                    refine aw_seq ?_
                    refine aw_region ?_
                    refine g_u (s_as_imm rfl rfl) ?_
                    refine g_nil ?_
                    refine normal_thn ?_
                    refine aw_ret ?_
                    refine ret_thn ?_
                    exact ⟨⟨(rfl : toAV (Al.look _ _) = some _).trans (congrArg some (by (exact congrArg bv (by first | exact (decide_eq_false (fun e => q ⟨congrArg GSpan.code e, congrArg GSpan.note e⟩)).symm | exact (decide_eq_false (fun e => q (by rw [e]))).symm | (rw [Bool.eq_iff_iff, decide_eq_true_iff, decide_eq_true_iff]; exact ⟨fun h => GSpan.ext' e0 e1 e2 e3 e4 e5 e6 e7 e9 e10 h e8.1 e8.2, fun h => by rw [h]⟩))))), rfl⟩, trivial⟩
                  · rw [hb9]
                    have e8 : a.code = b.code ∧ a.note = b.note := by have e := hb9; rw [str_beq] at e; simpa using e
                    refine g_run rfl rfl (s_fieldAddr rfl rfl fa33_8 rfl) ?_
                    refine g_run rfl rfl (s_load_imm rfl rfl rfl tA27 tS27 rfl rfl) ?_
                    refine g_run rfl rfl (s_fieldAddr rfl rfl fa33_8 rfl) ?_
                    refine g_run rfl rfl (s_load_imm rfl rfl rfl tA27 tS27 rfl rfl) ?_
                    refine g_run rfl rfl (s_call1 (psameAs_c a.attrs b.attrs (by omega)) rfl rfl) ?_
                    refine g_run rfl rfl (s_not rfl rfl) ?_
                    refine g_u (s_pick_f rfl rfl rfl) ?_
                    refine g_nil ?_
                    refine normal_thn ?_
                    refine aw_cond rfl (fun hb10 => ?_) (fun hb10 => ?_)
                    · skip
                      have q : ¬ a.attrs = b.attrs := fun h => by have e := hb10; rw [h, sameAs_refl] at e; cases e
                      refine aw_seq ?_
                      refine aw_region ?_
                      refine g_u (s_as_imm rfl rfl) ?_
                      refine g_nil ?_
                      refine normal_thn ?_
                      refine aw_ret ?_
                      refine ret_thn ?_
                      exact ⟨⟨(rfl : toAV (Al.look _ _) = some _).trans (congrArg some (by (exact congrArg bv (by first | exact (decide_eq_false (fun e => q ⟨congrArg GSpan.code e, congrArg GSpan.note e⟩)).symm | exact (decide_eq_false (fun e => q (by rw [e]))).symm | (rw [Bool.eq_iff_iff, decide_eq_true_iff, decide_eq_true_iff]; exact ⟨fun h => GSpan.ext' e0 e1 e2 e3 e4 e5 e6 e7 e9 e10 h e8.1 e8.2, fun h => by rw [h]⟩))))), rfl⟩, trivial⟩
                    · skip
                      have e9 : a.attrs = b.attrs := (sameAs_iff _ _).1 (by have e := hb10; simpa using e)
                      refine aw_skip ?_
                      refine normal_thn ?_
                      refine aw_seq ?_
                      refine aw_region ?_
                      refine g_u (s_fieldAddr rfl rfl fa33_9 rfl) ?_
                      refine g_u (s_load_imm rfl rfl rfl tA28 tS28 rfl rfl) ?_
                      refine g_u (s_fieldAddr rfl rfl fa33_9 rfl) ?_
                      refine g_u (s_load_imm rfl rfl rfl tA28 tS28 rfl rfl) ?_
                      refine g_u (s_call1 (eqdE_c a.events b.events 41 (by omega) (fun x hx y => sameE_c x y (by have h5 := sumBy_mem GE.wt hx; have h6 : x.wt = 1 + x.name.size + wtAs x.attrs := rfl; omega))) rfl rfl) ?_
                      refine g_u (s_mv_imm rfl rfl) ?_
                      refine g_case (t := 82) rfl ?_
                      rintro (hb11 | hb11)
                      · rw [hb11]
                        have e10 : a.events = b.events := of_decide_eq_true hb11
                        refine g_run rfl rfl (s_fieldAddr rfl rfl fa33_10 rfl) ?_
                        refine g_run rfl rfl (s_load_imm rfl rfl rfl tA29 tS29 rfl rfl) ?_
                        refine g_run rfl rfl (s_fieldAddr rfl rfl fa33_10 rfl) ?_
                        refine g_run rfl rfl (s_load_imm rfl rfl rfl tA29 tS29 rfl rfl) ?_
                        refine g_run rfl rfl (s_call1 (eqdL_c a.links b.links 43 (by omega) (fun x hx y => sameL_c x y (by have h5 := sumBy_mem GL.wt hx; have h6 : x.wt = 1 + x.state.size + wtAs x.attrs := rfl; omega))) rfl rfl) ?_
                        refine g_u (s_pick_t rfl rfl rfl) ?_
                        refine g_u (s_as_imm rfl rfl) ?_
                        refine g_nil ?_
                        refine normal_thn ?_
                        refine aw_ret ?_
                        exact ⟨⟨(rfl : toAV (Al.look _ _) = some _).trans (congrArg some (by (exact congrArg bv (by first | exact (decide_eq_false (fun e => q ⟨congrArg GSpan.code e, congrArg GSpan.note e⟩)).symm | exact (decide_eq_false (fun e => q (by rw [e]))).symm | (rw [Bool.eq_iff_iff, decide_eq_true_iff, decide_eq_true_iff]; exact ⟨fun h => GSpan.ext' e0 e1 e2 e3 e4 e5 e6 e7 e9 e10 h e8.1 e8.2, fun h => by rw [h]⟩))))), rfl⟩, trivial⟩
                      · rw [hb11]
                        have q : ¬ a.events = b.events := of_decide_eq_false hb11
                        refine g_skip rfl rfl rfl ?_
                        refine g_skip rfl rfl rfl ?_
                        refine g_skip rfl rfl rfl ?_
                        refine g_skip rfl rfl rfl ?_
                        refine g_skip rfl rfl rfl ?_
                        refine g_u (s_pick_f rfl rfl rfl) ?_
                        refine g_u (s_as_imm rfl rfl) ?_
                        refine g_nil ?_
                        refine normal_thn ?_
                        refine aw_ret ?_
                        exact ⟨⟨(rfl : toAV (Al.look _ _) = some _).trans (congrArg some (by (exact congrArg bv (by first | exact (decide_eq_false (fun e => q ⟨congrArg GSpan.code e, congrArg GSpan.note e⟩)).symm | exact (decide_eq_false (fun e => q (by rw [e]))).symm | (rw [Bool.eq_iff_iff, decide_eq_true_iff, decide_eq_true_iff]; exact ⟨fun h => GSpan.ext' e0 e1 e2 e3 e4 e5 e6 e7 e9 e10 h e8.1 e8.2, fun h => by rw [h]⟩))))), rfl⟩, trivial⟩
        · rw [hb4]
          have q : ¬ a.state = b.state := by have e := hb4; rw [str_beq] at e; simpa using e
          refine g_skip rfl rfl rfl ?_
          refine g_skip rfl rfl rfl ?_
          refine g_skip rfl rfl rfl ?_
          refine g_skip rfl rfl rfl ?_
          refine g_skip rfl rfl rfl ?_
          refine g_u (s_pick_f rfl rfl rfl) ?_
          refine g_u (s_as_imm rfl rfl) ?_
          refine g_nil ?_
          refine normal_thn ?_
          refine aw_seq ?_
          refine aw_seq ?_
          refine aw_region ?_
          refine g_u (s_mv_imm rfl rfl) ?_
          refine g_u (s_not rfl rfl) ?_
          refine g_u (s_mv_imm rfl rfl) ?_
          refine g_skip rfl rfl rfl ?_
          refine g_skip rfl rfl rfl ?_
          refine g_skip rfl rfl rfl ?_
          refine g_skip rfl rfl rfl ?_
          refine g_skip rfl rfl rfl ?_
          refine g_u (s_pick_t rfl rfl rfl) ?_
          refine g_u (s_mv_imm rfl rfl) ?_
          refine g_skip rfl rfl rfl ?_
          refine g_skip rfl rfl rfl ?_
          refine g_skip rfl rfl rfl ?_
          refine g_skip rfl rfl rfl ?_
          refine g_skip rfl rfl rfl ?_
          refine g_u (s_pick_t rfl rfl rfl) ?_
          refine g_u (s_mv_imm rfl rfl) ?_
          refine g_skip rfl rfl rfl ?_
          refine g_skip rfl rfl rfl ?_
          refine g_skip rfl rfl rfl ?_
          refine g_skip rfl rfl rfl ?_
          refine g_skip rfl rfl rfl ?_
          refine g_u (s_pick_t rfl rfl rfl) ?_
          refine g_u (s_mv_imm rfl rfl) ?_
          refine g_skip rfl rfl rfl ?_
          refine g_skip rfl rfl rfl ?_
          refine g_skip rfl rfl rfl ?_
          refine g_skip rfl rfl rfl ?_
          refine g_skip rfl rfl rfl ?_
          refine g_u (s_pick_t rfl rfl rfl) ?_
          refine g_u (s_mv_imm rfl rfl) ?_
          refine g_skip rfl rfl rfl ?_
          refine g_skip rfl rfl rfl ?_
          refine g_skip rfl rfl rfl ?_
          refine g_skip rfl rfl rfl ?_
          refine g_skip rfl rfl rfl ?_
          refine g_skip rfl rfl rfl ?_
          refine g_u (s_pick_t rfl rfl rfl) ?_
          refine g_nil ?_
          refine normal_thn ?_
          refine aw_cond_true rfl ?_
          refine aw_seq ?_
          refine aw_region ?_
          refine g_u (s_as_imm rfl rfl) ?_
          refine g_nil ?_
          refine normal_thn ?_
          refine aw_ret ?_
          refine ret_thn ?_
          exact ⟨⟨(rfl : toAV (Al.look _ _) = some _).trans (congrArg some (by (exact congrArg bv (by first | exact (decide_eq_false (fun e => q ⟨congrArg GSpan.code e, congrArg GSpan.note e⟩)).symm | exact (decide_eq_false (fun e => q (by rw [e]))).symm | (rw [Bool.eq_iff_iff, decide_eq_true_iff, decide_eq_true_iff]; exact ⟨fun h => GSpan.ext' e0 e1 e2 e3 e4 e5 e6 e7 e9 e10 h e8.1 e8.2, fun h => by rw [h]⟩))))), rfl⟩, trivial⟩
      · rw [hb3]
        have q : ¬ a.parent = b.parent := by have e := hb3; simpa using e
        refine g_skip rfl rfl rfl ?_
        refine g_skip rfl rfl rfl ?_
        refine g_skip rfl rfl rfl ?_
        refine g_skip rfl rfl rfl ?_
        refine g_skip rfl rfl rfl ?_
        refine g_u (s_pick_f rfl rfl rfl) ?_
        refine g_u (s_mv_imm rfl rfl) ?_
        refine g_skip rfl rfl rfl ?_
        refine g_skip rfl rfl rfl ?_
        refine g_skip rfl rfl rfl ?_
        refine g_skip rfl rfl rfl ?_
        refine g_skip rfl rfl rfl ?_
        refine g_u (s_pick_f rfl rfl rfl) ?_
        refine g_u (s_as_imm rfl rfl) ?_
        refine g_nil ?_
        refine normal_thn ?_
        refine aw_seq ?_
        refine aw_seq ?_
        refine aw_region ?_
        refine g_u (s_mv_imm rfl rfl) ?_
        refine g_u (s_not rfl rfl) ?_
        refine g_u (s_mv_imm rfl rfl) ?_
        refine g_skip rfl rfl rfl ?_
        refine g_skip rfl rfl rfl ?_
        refine g_skip rfl rfl rfl ?_
        refine g_skip rfl rfl rfl ?_
        refine g_skip rfl rfl rfl ?_
        refine g_u (s_pick_t rfl rfl rfl) ?_
        refine g_u (s_mv_imm rfl rfl) ?_
        refine g_skip rfl rfl rfl ?_
        refine g_skip rfl rfl rfl ?_
        refine g_skip rfl rfl rfl ?_
        refine g_skip rfl rfl rfl ?_
        refine g_skip rfl rfl rfl ?_
        refine g_u (s_pick_t rfl rfl rfl) ?_
        refine g_u (s_mv_imm rfl rfl) ?_
        refine g_skip rfl rfl rfl ?_
        refine g_skip rfl rfl rfl ?_
        refine g_skip rfl rfl rfl ?_
        refine g_skip rfl rfl rfl ?_
        refine g_skip rfl rfl rfl ?_
        refine g_u (s_pick_t rfl rfl rfl) ?_
        refine g_u (s_mv_imm rfl rfl) ?_
        refine g_skip rfl rfl rfl ?_
        refine g_skip rfl rfl rfl ?_
        refine g_skip rfl rfl rfl ?_
        refine g_skip rfl rfl rfl ?_
        refine g_skip rfl rfl rfl ?_
        refine g_u (s_pick_t rfl rfl rfl) ?_
        refine g_u (s_mv_imm rfl rfl) ?_
        refine g_skip rfl rfl rfl ?_
        refine g_skip rfl rfl rfl ?_
        refine g_skip rfl rfl rfl ?_
        refine g_skip rfl rfl rfl ?_
        refine g_skip rfl rfl rfl ?_
        refine g_skip rfl rfl rfl ?_
        refine g_u (s_pick_t rfl rfl rfl) ?_
        refine g_nil ?_
        refine normal_thn ?_
        refine aw_cond_true rfl ?_
        refine aw_seq ?_
        refine aw_region ?_
        refine g_u (s_as_imm rfl rfl) ?_
        refine g_nil ?_
        refine normal_thn ?_
        refine aw_ret ?_
        refine ret_thn ?_
        exact ⟨⟨(rfl : toAV (Al.look _ _) = some _).trans (congrArg some (by (exact congrArg bv (by first | exact (decide_eq_false (fun e => q ⟨congrArg GSpan.code e, congrArg GSpan.note e⟩)).symm | exact (decide_eq_false (fun e => q (by rw [e]))).symm | (rw [Bool.eq_iff_iff, decide_eq_true_iff, decide_eq_true_iff]; exact ⟨fun h => GSpan.ext' e0 e1 e2 e3 e4 e5 e6 e7 e9 e10 h e8.1 e8.2, fun h => by rw [h]⟩))))), rfl⟩, trivial⟩
    · rw [hb2]
      have q : ¬ a.id = b.id := by have e := hb2; simpa using e
      refine g_skip rfl rfl rfl ?_
      refine g_skip rfl rfl rfl ?_
      refine g_skip rfl rfl rfl ?_
      refine g_skip rfl rfl rfl ?_
      refine g_skip rfl rfl rfl ?_
      refine g_u (s_pick_f rfl rfl rfl) ?_
      refine g_u (s_mv_imm rfl rfl) ?_
      refine g_skip rfl rfl rfl ?_
      refine g_skip rfl rfl rfl ?_
      refine g_skip rfl rfl rfl ?_
      refine g_skip rfl rfl rfl ?_
      refine g_skip rfl rfl rfl ?_
      refine g_u (s_pick_f rfl rfl rfl) ?_
      refine g_u (s_mv_imm rfl rfl) ?_
      refine g_skip rfl rfl rfl ?_
      refine g_skip rfl rfl rfl ?_
      refine g_skip rfl rfl rfl ?_
      refine g_skip rfl rfl rfl ?_
      refine g_skip rfl rfl rfl ?_
      refine g_u (s_pick_f rfl rfl rfl) ?_
      refine g_u (s_as_imm rfl rfl) ?_
      refine g_nil ?_
      refine normal_thn ?_
      refine aw_seq ?_
      refine aw_seq ?_
      refine aw_region ?_
      refine g_u (s_mv_imm rfl rfl) ?_
      refine g_u (s_not rfl rfl) ?_
      refine g_u (s_mv_imm rfl rfl) ?_
      refine g_skip rfl rfl rfl ?_
      refine g_skip rfl rfl rfl ?_
      refine g_skip rfl rfl rfl ?_
      refine g_skip rfl rfl rfl ?_
      refine g_skip rfl rfl rfl ?_
      refine g_u (s_pick_t rfl rfl rfl) ?_
      refine g_u (s_mv_imm rfl rfl) ?_
      refine g_skip rfl rfl rfl ?_
      refine g_skip rfl rfl rfl ?_
      refine g_skip rfl rfl rfl ?_
      refine g_skip rfl rfl rfl ?_
      refine g_skip rfl rfl rfl ?_
      refine g_u (s_pick_t rfl rfl rfl) ?_
      refine g_u (s_mv_imm rfl rfl) ?_
      refine g_skip rfl rfl rfl ?_
      refine g_skip rfl rfl rfl ?_
      refine g_skip rfl rfl rfl ?_
      refine g_skip rfl rfl rfl ?_
      refine g_skip rfl rfl rfl ?_
      refine g_u (s_pick_t rfl rfl rfl) ?_
      refine g_u (s_mv_imm rfl rfl) ?_
      refine g_skip rfl rfl rfl ?_
      refine g_skip rfl rfl rfl ?_
      refine g_skip rfl rfl rfl ?_
      refine g_skip rfl rfl rfl ?_
      refine g_skip rfl rfl rfl ?_
      refine g_u (s_pick_t rfl rfl rfl) ?_
      refine g_u (s_mv_imm rfl rfl) ?_
      refine g_skip rfl rfl rfl ?_
      refine g_skip rfl rfl rfl ?_
      refine g_skip rfl rfl rfl ?_
      refine g_skip rfl rfl rfl ?_
      refine g_skip rfl rfl rfl ?_
      refine g_skip rfl rfl rfl ?_
      refine g_u (s_pick_t rfl rfl rfl) ?_
      refine g_nil ?_
      refine normal_thn ?_
      refine aw_cond_true rfl ?_
      refine aw_seq ?_
      refine aw_region ?_
      refine g_u (s_as_imm rfl rfl) ?_
      refine g_nil ?_
      refine normal_thn ?_
      refine aw_ret ?_
      refine ret_thn ?_
      exact ⟨⟨(rfl : toAV (Al.look _ _) = some _).trans (congrArg some (by (exact congrArg bv (by first | exact (decide_eq_false (fun e => q ⟨congrArg GSpan.code e, congrArg GSpan.note e⟩)).symm | exact (decide_eq_false (fun e => q (by rw [e]))).symm | (rw [Bool.eq_iff_iff, decide_eq_true_iff, decide_eq_true_iff]; exact ⟨fun h => GSpan.ext' e0 e1 e2 e3 e4 e5 e6 e7 e9 e10 h e8.1 e8.2, fun h => by rw [h]⟩))))), rfl⟩, trivial⟩
  · rw [hb1]
    have q : ¬ a.trace = b.trace := by have e := hb1; simpa using e
    refine g_skip rfl rfl rfl ?_
    refine g_skip rfl rfl rfl ?_
    refine g_skip rfl rfl rfl ?_
    refine g_skip rfl rfl rfl ?_
    refine g_skip rfl rfl rfl ?_
    refine g_u (s_pick_f rfl rfl rfl) ?_
    refine g_u (s_mv_imm rfl rfl) ?_
    refine g_skip rfl rfl rfl ?_
    refine g_skip rfl rfl rfl ?_
    refine g_skip rfl rfl rfl ?_
    refine g_skip rfl rfl rfl ?_
    refine g_skip rfl rfl rfl ?_
    refine g_u (s_pick_f rfl rfl rfl) ?_
    refine g_u (s_mv_imm rfl rfl) ?_
    refine g_skip rfl rfl rfl ?_
    refine g_skip rfl rfl rfl ?_
    refine g_skip rfl rfl rfl ?_
    refine g_skip rfl rfl rfl ?_
    refine g_skip rfl rfl rfl ?_
    refine g_u (s_pick_f rfl rfl rfl) ?_
    refine g_u (s_mv_imm rfl rfl) ?_
    refine g_skip rfl rfl rfl ?_
    refine g_skip rfl rfl rfl ?_
    refine g_skip rfl rfl rfl ?_
    refine g_skip rfl rfl rfl ?_
    refine g_skip rfl rfl rfl ?_
    refine g_u (s_pick_f rfl rfl rfl) ?_
    refine g_u (s_as_imm rfl rfl) ?_
    refine g_nil ?_
    refine normal_thn ?_
    refine aw_seq ?_
    refine aw_seq ?_
    refine aw_region ?_
    refine g_u (s_mv_imm rfl rfl) ?_
    refine g_u (s_not rfl rfl) ?_
    refine g_u (s_mv_imm rfl rfl) ?_
    refine g_skip rfl rfl rfl ?_
    refine g_skip rfl rfl rfl ?_
    refine g_skip rfl rfl rfl ?_
    refine g_skip rfl rfl rfl ?_
    refine g_skip rfl rfl rfl ?_
    refine g_u (s_pick_t rfl rfl rfl) ?_
    refine g_u (s_mv_imm rfl rfl) ?_
    refine g_skip rfl rfl rfl ?_
    refine g_skip rfl rfl rfl ?_
    refine g_skip rfl rfl rfl ?_
    refine g_skip rfl rfl rfl ?_
    refine g_skip rfl rfl rfl ?_
    refine g_u (s_pick_t rfl rfl rfl) ?_
    refine g_u (s_mv_imm rfl rfl) ?_
    refine g_skip rfl rfl rfl ?_
    refine g_skip rfl rfl rfl ?_
    refine g_skip rfl rfl rfl ?_
    refine g_skip rfl rfl rfl ?_
    refine g_skip rfl rfl rfl ?_
    refine g_u (s_pick_t rfl rfl rfl) ?_
    refine g_u (s_mv_imm rfl rfl) ?_
    refine g_skip rfl rfl rfl ?_
    refine g_skip rfl rfl rfl ?_
    refine g_skip rfl rfl rfl ?_
    refine g_skip rfl rfl rfl ?_
    refine g_skip rfl rfl rfl ?_
    refine g_u (s_pick_t rfl rfl rfl) ?_
    refine g_u (s_mv_imm rfl rfl) ?_
    refine g_skip rfl rfl rfl ?_
    refine g_skip rfl rfl rfl ?_
    refine g_skip rfl rfl rfl ?_
    refine g_skip rfl rfl rfl ?_
    refine g_skip rfl rfl rfl ?_
    refine g_skip rfl rfl rfl ?_
    refine g_u (s_pick_t rfl rfl rfl) ?_
    refine g_nil ?_
    refine normal_thn ?_
    refine aw_cond_true rfl ?_
    refine aw_seq ?_
    refine aw_region ?_
    refine g_u (s_as_imm rfl rfl) ?_
    refine g_nil ?_
    refine normal_thn ?_
    refine aw_ret ?_
    refine ret_thn ?_
    exact ⟨⟨(rfl : toAV (Al.look _ _) = some _).trans (congrArg some (by (exact congrArg bv (by first | exact (decide_eq_false (fun e => q ⟨congrArg GSpan.code e, congrArg GSpan.note e⟩)).symm | exact (decide_eq_false (fun e => q (by rw [e]))).symm | (rw [Bool.eq_iff_iff, decide_eq_true_iff, decide_eq_true_iff]; exact ⟨fun h => GSpan.ext' e0 e1 e2 e3 e4 e5 e6 e7 e9 e10 h e8.1 e8.2, fun h => by rw [h]⟩))))), rfl⟩, trivial⟩

end Go.Proofs

namespace Go.Proofs
open Go Go.Al
set_option maxRecDepth 10000
set_option maxHeartbeats 8000000 in
theorem pcanonS_c (s : GSpan) (hw : s.wt ≤ 1000000) : PCall Tryz.prog Γ0 12 [s.av] [(canonS s).av] := by
  have qw : s.wt = 1 + s.state.size + s.name.size + s.note.size + wtAs s.attrs + sumBy GE.wt s.events + sumBy GL.wt s.links := rfl
  have ql := sumBy_len GE.wt (fun e => by unfold GE.wt; omega) s.events
  have qm := sumBy_len GL.wt (fun e => by unfold GL.wt; omega) s.links
  refine pcall_of Tryz.func12 rfl Tryz.ntmps12 (by kernel_rfl) rfl fun w0 I0 G0 => ?_
  refine aw_seq ?_
  refine aw_region ?_
  refine g_uG (s_box_imm 1001 rfl rfl rfl rfl) rfl ?_
  refine g_uG (s_alloc' 1002 rfl rfl rfl tZ33) rfl ?_
  refine g_nil ?_
  refine normal_thn ?_
  refine aw_seq ?_
  refine aw_region ?_
  refine g_u (s_fieldAddr rfl rfl fa33_8 rfl) ?_
  refine g_u (s_load_imm rfl rfl rfl tA27 tS27 rfl rfl) ?_
  refine g_u (s_call1 (pcanonAs_c s.attrs (by omega)) rfl rfl) ?_
  refine g_u (s_fieldAddr rfl rfl fa33_8 rfl) ?_
  refine g_u (s_store_imm rfl rfl rfl tS27 rfl rfl) ?_
  refine g_nil ?_
  refine normal_thn ?_
  refine aw_pack 1001 rfl rfl ?_
  refine aw_seq ?_
  refine aw_region ?_
  refine g_u (s_as_imm rfl rfl) ?_
  refine g_nil ?_
  refine normal_thn ?_
  refine aw_newtok 3003 3 3 rfl rfl rfl rfl ?_
  refine aw_seq ?_
  refine aw_seq ?_
  refine aw_region ?_
  refine g_u (s_fieldAddr rfl rfl fa33_9 rfl) ?_
  refine g_u (s_load_imm rfl rfl rfl tA28 tS28 rfl rfl) ?_
  refine g_u (s_lenL rfl rfl Tryz.underlying28) ?_
  refine g_u (s_mv_imm rfl rfl) ?_
  refine g_nil ?_
  refine normal_thn ?_
  refine aw_block ?_
  refine aw_loop' (fun i : Nat => [(1, .ptr 1001 0), (1001, .box 33 (.imm ({ s with attrs := canonAs s.attrs } : GSpan).av)), (2, .ptr 1002 0), (1002, .box 33 (.imm z33)), (3, .slg 3003 3 ((s.events.take i).map fun e => (canonE e).av)), (3003, .tok 3 ((s.events.take i).map fun e => (canonE e).av)), (14, .imm (.sl 3 (s.events.map GE.av))), (15, .imm (iv (s.events.length : Int))), (16, .imm (iv (i : Int)))]) (fun i => i ≤ s.events.length) (fun i => s.events.length - i) (0) ?_ ⟨rfl, rfl, rfl, rfl, rfl, rfl, rfl, look_int rfl (by rw [List.length_map]), rfl, trivial⟩ ?_
  · exact Nat.zero_le _
  · rintro i h1; have h1 : i ≤ s.events.length := h1
    refine aw_seq ?_
    refine aw_region ?_
    refine g_u (s_ltI rfl rfl rfl) ?_
    refine g_nil ?_
    refine normal_thn ?_
    refine aw_seq ?_
    refine aw_cond rfl (fun hb1 => ?_) (fun hb1 => ?_)
    · skip
      have hi : i < s.events.length := by have := of_decide_eq_true hb1; (try simp only [List.length_map] at this); omega
      have hx : wtAs (nthE s.events i).attrs ≤ 10000000 := by have h5 := sumBy_mem GE.wt (nthE_mem hi); have h6 : (nthE s.events i).wt = 1 + (nthE s.events i).name.size + wtAs (nthE s.events i).attrs := rfl; omega
      refine aw_skip ?_
      refine normal_thn ?_
      refine aw_seq ?_
      refine aw_block ?_
      refine aw_seq ?_
      refine aw_region ?_
      refine g_u (s_indexAddr rfl rfl rfl Tryz.underlying28 tS42 (by omega) (ixE hi)) ?_
      refine g_u (s_load_cp rfl rfl tA42 tS42 rfl rfl) ?_
      refine g_uG (s_alloc' 1005 rfl rfl rfl tZ42) rfl ?_
      refine g_u (s_store_imm rfl rfl rfl tS42 rfl rfl) ?_
      refine g_nil ?_
      refine normal_thn ?_
      refine aw_seq ?_
      refine aw_region ?_
      refine g_u (s_fieldAddr rfl rfl fa42_2 rfl) ?_
      refine g_u (s_load_imm rfl rfl rfl tA27 tS27 rfl rfl) ?_
      refine g_u (s_call1 (pcanonAs_c (nthE s.events i).attrs hx) rfl rfl) ?_
      refine g_u (s_fieldAddr rfl rfl fa42_2 rfl) ?_
      refine g_u (s_store_imm rfl rfl rfl tS27 rfl rfl) ?_
      refine g_nil ?_
      refine normal_thn ?_
      refine aw_region ?_
      refine g_u (s_mv_slg rfl rfl) ?_
      refine g_u (s_load_agg rfl rfl rfl tA42 tS42 rfl rfl) ?_
      refine g_u (s_buildSlice (X0 := z42) rfl Tryz.underlying28 tS42 tZ42 rfl rfl rfl rfl rfl rfl rfl rfl) ?_
      refine g_u (s_append rfl rfl rfl rfl rfl Tryz.underlying28 Tryz.underlying28 tS42 zv42 rfl (by decide) by42 (by (try dsimp only); simp only [List.length_append, List.length_cons, List.length_nil, List.length_map, List.length_take, List.length_drop]; omega) (by (try dsimp only); simp only [List.length_append, List.length_cons, List.length_nil, List.length_map, List.length_take, List.length_drop]; omega)) ?_
      refine g_u (s_as_slg rfl rfl) ?_
      refine g_nil ?_
      refine normal_blk ?_
      refine normal_thn ?_
      refine aw_region ?_
      refine g_u (s_add rfl rfl rfl) ?_
      refine g_u (s_mv_imm rfl rfl) ?_
      refine g_nil ?_
      refine normal_thn ?_
      have et : ((s.events.take (i + 1)).map fun e => (canonE e).av) = ((s.events.take i).map fun e => (canonE e).av) ++ [(canonE (nthE s.events i)).av] := by rw [take_snoc (nth_get (d := ge0) hi), List.map_append]; rfl
      refine ⟨i + 1, hi, ⟨rfl, rfl, rfl, rfl, look_slg rfl et.symm, look_tok rfl et.symm, rfl, rfl, look_int rfl (by rw [wrap64 (by omega) (by omega)]; rfl), trivial⟩, by (try dsimp only); omega⟩
    · skip
      have hin : i = s.events.length := by have := of_decide_eq_false hb1; (try simp only [List.length_map] at this); omega
      refine aw_exit ?_
      refine exit_thn ?_
      refine exit_thn ?_
      refine exit_blk ?_
      refine normal_thn ?_
      refine aw_seq ?_
      refine aw_region ?_
      refine g_u (s_as_imm rfl rfl) ?_
      refine g_nil ?_
      refine normal_thn ?_
      refine aw_newtok 3006 6 26 rfl rfl rfl rfl ?_
      refine aw_seq ?_
      refine aw_seq ?_
      refine aw_region ?_
      refine g_u (s_fieldAddr rfl rfl fa33_10 rfl) ?_
      refine g_u (s_load_imm rfl rfl rfl tA29 tS29 rfl rfl) ?_
      refine g_u (s_lenL rfl rfl Tryz.underlying29) ?_
      refine g_u (s_mv_imm rfl rfl) ?_
      refine g_nil ?_
      refine normal_thn ?_
      refine aw_block ?_
      refine aw_loop' (fun i : Nat => [(1, .ptr 1001 0), (1001, .box 33 (.imm ({ s with attrs := canonAs s.attrs } : GSpan).av)), (2, .ptr 1002 0), (1002, .box 33 (.imm z33)), (3, .slg 3003 3 (s.events.map fun e => (canonE e).av)), (3003, .tok 3 (s.events.map fun e => (canonE e).av)), (6, .slg 3006 26 ((s.links.take i).map fun e => (canonL e).av)), (3006, .tok 26 ((s.links.take i).map fun e => (canonL e).av)), (30, .imm (.sl 26 (s.links.map GL.av))), (31, .imm (iv (s.links.length : Int))), (32, .imm (iv (i : Int)))]) (fun i => i ≤ s.links.length) (fun i => s.links.length - i) (0) ?_ ⟨rfl, rfl, rfl, rfl, look_slg rfl (by rw [hin, List.take_length]), look_tok rfl (by rw [hin, List.take_length]), rfl, rfl, rfl, look_int rfl (by rw [List.length_map]), rfl, trivial⟩ ?_
      · exact Nat.zero_le _
      · rintro i h1; have h1 : i ≤ s.links.length := h1
        refine aw_seq ?_
        refine aw_region ?_
        refine g_u (s_ltI rfl rfl rfl) ?_
        refine g_nil ?_
        refine normal_thn ?_
        refine aw_seq ?_
        refine aw_cond rfl (fun hb2 => ?_) (fun hb2 => ?_)
        · skip
          have hi : i < s.links.length := by have := of_decide_eq_true hb2; (try simp only [List.length_map] at this); omega
          have hx : wtAs (nthL s.links i).attrs ≤ 10000000 := by have h5 := sumBy_mem GL.wt (nthL_mem hi); have h6 : (nthL s.links i).wt = 1 + (nthL s.links i).state.size + wtAs (nthL s.links i).attrs := rfl; omega
          refine aw_skip ?_
          refine normal_thn ?_
          refine aw_seq ?_
          refine aw_block ?_
          refine aw_seq ?_
          refine aw_region ?_
          refine g_u (s_indexAddr rfl rfl rfl Tryz.underlying29 tS44 (by omega) (ixL hi)) ?_
          refine g_u (s_load_cp rfl rfl tA44 tS44 rfl (by first | exact getS_w (GL.width _) rfl | rfl)) ?_
          refine g_uG (s_alloc' 1008 rfl rfl rfl tZ44) rfl ?_
          refine g_u (s_store_imm rfl rfl rfl tS44 (by first | exact beqW (GL.width _) | rfl) (by first | exact setS_w (z44_w.trans (GL.width _).symm) rfl | rfl)) ?_
          refine g_nil ?_
          refine normal_thn ?_
          refine aw_seq ?_
          refine aw_region ?_
          refine g_u (s_fieldAddr rfl rfl fa44_3 rfl) ?_
          refine g_u (s_load_imm rfl rfl rfl tA27 tS27 rfl rfl) ?_
          refine g_u (s_call1 (pcanonAs_c (nthL s.links i).attrs hx) rfl rfl) ?_
          refine g_u (s_fieldAddr rfl rfl fa44_3 rfl) ?_
          refine g_u (s_store_imm rfl rfl rfl tS27 rfl rfl) ?_
          refine g_nil ?_
          refine normal_thn ?_
          refine aw_pack 1008 rfl rfl ?_
          refine aw_region ?_
          refine g_u (s_mv_slg rfl rfl) ?_
          refine g_u (s_load_imm rfl rfl rfl tA44 tS44 rfl (by first | exact getS_w (GL.width _) rfl | rfl)) ?_
          refine g_u (s_buildSlice (X0 := z44) rfl Tryz.underlying29 tS44 tZ44 rfl rfl rfl rfl rfl rfl rfl rfl) ?_
          refine g_u (s_append rfl rfl rfl rfl rfl Tryz.underlying29 Tryz.underlying29 tS44 zv44 rfl (by decide) by44 (by (try dsimp only); simp only [List.length_append, List.length_cons, List.length_nil, List.length_map, List.length_take, List.length_drop]; omega) (by (try dsimp only); simp only [List.length_append, List.length_cons, List.length_nil, List.length_map, List.length_take, List.length_drop]; omega)) ?_
          refine g_u (s_as_slg rfl rfl) ?_
          refine g_nil ?_
          refine normal_blk ?_
          refine normal_thn ?_
          refine aw_region ?_
          refine g_u (s_add rfl rfl rfl) ?_
          refine g_u (s_mv_imm rfl rfl) ?_
          refine g_nil ?_
          refine normal_thn ?_
          have et : ((s.links.take (i + 1)).map fun e => (canonL e).av) = ((s.links.take i).map fun e => (canonL e).av) ++ [(canonL (nthL s.links i)).av] := by rw [take_snoc (nth_get (d := gl0) hi), List.map_append]; rfl
          refine ⟨i + 1, hi, ⟨rfl, rfl, rfl, rfl, rfl, rfl, look_slg rfl et.symm, look_tok rfl et.symm, rfl, rfl, look_int rfl (by rw [wrap64 (by omega) (by omega)]; rfl), trivial⟩, by (try dsimp only); omega⟩
        · skip
          have hin2 : i = s.links.length := by have := of_decide_eq_false hb2; (try simp only [List.length_map] at this); omega
          refine aw_exit ?_
          refine exit_thn ?_
          refine exit_thn ?_
          refine exit_blk ?_
          refine normal_thn ?_
          refine aw_seq ?_
          refine aw_region ?_
          refine g_u (s_mv_slg rfl rfl) ?_
          refine g_u (s_mv_slg rfl rfl) ?_
          refine g_u (s_fieldAddr rfl rfl fa33_9 rfl) ?_
          refine g_u (s_store rfl rfl rfl rfl tS28 rfl rfl) ?_
          refine g_u (s_fieldAddr rfl rfl fa33_10 rfl) ?_
          refine g_u (s_store rfl rfl rfl rfl tS29 rfl rfl) ?_
          refine g_nil ?_
          refine normal_thn ?_
          refine aw_seq ?_
          refine aw_region ?_
          refine g_u (s_load_agg rfl rfl rfl tA33 tS33 rfl rfl) ?_
          refine g_u (s_store_imm rfl rfl rfl tS33 (by first | exact beqW (GSpan.width _) | rfl) (by first | exact setS_w (z33_w.trans (GSpan.width _).symm) rfl | rfl)) ?_
          refine g_nil ?_
          refine normal_thn ?_
          refine aw_ret ?_
          exact ⟨⟨_, _, _, _, _, _, _, rfl, rfl, tA33, tS33, rfl, rfl, (rfl : toAV _ = some _).trans (congrArg some (by (rw [hin2, List.take_length]; show _ = GSpan.av (canonS s); simp only [GSpan.av, canonS, List.map_map]; rfl)))⟩, trivial⟩

end Go.Proofs

namespace Go.Proofs
open Go Go.Al
set_option maxRecDepth 10000
set_option maxHeartbeats 400000 in
theorem words_c (t : ByteArray) (ht : t.size < 9223372036854775808) : PCall Tryz.prog Γ0 18 [sv t] [iv (nameC t)] := by
  have cr := check_range t
  refine pcall_of Tryz.func18 rfl Tryz.ntmps18 (by kernel_rfl) rfl fun w0 I0 G0 => ?_
  refine aw_seq ?_
  refine aw_region ?_
  refine g_u (s_as_imm rfl rfl) ?_
  refine g_nil ?_
  refine normal_thn ?_
  refine aw_seq ?_
  refine aw_block ?_
  refine aw_seq ?_
  refine aw_region ?_
  refine g_u (s_mv_imm rfl rfl) ?_
  refine g_u (s_call1 (check_c _ (by omega)) rfl rfl) ?_
  refine g_u (s_geI rfl rfl rfl) ?_
  refine g_u (s_as_imm rfl rfl) ?_
  refine g_nil ?_
  refine normal_thn ?_
  refine aw_cond rfl (fun hb1 => ?_) (fun hb1 => ?_)
  · skip
    have q := of_decide_eq_true hb1
    refine aw_seq ?_
    refine aw_region ?_
    refine g_u (s_as_imm rfl rfl) ?_
    refine g_nil ?_
    refine normal_thn ?_
    refine aw_ret ?_
    refine ret_blk ?_
    refine ret_thn ?_
    exact ⟨⟨(rfl : toAV (Al.look _ _) = some _).trans (congrArg some (by (exact congrArg iv (by unfold nameC; (repeat' split) <;> first | rfl | omega)))), rfl⟩, trivial⟩
  · skip
    have q := of_decide_eq_false hb1
    refine aw_seq ?_
    refine aw_region ?_
    refine g_u (s_mv_imm rfl rfl) ?_
    refine g_u (s_lenS rfl rfl Tryz.underlying9) ?_
    refine g_u (s_gtI rfl rfl rfl) ?_
    refine g_u (s_as_imm rfl rfl) ?_
    refine g_nil ?_
    refine normal_thn ?_
    refine aw_cond rfl (fun hb2 => ?_) (fun hb2 => ?_)
    · skip
      have q := of_decide_eq_true hb2
      refine aw_seq ?_
      refine aw_region ?_
      refine g_u (s_as_imm rfl rfl) ?_
      refine g_nil ?_
      refine normal_thn ?_
      refine aw_ret ?_
      refine ret_blk ?_
      refine ret_thn ?_
      exact ⟨⟨(rfl : toAV (Al.look _ _) = some _).trans (congrArg some (by (exact congrArg iv (by unfold nameC; (repeat' split) <;> first | rfl | omega)))), rfl⟩, trivial⟩
    · skip
      have q := of_decide_eq_false hb2
      refine aw_skip ?_
      refine normal_blk ?_
      refine normal_thn ?_
      refine aw_seq ?_
      refine aw_region ?_
      refine g_u (s_as_imm rfl rfl) ?_
      refine g_nil ?_
      refine normal_thn ?_
      refine aw_ret ?_
      exact ⟨⟨(rfl : toAV (Al.look _ _) = some _).trans (congrArg some (by (exact congrArg iv (by unfold nameC; (repeat' split) <;> first | rfl | omega)))), rfl⟩, trivial⟩

set_option maxHeartbeats 400000 in
theorem spanName_c (t : ByteArray) (ht : t.size < 9223372036854775808) : PCall Tryz.prog Γ0 8 [sv t] [iv (nameC t)] := by
  refine pcall_of Tryz.func8 rfl Tryz.ntmps8 (by kernel_rfl) rfl fun w0 I0 G0 => ?_
  refine aw_seq ?_
  refine aw_region ?_
  refine g_u (s_as_imm rfl rfl) ?_
  refine g_nil ?_
  refine normal_thn ?_
  refine aw_seq ?_
  refine aw_region ?_
  refine g_u (s_mv_imm rfl rfl) ?_
  refine g_u (s_call1 (words_c _ (by omega)) rfl rfl) ?_
  refine g_u (s_as_imm rfl rfl) ?_
  refine g_nil ?_
  refine normal_thn ?_
  refine aw_ret ?_
  exact ⟨⟨(rfl : toAV (Al.look _ _) = some _).trans (congrArg some (by rfl)), rfl⟩, trivial⟩

set_option maxHeartbeats 400000 in
theorem when_c (b : Bool) (c : Int) : PCall Tryz.prog Γ0 16 [bv b, iv c] [iv (if b then c else 0)] := by
  refine pcall_of Tryz.func16 rfl Tryz.ntmps16 (by kernel_rfl) rfl fun w0 I0 G0 => ?_
  refine aw_seq ?_
  refine aw_region ?_
  refine g_u (s_as_imm rfl rfl) ?_
  refine g_nil ?_
  refine normal_thn ?_
  refine aw_seq ?_
  refine aw_seq ?_
  refine aw_region ?_
  refine g_u (s_mv_imm rfl rfl) ?_
  refine g_nil ?_
  refine normal_thn ?_
  refine aw_cond rfl (fun hb1 => ?_) (fun hb1 => ?_)
  · skip
    have q : b = true := hb1
    refine aw_seq ?_
    refine aw_region ?_
    refine g_u (s_mv_imm rfl rfl) ?_
    refine g_u (s_as_imm rfl rfl) ?_
    refine g_nil ?_
    refine normal_thn ?_
    refine aw_ret ?_
    refine ret_thn ?_
    exact ⟨⟨(rfl : toAV (Al.look _ _) = some _).trans (congrArg some (by (rw [q]; rfl))), rfl⟩, trivial⟩
  · skip
    have q : b = false := hb1
    refine aw_skip ?_
    refine normal_thn ?_
    refine aw_seq ?_
    refine aw_region ?_
    refine g_u (s_as_imm rfl rfl) ?_
    refine g_nil ?_
    refine normal_thn ?_
    refine aw_ret ?_
    exact ⟨⟨(rfl : toAV (Al.look _ _) = some _).trans (congrArg some (by (rw [q]; rfl))), rfl⟩, trivial⟩

set_option maxHeartbeats 400000 in
theorem first_c (l : List FN) (hl : l.length ≤ 1000) (hf : ∀ x ∈ l, PCall Tryz.prog Γ0 x.1 (x.2.1 ++ [] ++ x.2.2.1) [iv x.2.2.2]) : PCall Tryz.prog Γ0 14 [.sl 1 (l.map fnA)] [iv (firstC (fcodes l))] := by
  refine pcall_of Tryz.func14 rfl Tryz.ntmps14 (by kernel_rfl) rfl fun w0 I0 G0 => ?_
  refine aw_seq ?_
  refine aw_region ?_
  refine g_u (s_as_imm rfl rfl) ?_
  refine g_nil ?_
  refine normal_thn ?_
  refine aw_seq ?_
  refine aw_seq ?_
  refine aw_region ?_
  refine g_u (s_mv_imm rfl rfl) ?_
  refine g_u (s_lenL rfl rfl Tryz.underlying72) ?_
  refine g_u (s_mv_imm rfl rfl) ?_
  refine g_nil ?_
  refine normal_thn ?_
  refine aw_block ?_
  refine aw_loop' (fun i : Nat => [(6, .imm (.sl 1 (l.map fnA))), (7, .imm (iv (l.length : Int))), (8, .imm (iv (i : Int)))]) (fun i => i ≤ l.length ∧ firstC (fcodes l) = firstC (fcodes (l.drop i))) (fun i => l.length - i) (0) ?_ ⟨rfl, look_int rfl (by rw [List.length_map]), rfl, trivial⟩ ?_
  · exact ⟨Nat.zero_le _, rfl⟩
  · rintro i ⟨h1, h2⟩; (try dsimp only at h1 h2)
    refine aw_seq ?_
    refine aw_region ?_
    refine g_u (s_ltI rfl rfl rfl) ?_
    refine g_nil ?_
    refine normal_thn ?_
    refine aw_seq ?_
    refine aw_cond rfl (fun hb1 => ?_) (fun hb1 => ?_)
    · skip
      have hi : i < l.length := by have := of_decide_eq_true hb1; (try simp only [List.length_map] at this); omega
      refine aw_skip ?_
      refine normal_thn ?_
      refine aw_seq ?_
      refine aw_block ?_
      refine aw_seq ?_
      refine aw_region ?_
      refine g_u (s_indexAddr rfl rfl rfl Tryz.underlying72 tS55 (by omega) (nth_map (d := fnd) hi)) ?_
      refine g_u (s_load_cp rfl rfl tA55 tS55 rfl rfl) ?_
      refine g_u (s_as_imm rfl rfl) ?_
      refine g_nil ?_
      refine normal_thn ?_
      refine aw_seq ?_
      refine aw_region ?_
      refine g_u (s_mv_imm rfl rfl) ?_
      refine g_u (s_callv1 (hf _ (nth_mem hi)) rfl rfl rfl) ?_
      refine g_u (s_as_imm rfl rfl) ?_
      refine g_nil ?_
      refine normal_thn ?_
      refine aw_seq ?_
      refine aw_region ?_
      refine g_u (s_mv_imm rfl rfl) ?_
      refine g_u (s_neI rfl rfl rfl) ?_
      refine g_nil ?_
      refine normal_thn ?_
      refine aw_cond rfl (fun hb2 => ?_) (fun hb2 => ?_)
      · skip
        have q := bne_iff_ne.1 hb2
        refine aw_seq ?_
        refine aw_region ?_
        refine g_u (s_mv_imm rfl rfl) ?_
        refine g_u (s_as_imm rfl rfl) ?_
        refine g_nil ?_
        refine normal_thn ?_
        refine aw_ret ?_
        refine ret_blk ?_
        refine ret_thn ?_
        refine ret_thn ?_
        refine ret_blk ?_
        refine ret_thn ?_
        exact ⟨⟨(rfl : toAV (Al.look _ _) = some _).trans (congrArg some (by (exact congrArg iv (by first | (rw [h2, firstC_drop hi, orC_pos _ _ q]; done) | (rw [h2, hin, List.drop_length]; rfl))))), rfl⟩, trivial⟩
      · skip
        have q := bne_eq_false_iff_eq.1 hb2
        refine aw_skip ?_
        refine normal_blk ?_
        refine normal_thn ?_
        refine aw_region ?_
        refine g_u (s_add rfl rfl rfl) ?_
        refine g_u (s_mv_imm rfl rfl) ?_
        refine g_nil ?_
        refine normal_thn ?_
        refine ⟨i + 1, ⟨hi, by (try dsimp only); rw [h2, firstC_drop hi, orC_zero _ _ q]⟩, ⟨rfl, rfl, look_int rfl (by rw [wrap64 (by omega) (by omega)]; rfl), trivial⟩, by (try dsimp only); omega⟩
    · skip
      have hin : i = l.length := by have := of_decide_eq_false hb1; (try simp only [List.length_map] at this); omega
      refine aw_exit ?_
      refine exit_thn ?_
      refine exit_thn ?_
      refine exit_blk ?_
      refine normal_thn ?_
      refine aw_seq ?_
      refine aw_region ?_
      refine g_u (s_as_imm rfl rfl) ?_
      refine g_nil ?_
      refine normal_thn ?_
      refine aw_ret ?_
      exact ⟨⟨(rfl : toAV (Al.look _ _) = some _).trans (congrArg some (by (exact congrArg iv (by first | (rw [h2, firstC_drop hi, orC_pos _ _ q]; done) | (rw [h2, hin, List.drop_length]; rfl))))), rfl⟩, trivial⟩

set_option maxHeartbeats 400000 in
theorem ev1_c (e : GE) (ho : e.name.size < 9223372036854775808) : PCall Tryz.prog Γ0 47 [.cp e.av] [iv (nameC e.name)] := by
  refine pcall_of Tryz.func47 rfl Tryz.ntmps47 (by kernel_rfl) rfl fun w0 I0 G0 => ?_
  refine aw_seq ?_
  refine aw_region ?_
  refine g_u (s_as_imm rfl rfl) ?_
  refine g_nil ?_
  refine normal_thn ?_
  refine aw_seq ?_
  refine aw_region ?_
  refine g_u (s_fieldAddr_cp rfl rfl fa42_1 rfl rfl) ?_
  refine g_u (s_load_cp rfl rfl tA9 tS9 rfl rfl) ?_
  refine g_u (s_call1 (words_c _ (by omega)) rfl rfl) ?_
  refine g_u (s_as_imm rfl rfl) ?_
  refine g_nil ?_
  refine normal_thn ?_
  refine aw_ret ?_
  exact ⟨⟨(rfl : toAV (Al.look _ _) = some _).trans (congrArg some (by rfl)), rfl⟩, trivial⟩

set_option maxHeartbeats 400000 in
theorem ev2_c (e : GE) (ho : ∀ a ∈ e.attrs, a.ok) (hw : wtAs e.attrs ≤ 1000000) : PCall Tryz.prog Γ0 48 [.cp e.av] [iv (attrsC e.attrs)] := by
  refine pcall_of Tryz.func48 rfl Tryz.ntmps48 (by kernel_rfl) rfl fun w0 I0 G0 => ?_
  refine aw_seq ?_
  refine aw_region ?_
  refine g_u (s_as_imm rfl rfl) ?_
  refine g_nil ?_
  refine normal_thn ?_
  refine aw_seq ?_
  refine aw_region ?_
  refine g_u (s_fieldAddr_cp rfl rfl fa42_2 rfl rfl) ?_
  refine g_u (s_load_cp rfl rfl tA27 tS27 rfl rfl) ?_
  refine g_u (s_call1 (checkAs_c _ ho (by omega)) rfl rfl) ?_
  refine g_u (s_as_imm rfl rfl) ?_
  refine g_nil ?_
  refine normal_thn ?_
  refine aw_ret ?_
  exact ⟨⟨(rfl : toAV (Al.look _ _) = some _).trans (congrArg some (by rfl)), rfl⟩, trivial⟩

set_option maxHeartbeats 2000000 in
theorem events_c (l : List GE) (ho : ∀ e ∈ l, e.ok) (hw : sumBy GE.wt l ≤ 1000000) : PCall Tryz.prog Γ0 25 [.sl 3 (l.map GE.av)] [iv (evsC l)] := by
  have ql := sumBy_len GE.wt (fun e => by unfold GE.wt; omega) l
  refine pcall_of Tryz.func25 rfl Tryz.ntmps25 (by kernel_rfl) rfl fun w0 I0 G0 => ?_
  refine aw_seq ?_
  refine aw_region ?_
  refine g_u (s_as_imm rfl rfl) ?_
  refine g_nil ?_
  refine normal_thn ?_
  refine aw_scope ?_
  refine aw_seq ?_
  refine aw_seq ?_
  refine aw_region ?_
  refine g_u (s_mv_imm rfl rfl) ?_
  refine g_u (s_lenL rfl rfl Tryz.underlying28) ?_
  refine g_u (s_gtI rfl rfl rfl) ?_
  refine g_nil ?_
  refine normal_thn ?_
  refine aw_cond rfl (fun hb1 => ?_) (fun hb1 => ?_)
  · skip
    have q16 : 16 < l.length := by have := of_decide_eq_true hb1; (try simp only [List.length_map] at this); omega
    refine aw_seq ?_
    refine aw_region ?_
    refine g_u (s_as_imm rfl rfl) ?_
    refine g_nil ?_
    refine normal_thn ?_
    refine aw_ret ?_
    refine ret_thn ?_
    refine ret_scp ?_
    exact ⟨⟨(rfl : toAV (Al.look _ _) = some _).trans (congrArg some (by (exact congrArg iv (by unfold evsC; first | (rw [if_pos q16]; done) | (rw [if_neg q16, h2, hin, List.drop_length]; rfl) | (rw [if_neg q16, h2, E, if_pos qt]; done) | (rw [if_neg q16, h2, E, if_neg qt, orC_pos _ _ (by simpa [firstC, fcodes, orC_right] using q)]; simp [firstC, fcodes, orC_right]; done))))), rfl⟩, trivial⟩
  · skip
    have q16 : ¬ 16 < l.length := by have := of_decide_eq_false hb1; (try simp only [List.length_map] at this); omega
    refine aw_skip ?_
    refine normal_thn ?_
    refine aw_seq ?_
    refine aw_region ?_
    refine g_u (s_as_imm rfl rfl) ?_
    refine g_nil ?_
    refine normal_thn ?_
    refine aw_seq ?_
    refine aw_label ?_
    refine normal_thn ?_
    refine aw_seq ?_
    refine aw_seq ?_
    refine aw_region ?_
    refine g_u (s_mv_imm rfl rfl) ?_
    refine g_u (s_lenL rfl rfl Tryz.underlying28) ?_
    refine g_u (s_mv_imm rfl rfl) ?_
    refine g_nil ?_
    refine normal_thn ?_
    refine aw_block ?_
    refine aw_loop' (fun i : Nat => [(3, .imm (iv 0)), (9, .imm (.sl 3 (l.map GE.av))), (10, .imm (iv (l.length : Int))), (11, .imm (iv (i : Int)))]) (fun i => i ≤ l.length ∧ evC l = evC (l.drop i)) (fun i => l.length - i) (0) ?_ ⟨rfl, rfl, look_int rfl (by rw [List.length_map]), rfl, trivial⟩ ?_
    · exact ⟨Nat.zero_le _, rfl⟩
    · rintro i ⟨h1, h2⟩; (try dsimp only at h1 h2)
      refine aw_seq ?_
      refine aw_region ?_
      refine g_u (s_ltI rfl rfl rfl) ?_
      refine g_nil ?_
      refine normal_thn ?_
      refine aw_seq ?_
      refine aw_cond rfl (fun hb2 => ?_) (fun hb2 => ?_)
      · skip
        have hi : i < l.length := by have := of_decide_eq_true hb2; (try simp only [List.length_map] at this); omega
        have hx := sumBy_mem GE.wt (nthE_mem hi)
        have hx2 : (nthE l i).wt = 1 + (nthE l i).name.size + wtAs (nthE l i).attrs := rfl
        have hxo := ho _ (nthE_mem hi)
        have c1 := ev1_c (nthE l i) (by omega)
        have c2 := ev2_c (nthE l i) hxo.2.2 (by omega)
        have E := evC_drop hi
        refine aw_skip ?_
        refine normal_thn ?_
        refine aw_seq ?_
        refine aw_block ?_
        refine aw_seq ?_
        refine aw_region ?_
        refine g_u (s_indexAddr rfl rfl rfl Tryz.underlying28 tS42 (by omega) (ixE hi)) ?_
        refine g_u (s_load_cp rfl rfl tA42 tS42 rfl rfl) ?_
        refine g_uG (s_alloc' 1005 rfl rfl rfl tZ42) rfl ?_
        refine g_u (s_store_imm rfl rfl rfl tS42 rfl rfl) ?_
        refine g_nil ?_
        refine normal_thn ?_
        refine aw_seq ?_
        refine aw_block ?_
        refine aw_seq ?_
        refine aw_region ?_
        refine g_u (s_fieldAddr rfl rfl fa42_0 rfl) ?_
        refine g_u (s_load_imm rfl rfl rfl tA26 tS26 rfl rfl) ?_
        refine g_u (s_gtI rfl rfl rfl) ?_
        refine g_u (s_as_imm rfl rfl) ?_
        refine g_nil ?_
        refine normal_thn ?_
        refine aw_cond rfl (fun hb3 => ?_) (fun hb3 => ?_)
        · skip
          have qt : 9223372036854775807 < (nthE l i).time := of_decide_eq_true hb3
          refine aw_seq ?_
          refine aw_region ?_
          refine g_u (s_as_imm rfl rfl) ?_
          refine g_nil ?_
          refine normal_thn ?_
          refine aw_exit ?_
          refine exit_blk_ne rfl ?_
          refine exit_thn ?_
          refine exit_blk_ne rfl ?_
          refine exit_thn ?_
          refine exit_thn ?_
          refine exit_blk ?_
          refine normal_thn ?_
          refine aw_seq ?_
          refine aw_region ?_
          refine g_u (s_mv_imm rfl rfl) ?_
          refine g_u (s_as_imm rfl rfl) ?_
          refine g_nil ?_
          refine normal_thn ?_
          refine aw_ret ?_
          refine ret_scp ?_
          exact ⟨⟨(rfl : toAV (Al.look _ _) = some _).trans (congrArg some (by (exact congrArg iv (by unfold evsC; first | (rw [if_pos q16]; done) | (rw [if_neg q16, h2, hin, List.drop_length]; rfl) | (rw [if_neg q16, h2, E, if_pos qt]; done) | (rw [if_neg q16, h2, E, if_neg qt, orC_pos _ _ (by simpa [firstC, fcodes, orC_right] using q)]; simp [firstC, fcodes, orC_right]; done))))), rfl⟩, trivial⟩
        · skip
          have qt : ¬ 9223372036854775807 < (nthE l i).time := of_decide_eq_false hb3
          refine aw_share 1005 rfl rfl ?_
          refine aw_region ?_
          refine g_u (s_makeFunc rfl rfl rfl) ?_
          refine g_u (s_makeFunc rfl rfl rfl) ?_
          refine g_u (s_buildSlice (X0 := z55) rfl Tryz.underlying72 tS55 tZ55 rfl rfl rfl rfl rfl rfl rfl rfl) ?_
          refine g_u (s_call1 (first_c [(47, [], [.cp (nthE l i).av], nameC (nthE l i).name), (48, [], [.cp (nthE l i).av], attrsC (nthE l i).attrs)] (by simp only [List.length_cons, List.length_nil]; omega) (fun x hx => by simp only [List.mem_cons, List.not_mem_nil, or_false] at hx; rcases hx with rfl | rfl <;> assumption)) rfl rfl) ?_
          refine g_u (s_as_imm rfl rfl) ?_
          refine g_nil ?_
          refine normal_blk ?_
          refine normal_thn ?_
          refine aw_seq ?_
          refine aw_region ?_
          refine g_u (s_mv_imm rfl rfl) ?_
          refine g_u (s_neI rfl rfl rfl) ?_
          refine g_nil ?_
          refine normal_thn ?_
          refine aw_cond rfl (fun hb4 => ?_) (fun hb4 => ?_)
          · skip
            have q := bne_iff_ne.1 hb4
            refine aw_exit ?_
            refine exit_blk_ne rfl ?_
            refine exit_thn ?_
            refine exit_thn ?_
            refine exit_blk ?_
            refine normal_thn ?_
            refine aw_seq ?_
            refine aw_region ?_
            refine g_u (s_mv_imm rfl rfl) ?_
            refine g_u (s_as_imm rfl rfl) ?_
            refine g_nil ?_
            refine normal_thn ?_
            refine aw_ret ?_
            refine ret_scp ?_
            exact ⟨⟨(rfl : toAV (Al.look _ _) = some _).trans (congrArg some (by (exact congrArg iv (by unfold evsC; first | (rw [if_pos q16]; done) | (rw [if_neg q16, h2, hin, List.drop_length]; rfl) | (rw [if_neg q16, h2, E, if_pos qt]; done) | (rw [if_neg q16, h2, E, if_neg qt, orC_pos _ _ (by simpa [firstC, fcodes, orC_right] using q)]; simp [firstC, fcodes, orC_right]; done))))), rfl⟩, trivial⟩
          · skip
            have q := bne_eq_false_iff_eq.1 hb4
            refine aw_skip ?_
            refine normal_blk ?_
            refine normal_thn ?_
            refine aw_region ?_
            refine g_u (s_add rfl rfl rfl) ?_
            refine g_u (s_mv_imm rfl rfl) ?_
            refine g_nil ?_
            refine normal_thn ?_
            refine ⟨i + 1, ⟨hi, by (try dsimp only); rw [h2, E, if_neg qt]; exact orC_zero _ _ (by simpa [firstC, fcodes, orC_right] using q)⟩, ⟨look_int rfl q, rfl, rfl, look_int rfl (by rw [wrap64 (by omega) (by omega)]; rfl), trivial⟩, by (try dsimp only); omega⟩
      · skip
        have hin : i = l.length := by have := of_decide_eq_false hb2; (try simp only [List.length_map] at this); omega
        refine aw_exit ?_
        refine exit_thn ?_
        refine exit_thn ?_
        refine exit_blk ?_
        refine normal_thn ?_
        refine aw_seq ?_
        refine aw_region ?_
        refine g_u (s_mv_imm rfl rfl) ?_
        refine g_u (s_as_imm rfl rfl) ?_
        refine g_nil ?_
        refine normal_thn ?_
        refine aw_ret ?_
        refine ret_scp ?_
        exact ⟨⟨(rfl : toAV (Al.look _ _) = some _).trans (congrArg some (by (exact congrArg iv (by unfold evsC; first | (rw [if_pos q16]; done) | (rw [if_neg q16, h2, hin, List.drop_length]; rfl) | (rw [if_neg q16, h2, E, if_pos qt]; done) | (rw [if_neg q16, h2, E, if_neg qt, orC_pos _ _ (by simpa [firstC, fcodes, orC_right] using q)]; simp [firstC, fcodes, orC_right]; done))))), rfl⟩, trivial⟩

set_option maxHeartbeats 400000 in
theorem lk1_c (e : GL) (h1 : e.trace.length = 16) (h2 : e.span.length = 8) : PCall Tryz.prog Γ0 49 [.cp e.av] [iv (if zeros e.trace || zeros e.span then 10 else 0)] := by
  refine pcall_of Tryz.func49 rfl Tryz.ntmps49 (by kernel_rfl) rfl fun w0 I0 G0 => ?_
  refine aw_seq ?_
  refine aw_region ?_
  refine g_u (s_as_imm rfl rfl) ?_
  refine g_nil ?_
  refine normal_thn ?_
  refine aw_seq ?_
  refine aw_region ?_
  refine g_u (s_fieldAddr_cp rfl rfl fa44_0 rfl rfl) ?_
  refine g_u (s_load_cp rfl rfl tA23 tS23 rfl rfl) ?_
  refine g_u (s_build_arr rfl tU23 Tryz.underlying23 tS5 rfl rfl rfl rfl) ?_
  refine g_u (s_eqA rfl rfl rfl eg23 rfl rfl (eq23 _ _)) ?_
  refine g_u (s_mv_imm rfl rfl) ?_
  refine g_case (t := 6) rfl ?_
  rintro (hb1 | hb1)
  · rw [hb1]
    have q : zeros e.trace = true := by have e := hb1; rw [zeros_beq h1] at e; exact e
    refine g_skip rfl rfl rfl ?_
    refine g_skip rfl rfl rfl ?_
    refine g_skip rfl rfl rfl ?_
    refine g_skip rfl rfl rfl ?_
    refine g_u (s_pick_t rfl rfl rfl) ?_
    refine g_u (s_call1 (when_c _ _) rfl rfl) ?_
    refine g_u (s_as_imm rfl rfl) ?_
    refine g_nil ?_
    refine normal_thn ?_
    refine aw_ret ?_
    exact ⟨⟨(rfl : toAV (Al.look _ _) = some _).trans (congrArg some (by (exact congrArg iv (by first | (rw [q, zeros_beq h2, Bool.false_or]; done) | (rw [q, Bool.true_or]; done) | (rw [q, Bool.true_or]; rfl))))), rfl⟩, trivial⟩
  · rw [hb1]
    have q : zeros e.trace = false := by have e := hb1; rw [zeros_beq h1] at e; exact e
    refine g_run rfl rfl (s_fieldAddr_cp rfl rfl fa44_1 rfl rfl) ?_
    refine g_run rfl rfl (s_load_cp rfl rfl tA25 tS25 rfl rfl) ?_
    refine g_run rfl rfl (s_build_arr rfl tU25 Tryz.underlying25 tS5 rfl rfl rfl rfl) ?_
    refine g_run rfl rfl (s_eqA rfl rfl rfl eg25 rfl rfl (eq25 _ _)) ?_
    refine g_u (s_pick_f rfl rfl rfl) ?_
    refine g_u (s_call1 (when_c _ _) rfl rfl) ?_
    refine g_u (s_as_imm rfl rfl) ?_
    refine g_nil ?_
    refine normal_thn ?_
    refine aw_ret ?_
    exact ⟨⟨(rfl : toAV (Al.look _ _) = some _).trans (congrArg some (by (exact congrArg iv (by first | (rw [q, zeros_beq h2, Bool.false_or]; done) | (rw [q, Bool.true_or]; done) | (rw [q, Bool.true_or]; rfl))))), rfl⟩, trivial⟩

set_option maxHeartbeats 400000 in
theorem lk2_c (e : GL) (ho : e.state.size < 9223372036854775808) : PCall Tryz.prog Γ0 50 [.cp e.av] [iv (nameC e.state)] := by
  refine pcall_of Tryz.func50 rfl Tryz.ntmps50 (by kernel_rfl) rfl fun w0 I0 G0 => ?_
  refine aw_seq ?_
  refine aw_region ?_
  refine g_u (s_as_imm rfl rfl) ?_
  refine g_nil ?_
  refine normal_thn ?_
  refine aw_seq ?_
  refine aw_region ?_
  refine g_u (s_fieldAddr_cp rfl rfl fa44_2 rfl rfl) ?_
  refine g_u (s_load_cp rfl rfl tA9 tS9 rfl rfl) ?_
  refine g_u (s_call1 (words_c _ (by omega)) rfl rfl) ?_
  refine g_u (s_as_imm rfl rfl) ?_
  refine g_nil ?_
  refine normal_thn ?_
  refine aw_ret ?_
  exact ⟨⟨(rfl : toAV (Al.look _ _) = some _).trans (congrArg some (by rfl)), rfl⟩, trivial⟩

set_option maxHeartbeats 400000 in
theorem lk3_c (e : GL) (ho : ∀ a ∈ e.attrs, a.ok) (hw : wtAs e.attrs ≤ 1000000) : PCall Tryz.prog Γ0 51 [.cp e.av] [iv (attrsC e.attrs)] := by
  refine pcall_of Tryz.func51 rfl Tryz.ntmps51 (by kernel_rfl) rfl fun w0 I0 G0 => ?_
  refine aw_seq ?_
  refine aw_region ?_
  refine g_u (s_as_imm rfl rfl) ?_
  refine g_nil ?_
  refine normal_thn ?_
  refine aw_seq ?_
  refine aw_region ?_
  refine g_u (s_fieldAddr_cp rfl rfl fa44_3 rfl rfl) ?_
  refine g_u (s_load_cp rfl rfl tA27 tS27 rfl rfl) ?_
  refine g_u (s_call1 (checkAs_c _ ho (by omega)) rfl rfl) ?_
  refine g_u (s_as_imm rfl rfl) ?_
  refine g_nil ?_
  refine normal_thn ?_
  refine aw_ret ?_
  exact ⟨⟨(rfl : toAV (Al.look _ _) = some _).trans (congrArg some (by rfl)), rfl⟩, trivial⟩

set_option maxHeartbeats 4000000 in
theorem links_c (l : List GL) (ho : ∀ e ∈ l, e.ok) (hw : sumBy GL.wt l ≤ 1000000) : PCall Tryz.prog Γ0 27 [.sl 26 (l.map GL.av)] [iv (lksC l)] := by
  have ql := sumBy_len GL.wt (fun e => by unfold GL.wt; omega) l
  refine pcall_of Tryz.func27 rfl Tryz.ntmps27 (by kernel_rfl) rfl fun w0 I0 G0 => ?_
  refine aw_seq ?_
  refine aw_region ?_
  refine g_u (s_as_imm rfl rfl) ?_
  refine g_nil ?_
  refine normal_thn ?_
  refine aw_scope ?_
  refine aw_seq ?_
  refine aw_seq ?_
  refine aw_region ?_
  refine g_u (s_mv_imm rfl rfl) ?_
  refine g_u (s_lenL rfl rfl Tryz.underlying29) ?_
  refine g_u (s_gtI rfl rfl rfl) ?_
  refine g_nil ?_
  refine normal_thn ?_
  refine aw_cond rfl (fun hb1 => ?_) (fun hb1 => ?_)
  · skip
    have q16 : 16 < l.length := by have := of_decide_eq_true hb1; (try simp only [List.length_map] at this); omega
    refine aw_seq ?_
    refine aw_region ?_
    refine g_u (s_as_imm rfl rfl) ?_
    refine g_nil ?_
    refine normal_thn ?_
    refine aw_ret ?_
    refine ret_thn ?_
    refine ret_scp ?_
    exact ⟨⟨(rfl : toAV (Al.look _ _) = some _).trans (congrArg some (by (exact congrArg iv (by unfold lksC; first | (rw [if_pos q16]; done) | (rw [if_neg q16, h2, hin, List.drop_length]; rfl) | (rw [if_neg q16, h2, E]; rw [EF] at q ⊢; split at q; (rename_i hz; rw [if_pos hz, if_pos hz]); (rename_i hz; rw [if_neg hz, if_neg hz, orC_pos _ _ q])))))), rfl⟩, trivial⟩
  · skip
    have q16 : ¬ 16 < l.length := by have := of_decide_eq_false hb1; (try simp only [List.length_map] at this); omega
    refine aw_skip ?_
    refine normal_thn ?_
    refine aw_seq ?_
    refine aw_region ?_
    refine g_u (s_as_imm rfl rfl) ?_
    refine g_nil ?_
    refine normal_thn ?_
    refine aw_seq ?_
    refine aw_label ?_
    refine normal_thn ?_
    refine aw_seq ?_
    refine aw_seq ?_
    refine aw_region ?_
    refine g_u (s_mv_imm rfl rfl) ?_
    refine g_u (s_lenL rfl rfl Tryz.underlying29) ?_
    refine g_u (s_mv_imm rfl rfl) ?_
    refine g_nil ?_
    refine normal_thn ?_
    refine aw_block ?_
    refine aw_loop' (fun i : Nat => [(3, .imm (iv 0)), (9, .imm (.sl 26 (l.map GL.av))), (10, .imm (iv (l.length : Int))), (11, .imm (iv (i : Int)))]) (fun i => i ≤ l.length ∧ lkC l = lkC (l.drop i)) (fun i => l.length - i) (0) ?_ ⟨rfl, rfl, look_int rfl (by rw [List.length_map]), rfl, trivial⟩ ?_
    · exact ⟨Nat.zero_le _, rfl⟩
    · rintro i ⟨h1, h2⟩; (try dsimp only at h1 h2)
      refine aw_seq ?_
      refine aw_region ?_
      refine g_u (s_ltI rfl rfl rfl) ?_
      refine g_nil ?_
      refine normal_thn ?_
      refine aw_seq ?_
      refine aw_cond rfl (fun hb2 => ?_) (fun hb2 => ?_)
      · skip
        have hi : i < l.length := by have := of_decide_eq_true hb2; (try simp only [List.length_map] at this); omega
        have hx := sumBy_mem GL.wt (nthL_mem hi)
        have hx2 : (nthL l i).wt = 1 + (nthL l i).state.size + wtAs (nthL l i).attrs := rfl
        have hxo := ho _ (nthL_mem hi)
        have c1 := lk1_c (nthL l i) hxo.1 hxo.2.1
        have c2 := lk2_c (nthL l i) (by omega)
        have c3 := lk3_c (nthL l i) hxo.2.2.2 (by omega)
        have E := lkC_drop hi
        have EF : firstC (fcodes [(49, [], [.cp (nthL l i).av], (if zeros (nthL l i).trace || zeros (nthL l i).span then 10 else 0)), (50, [], [.cp (nthL l i).av], nameC (nthL l i).state), (51, [], [.cp (nthL l i).av], attrsC (nthL l i).attrs)]) = if zeros (nthL l i).trace || zeros (nthL l i).span then 10 else orC (nameC (nthL l i).state) (attrsC (nthL l i).attrs) := by show orC (if zeros (nthL l i).trace || zeros (nthL l i).span then 10 else 0) (orC (nameC (nthL l i).state) (orC (attrsC (nthL l i).attrs) 0)) = _; rw [orC_right]; split; exact orC_pos _ _ (by decide); exact orC_zero _ _ rfl
        refine aw_skip ?_
        refine normal_thn ?_
        refine aw_seq ?_
        refine aw_block ?_
        refine aw_seq ?_
        refine aw_region ?_
        refine g_u (s_indexAddr rfl rfl rfl Tryz.underlying29 tS44 (by omega) (ixL hi)) ?_
        refine g_u (s_load_cp rfl rfl tA44 tS44 rfl (by first | exact getS_w (GL.width _) rfl | rfl)) ?_
        refine g_uG (s_alloc' 1005 rfl rfl rfl tZ44) rfl ?_
        refine g_u (s_store_imm rfl rfl rfl tS44 (by first | exact beqW (GL.width _) | rfl) (by first | exact setS_w (z44_w.trans (GL.width _).symm) rfl | rfl)) ?_
        refine g_nil ?_
        refine normal_thn ?_
        refine aw_seq ?_
        refine aw_share 1005 rfl rfl ?_
        refine aw_region ?_
        refine g_u (s_makeFunc rfl rfl rfl) ?_
        refine g_u (s_makeFunc rfl rfl rfl) ?_
        refine g_u (s_makeFunc rfl rfl rfl) ?_
        refine g_u (s_buildSlice (X0 := z55) rfl Tryz.underlying72 tS55 tZ55 rfl rfl rfl rfl rfl rfl rfl rfl) ?_
        refine g_u (s_call1 (first_c [(49, [], [.cp (nthL l i).av], (if zeros (nthL l i).trace || zeros (nthL l i).span then 10 else 0)), (50, [], [.cp (nthL l i).av], nameC (nthL l i).state), (51, [], [.cp (nthL l i).av], attrsC (nthL l i).attrs)] (by simp only [List.length_cons, List.length_nil]; omega) (fun x hx => by simp only [List.mem_cons, List.not_mem_nil, or_false] at hx; rcases hx with rfl | rfl | rfl <;> assumption)) rfl rfl) ?_
        refine g_u (s_as_imm rfl rfl) ?_
        refine g_nil ?_
        refine normal_thn ?_
        refine aw_seq ?_
        refine aw_region ?_
        refine g_u (s_mv_imm rfl rfl) ?_
        refine g_u (s_neI rfl rfl rfl) ?_
        refine g_nil ?_
        refine normal_thn ?_
        refine aw_cond rfl (fun hb3 => ?_) (fun hb3 => ?_)
        · skip
          have q := bne_iff_ne.1 hb3
          refine aw_exit ?_
          refine exit_blk_ne rfl ?_
          refine exit_thn ?_
          refine exit_thn ?_
          refine exit_blk ?_
          refine normal_thn ?_
          refine aw_seq ?_
          refine aw_region ?_
          refine g_u (s_mv_imm rfl rfl) ?_
          refine g_u (s_as_imm rfl rfl) ?_
          refine g_nil ?_
          refine normal_thn ?_
          refine aw_ret ?_
          refine ret_scp ?_
          exact ⟨⟨(rfl : toAV (Al.look _ _) = some _).trans (congrArg some (by (exact congrArg iv (by unfold lksC; first | (rw [if_pos q16]; done) | (rw [if_neg q16, h2, hin, List.drop_length]; rfl) | (rw [if_neg q16, h2, E]; rw [EF] at q ⊢; split at q; (rename_i hz; rw [if_pos hz, if_pos hz]); (rename_i hz; rw [if_neg hz, if_neg hz, orC_pos _ _ q])))))), rfl⟩, trivial⟩
        · skip
          have q := bne_eq_false_iff_eq.1 hb3
          refine aw_skip ?_
          refine normal_blk ?_
          refine normal_thn ?_
          refine aw_region ?_
          refine g_u (s_add rfl rfl rfl) ?_
          refine g_u (s_mv_imm rfl rfl) ?_
          refine g_nil ?_
          refine normal_thn ?_
          have qz := q
          rw [EF] at qz
          refine ⟨i + 1, ⟨hi, by (try dsimp only); rw [h2, E]; split at qz; (exact absurd qz (by decide)); (rename_i hz; rw [if_neg hz, orC_zero _ _ qz])⟩, ⟨look_int rfl q, rfl, rfl, look_int rfl (by rw [wrap64 (by omega) (by omega)]; rfl), trivial⟩, by (try dsimp only); omega⟩
      · skip
        have hin : i = l.length := by have := of_decide_eq_false hb2; (try simp only [List.length_map] at this); omega
        refine aw_exit ?_
        refine exit_thn ?_
        refine exit_thn ?_
        refine exit_blk ?_
        refine normal_thn ?_
        refine aw_seq ?_
        refine aw_region ?_
        refine g_u (s_mv_imm rfl rfl) ?_
        refine g_u (s_as_imm rfl rfl) ?_
        refine g_nil ?_
        refine normal_thn ?_
        refine aw_ret ?_
        refine ret_scp ?_
        exact ⟨⟨(rfl : toAV (Al.look _ _) = some _).trans (congrArg some (by (exact congrArg iv (by unfold lksC; first | (rw [if_pos q16]; done) | (rw [if_neg q16, h2, hin, List.drop_length]; rfl) | (rw [if_neg q16, h2, E]; rw [EF] at q ⊢; split at q; (rename_i hz; rw [if_pos hz, if_pos hz]); (rename_i hz; rw [if_neg hz, if_neg hz, orC_pos _ _ q])))))), rfl⟩, trivial⟩

end Go.Proofs

namespace Go.Proofs
open Go Go.Al
set_option maxRecDepth 10000
set_option maxHeartbeats 1000000 in
theorem ck1_c (s : GSpan) (h1 : s.trace.length = 16) (h2 : s.id.length = 8) : PCall Tryz.prog Γ0 15 [.cp s.av] [iv (if zeros s.trace || zeros s.id then 10 else 0)] := by
  refine pcall_of Tryz.func15 rfl Tryz.ntmps15 (by kernel_rfl) rfl fun w0 I0 G0 => ?_
  refine aw_seq ?_
  refine aw_region ?_
  refine g_u (s_as_imm rfl rfl) ?_
  refine g_nil ?_
  refine normal_thn ?_
  refine aw_seq ?_
  refine aw_region ?_
  refine g_u (s_fieldAddr_cp rfl rfl fa33_0 rfl rfl) ?_
  refine g_u (s_load_cp rfl rfl tA23 tS23 rfl rfl) ?_
  refine g_u (s_build_arr rfl tU23 Tryz.underlying23 tS5 rfl rfl rfl rfl) ?_
  refine g_u (s_eqA rfl rfl rfl eg23 rfl rfl (eq23 _ _)) ?_
  refine g_u (s_mv_imm rfl rfl) ?_
  refine g_case (t := 6) rfl ?_
  rintro (hb1 | hb1)
  · rw [hb1]
    have q : zeros s.trace = true := by have e := hb1; rw [zeros_beq h1] at e; exact e
    refine g_skip rfl rfl rfl ?_
    refine g_skip rfl rfl rfl ?_
    refine g_skip rfl rfl rfl ?_
    refine g_skip rfl rfl rfl ?_
    refine g_u (s_pick_t rfl rfl rfl) ?_
    refine g_u (s_call1 (when_c _ _) rfl rfl) ?_
    refine g_u (s_as_imm rfl rfl) ?_
    refine g_nil ?_
    refine normal_thn ?_
    refine aw_ret ?_
    exact ⟨⟨(rfl : toAV (Al.look _ _) = some _).trans (congrArg some (by (exact congrArg iv (by first | (rw [q, zeros_beq h2, Bool.false_or]; done) | (rw [q, Bool.true_or]; done) | (rw [q, Bool.true_or]; rfl))))), rfl⟩, trivial⟩
  · rw [hb1]
    have q : zeros s.trace = false := by have e := hb1; rw [zeros_beq h1] at e; exact e
    refine g_run rfl rfl (s_fieldAddr_cp rfl rfl fa33_1 rfl rfl) ?_
    refine g_run rfl rfl (s_load_cp rfl rfl tA25 tS25 rfl rfl) ?_
    refine g_run rfl rfl (s_build_arr rfl tU25 Tryz.underlying25 tS5 rfl rfl rfl rfl) ?_
    refine g_run rfl rfl (s_eqA rfl rfl rfl eg25 rfl rfl (eq25 _ _)) ?_
    refine g_u (s_pick_f rfl rfl rfl) ?_
    refine g_u (s_call1 (when_c _ _) rfl rfl) ?_
    refine g_u (s_as_imm rfl rfl) ?_
    refine g_nil ?_
    refine normal_thn ?_
    refine aw_ret ?_
    exact ⟨⟨(rfl : toAV (Al.look _ _) = some _).trans (congrArg some (by (exact congrArg iv (by first | (rw [q, zeros_beq h2, Bool.false_or]; done) | (rw [q, Bool.true_or]; done) | (rw [q, Bool.true_or]; rfl))))), rfl⟩, trivial⟩

set_option maxHeartbeats 1000000 in
theorem ck2_c (s : GSpan) (ht : s.state.size < 9223372036854775808) : PCall Tryz.prog Γ0 17 [.cp s.av] [iv (nameC s.state)] := by
  refine pcall_of Tryz.func17 rfl Tryz.ntmps17 (by kernel_rfl) rfl fun w0 I0 G0 => ?_
  refine aw_seq ?_
  refine aw_region ?_
  refine g_u (s_as_imm rfl rfl) ?_
  refine g_nil ?_
  refine normal_thn ?_
  refine aw_seq ?_
  refine aw_region ?_
  refine g_u (s_fieldAddr_cp rfl rfl fa33_3 rfl rfl) ?_
  refine g_u (s_load_cp rfl rfl tA9 tS9 rfl rfl) ?_
  refine g_u (s_call1 (words_c _ (by omega)) rfl rfl) ?_
  refine g_u (s_as_imm rfl rfl) ?_
  refine g_nil ?_
  refine normal_thn ?_
  refine aw_ret ?_
  exact ⟨⟨(rfl : toAV (Al.look _ _) = some _).trans (congrArg some (by rfl)), rfl⟩, trivial⟩

set_option maxHeartbeats 1000000 in
theorem ck3_c (s : GSpan) (ht : s.name.size < 9223372036854775808) : PCall Tryz.prog Γ0 19 [.cp s.av] [iv (nameC s.name)] := by
  refine pcall_of Tryz.func19 rfl Tryz.ntmps19 (by kernel_rfl) rfl fun w0 I0 G0 => ?_
  refine aw_seq ?_
  refine aw_region ?_
  refine g_u (s_as_imm rfl rfl) ?_
  refine g_nil ?_
  refine normal_thn ?_
  refine aw_seq ?_
  refine aw_region ?_
  refine g_u (s_fieldAddr_cp rfl rfl fa33_4 rfl rfl) ?_
  refine g_u (s_load_cp rfl rfl tA9 tS9 rfl rfl) ?_
  refine g_u (s_call1 (words_c _ (by omega)) rfl rfl) ?_
  refine g_u (s_as_imm rfl rfl) ?_
  refine g_nil ?_
  refine normal_thn ?_
  refine aw_ret ?_
  exact ⟨⟨(rfl : toAV (Al.look _ _) = some _).trans (congrArg some (by rfl)), rfl⟩, trivial⟩

set_option maxHeartbeats 1000000 in
theorem ck9_c (s : GSpan) (ht : s.note.size < 9223372036854775808) : PCall Tryz.prog Γ0 29 [.cp s.av] [iv (nameC s.note)] := by
  refine pcall_of Tryz.func29 rfl Tryz.ntmps29 (by kernel_rfl) rfl fun w0 I0 G0 => ?_
  refine aw_seq ?_
  refine aw_region ?_
  refine g_u (s_as_imm rfl rfl) ?_
  refine g_nil ?_
  refine normal_thn ?_
  refine aw_seq ?_
  refine aw_region ?_
  refine g_u (s_fieldAddr_cp rfl rfl fa33_11 rfl rfl) ?_
  refine g_u (s_fieldAddr_cp rfl rfl fa31_1 rfl rfl) ?_
  refine g_u (s_load_cp rfl rfl tA9 tS9 rfl rfl) ?_
  refine g_u (s_call1 (words_c _ (by omega)) rfl rfl) ?_
  refine g_u (s_as_imm rfl rfl) ?_
  refine g_nil ?_
  refine normal_thn ?_
  refine aw_ret ?_
  exact ⟨⟨(rfl : toAV (Al.look _ _) = some _).trans (congrArg some (by rfl)), rfl⟩, trivial⟩

set_option maxHeartbeats 1000000 in
theorem ck4_c (s : GSpan) : PCall Tryz.prog Γ0 20 [.cp s.av] [iv (if s.kind < 0 ∨ 5 < s.kind then 7 else 0)] := by
  refine pcall_of Tryz.func20 rfl Tryz.ntmps20 (by kernel_rfl) rfl fun w0 I0 G0 => ?_
  refine aw_seq ?_
  refine aw_region ?_
  refine g_u (s_as_imm rfl rfl) ?_
  refine g_nil ?_
  refine normal_thn ?_
  refine aw_seq ?_
  refine aw_region ?_
  refine g_u (s_fieldAddr_cp rfl rfl fa33_5 rfl rfl) ?_
  refine g_u (s_load_cp rfl rfl tA3 tS3 rfl rfl) ?_
  refine g_u (s_ltI rfl rfl rfl) ?_
  refine g_u (s_mv_imm rfl rfl) ?_
  refine g_case (t := 5) rfl ?_
  rintro (hb1 | hb1)
  · rw [hb1]
    have q : s.kind < 0 := of_decide_eq_true hb1
    refine g_skip rfl rfl rfl ?_
    refine g_skip rfl rfl rfl ?_
    refine g_skip rfl rfl rfl ?_
    refine g_u (s_pick_t rfl rfl rfl) ?_
    refine g_u (s_call1 (when_c _ _) rfl rfl) ?_
    refine g_u (s_as_imm rfl rfl) ?_
    refine g_nil ?_
    refine normal_thn ?_
    refine aw_ret ?_
    exact ⟨⟨(rfl : toAV (Al.look _ _) = some _).trans (congrArg some (by (exact congrArg iv (by first | (rw [if_pos (Or.inl q)]; done) | (rw [if_pos (Or.inl q)]; rfl) | (simp only [decide_eq_true_eq, gt_iff_lt]; (repeat' split) <;> omega))))), rfl⟩, trivial⟩
  · rw [hb1]
    have q : ¬ s.kind < 0 := of_decide_eq_false hb1
    refine g_run rfl rfl (s_fieldAddr_cp rfl rfl fa33_5 rfl rfl) ?_
    refine g_run rfl rfl (s_load_cp rfl rfl tA3 tS3 rfl rfl) ?_
    refine g_run rfl rfl (s_gtI rfl rfl rfl) ?_
    refine g_u (s_pick_f rfl rfl rfl) ?_
    refine g_u (s_call1 (when_c _ _) rfl rfl) ?_
    refine g_u (s_as_imm rfl rfl) ?_
    refine g_nil ?_
    refine normal_thn ?_
    refine aw_ret ?_
    exact ⟨⟨(rfl : toAV (Al.look _ _) = some _).trans (congrArg some (by (exact congrArg iv (by first | (rw [if_pos (Or.inl q)]; done) | (rw [if_pos (Or.inl q)]; rfl) | (simp only [decide_eq_true_eq, gt_iff_lt]; (repeat' split) <;> omega))))), rfl⟩, trivial⟩

set_option maxHeartbeats 1000000 in
theorem ck8_c (s : GSpan) : PCall Tryz.prog Γ0 28 [.cp s.av] [iv (if s.code < 0 ∨ 2 < s.code then 7 else 0)] := by
  refine pcall_of Tryz.func28 rfl Tryz.ntmps28 (by kernel_rfl) rfl fun w0 I0 G0 => ?_
  refine aw_seq ?_
  refine aw_region ?_
  refine g_u (s_as_imm rfl rfl) ?_
  refine g_nil ?_
  refine normal_thn ?_
  refine aw_seq ?_
  refine aw_region ?_
  refine g_u (s_fieldAddr_cp rfl rfl fa33_11 rfl rfl) ?_
  refine g_u (s_fieldAddr_cp rfl rfl fa31_0 rfl rfl) ?_
  refine g_u (s_load_cp rfl rfl tA3 tS3 rfl rfl) ?_
  refine g_u (s_ltI rfl rfl rfl) ?_
  refine g_u (s_mv_imm rfl rfl) ?_
  refine g_case (t := 6) rfl ?_
  rintro (hb1 | hb1)
  · rw [hb1]
    have q : s.code < 0 := of_decide_eq_true hb1
    refine g_skip rfl rfl rfl ?_
    refine g_skip rfl rfl rfl ?_
    refine g_skip rfl rfl rfl ?_
    refine g_skip rfl rfl rfl ?_
    refine g_u (s_pick_t rfl rfl rfl) ?_
    refine g_u (s_call1 (when_c _ _) rfl rfl) ?_
    refine g_u (s_as_imm rfl rfl) ?_
    refine g_nil ?_
    refine normal_thn ?_
    refine aw_ret ?_
    exact ⟨⟨(rfl : toAV (Al.look _ _) = some _).trans (congrArg some (by (exact congrArg iv (by first | (rw [if_pos (Or.inl q)]; done) | (rw [if_pos (Or.inl q)]; rfl) | (simp only [decide_eq_true_eq, gt_iff_lt]; (repeat' split) <;> omega))))), rfl⟩, trivial⟩
  · rw [hb1]
    have q : ¬ s.code < 0 := of_decide_eq_false hb1
    refine g_run rfl rfl (s_fieldAddr_cp rfl rfl fa33_11 rfl rfl) ?_
    refine g_run rfl rfl (s_fieldAddr_cp rfl rfl fa31_0 rfl rfl) ?_
    refine g_run rfl rfl (s_load_cp rfl rfl tA3 tS3 rfl rfl) ?_
    refine g_run rfl rfl (s_gtI rfl rfl rfl) ?_
    refine g_u (s_pick_f rfl rfl rfl) ?_
    refine g_u (s_call1 (when_c _ _) rfl rfl) ?_
    refine g_u (s_as_imm rfl rfl) ?_
    refine g_nil ?_
    refine normal_thn ?_
    refine aw_ret ?_
    exact ⟨⟨(rfl : toAV (Al.look _ _) = some _).trans (congrArg some (by (exact congrArg iv (by first | (rw [if_pos (Or.inl q)]; done) | (rw [if_pos (Or.inl q)]; rfl) | (simp only [decide_eq_true_eq, gt_iff_lt]; (repeat' split) <;> omega))))), rfl⟩, trivial⟩

set_option maxHeartbeats 1000000 in
theorem ck5_c (s : GSpan) (ho : ∀ a ∈ s.attrs, a.ok) (hw : wtAs s.attrs ≤ 1000000) : PCall Tryz.prog Γ0 22 [.cp s.av] [iv (attrsC s.attrs)] := by
  refine pcall_of Tryz.func22 rfl Tryz.ntmps22 (by kernel_rfl) rfl fun w0 I0 G0 => ?_
  refine aw_seq ?_
  refine aw_region ?_
  refine g_u (s_as_imm rfl rfl) ?_
  refine g_nil ?_
  refine normal_thn ?_
  refine aw_seq ?_
  refine aw_region ?_
  refine g_u (s_fieldAddr_cp rfl rfl fa33_8 rfl rfl) ?_
  refine g_u (s_load_cp rfl rfl tA27 tS27 rfl rfl) ?_
  refine g_u (s_call1 (checkAs_c _ ho (by omega)) rfl rfl) ?_
  refine g_u (s_as_imm rfl rfl) ?_
  refine g_nil ?_
  refine normal_thn ?_
  refine aw_ret ?_
  exact ⟨⟨(rfl : toAV (Al.look _ _) = some _).trans (congrArg some (by rfl)), rfl⟩, trivial⟩

set_option maxHeartbeats 1000000 in
theorem ck6_c (s : GSpan) (ho : ∀ e ∈ s.events, e.ok) (hw : sumBy GE.wt s.events ≤ 1000000) : PCall Tryz.prog Γ0 24 [.cp s.av] [iv (evsC s.events)] := by
  refine pcall_of Tryz.func24 rfl Tryz.ntmps24 (by kernel_rfl) rfl fun w0 I0 G0 => ?_
  refine aw_seq ?_
  refine aw_region ?_
  refine g_u (s_as_imm rfl rfl) ?_
  refine g_nil ?_
  refine normal_thn ?_
  refine aw_seq ?_
  refine aw_region ?_
  refine g_u (s_fieldAddr_cp rfl rfl fa33_9 rfl rfl) ?_
  refine g_u (s_load_cp rfl rfl tA28 tS28 rfl rfl) ?_
  refine g_u (s_call1 (events_c _ ho (by omega)) rfl rfl) ?_
  refine g_u (s_as_imm rfl rfl) ?_
  refine g_nil ?_
  refine normal_thn ?_
  refine aw_ret ?_
  exact ⟨⟨(rfl : toAV (Al.look _ _) = some _).trans (congrArg some (by rfl)), rfl⟩, trivial⟩

set_option maxHeartbeats 1000000 in
theorem ck7_c (s : GSpan) (ho : ∀ e ∈ s.links, e.ok) (hw : sumBy GL.wt s.links ≤ 1000000) : PCall Tryz.prog Γ0 26 [.cp s.av] [iv (lksC s.links)] := by
  refine pcall_of Tryz.func26 rfl Tryz.ntmps26 (by kernel_rfl) rfl fun w0 I0 G0 => ?_
  refine aw_seq ?_
  refine aw_region ?_
  refine g_u (s_as_imm rfl rfl) ?_
  refine g_nil ?_
  refine normal_thn ?_
  refine aw_seq ?_
  refine aw_region ?_
  refine g_u (s_fieldAddr_cp rfl rfl fa33_10 rfl rfl) ?_
  refine g_u (s_load_cp rfl rfl tA29 tS29 rfl rfl) ?_
  refine g_u (s_call1 (links_c _ ho (by omega)) rfl rfl) ?_
  refine g_u (s_as_imm rfl rfl) ?_
  refine g_nil ?_
  refine normal_thn ?_
  refine aw_ret ?_
  exact ⟨⟨(rfl : toAV (Al.look _ _) = some _).trans (congrArg some (by rfl)), rfl⟩, trivial⟩

set_option maxHeartbeats 8000000 in
theorem spanCheck_c (s : GSpan) (ho : s.ok) (hw : s.wt ≤ 1000000) : PCall Tryz.prog Γ0 6 [s.av] [iv (spanOk s)] := by
  have qw : s.wt = 1 + s.state.size + s.name.size + s.note.size + wtAs s.attrs + sumBy GE.wt s.events + sumBy GL.wt s.links := rfl
  have ql := sumBy_len GE.wt (fun e => by unfold GE.wt; omega) s.events
  have qm := sumBy_len GL.wt (fun e => by unfold GL.wt; omega) s.links
  obtain ⟨⟨o1, o2, o3⟩, ⟨o4, o5, o6⟩, o7, ho8, ho9, ho10⟩ := ho
  have c1 := ck1_c s o1 o2
  have c2 := ck2_c s (by omega)
  have c3 := ck3_c s (by omega)
  have c4 := ck4_c s
  have c5 : PCall Tryz.prog Γ0 21 ([.agg [uv s.start, uv s.fin]] ++ [] ++ []) [iv (rgCheckM ⟨s.start, s.fin⟩)] := rgCheck_c ⟨s.start, s.fin⟩
  have c6 := ck5_c s ho8 (by omega)
  have c7 := ck6_c s ho9 (by omega)
  have c8 := ck7_c s ho10 (by omega)
  have c9 := ck8_c s
  have c10 := ck9_c s (by omega)
  refine pcall_of Tryz.func6 rfl Tryz.ntmps6 (by kernel_rfl) rfl fun w0 I0 G0 => ?_
  refine aw_seq ?_
  refine aw_region ?_
  refine g_uG (s_box_imm 1001 rfl rfl rfl rfl) rfl ?_
  refine g_u (s_as_imm rfl rfl) ?_
  refine g_nil ?_
  refine normal_thn ?_
  refine aw_seq ?_
  refine aw_share 1001 rfl rfl ?_
  refine aw_region ?_
  refine g_u (s_makeFunc rfl rfl rfl) ?_
  refine g_u (s_makeFunc rfl rfl rfl) ?_
  refine g_u (s_makeFunc rfl rfl rfl) ?_
  refine g_u (s_makeFunc rfl rfl rfl) ?_
  refine g_u (s_fieldAddr_cp rfl rfl fa33_6 rfl rfl) ?_
  refine g_u (s_load_cp rfl rfl tA26 tS26 rfl rfl) ?_
  refine g_u (s_fieldAddr_cp rfl rfl fa33_7 rfl rfl) ?_
  refine g_u (s_load_cp rfl rfl tA26 tS26 rfl rfl) ?_
  refine g_u (s_build rfl tU57 us57 pl57 rfl rfl rfl rfl) ?_
  refine g_u (s_makeFunc rfl rfl rfl) ?_
  refine g_u (s_makeFunc rfl rfl rfl) ?_
  refine g_u (s_makeFunc rfl rfl rfl) ?_
  refine g_u (s_makeFunc rfl rfl rfl) ?_
  refine g_u (s_makeFunc rfl rfl rfl) ?_
  refine g_u (s_makeFunc rfl rfl rfl) ?_
  refine g_u (s_buildSlice (X0 := z55) rfl Tryz.underlying72 tS55 tZ55 rfl rfl rfl rfl rfl rfl rfl rfl) ?_
  refine g_u (s_call1 (first_c [(15, [], [.cp s.av], if zeros s.trace || zeros s.id then 10 else 0), (17, [], [.cp s.av], nameC s.state), (19, [], [.cp s.av], nameC s.name), (20, [], [.cp s.av], if s.kind < 0 ∨ 5 < s.kind then 7 else 0), (21, [.agg [uv s.start, uv s.fin]], [], rgCheckM ⟨s.start, s.fin⟩), (22, [], [.cp s.av], attrsC s.attrs), (24, [], [.cp s.av], evsC s.events), (26, [], [.cp s.av], lksC s.links), (28, [], [.cp s.av], if s.code < 0 ∨ 2 < s.code then 7 else 0), (29, [], [.cp s.av], nameC s.note)] (by simp only [List.length_cons, List.length_nil]; omega) (fun x hx => by simp only [List.mem_cons, List.not_mem_nil, or_false] at hx; rcases hx with rfl | rfl | rfl | rfl | rfl | rfl | rfl | rfl | rfl | rfl <;> assumption)) rfl rfl) ?_
  refine g_u (s_as_imm rfl rfl) ?_
  refine g_nil ?_
  refine normal_thn ?_
  refine aw_ret ?_
  exact ⟨⟨(rfl : toAV (Al.look _ _) = some _).trans (congrArg some (by rfl)), rfl⟩, trivial⟩

end Go.Proofs

namespace Go.Al
open Go.RowKit

section
variable {C : Cx} {A : Nat → SV} {d : Nat} {ty : TypeId} {pos : String} {af : Array Edge} {gd : Option (Nat × Bool)} {x y : Operand} {T T' : TypeId}

/-- A byte out of a row of one's own. -/
theorem s_loadByte {g o n : Nat} {l : List UInt8} {T0 : TypeId} (hN : Nat.blt d C.N = true) (h : opS A x = .ptr g o) (hg : A g = .box T0 (.imm (.arr n l))) (hq : tyAgg C.P T = some false) (hn : tySize C.P T = some 1) (ho : o < n) :
    StepU C ⟨some d, .load T x, ty, pos, af, gd⟩ (g :: opR x) [] A [(d, .imm (.v (byteV (l.getD o 0))))] := by
  refine StepU.value rfl hN fun A' G a w hR S => ?_
  have hgA : A' g = .box T0 (.imm (.arr n l)) := (hR g List.mem_cons_self).trans hg
  obtain ⟨c, h1, h2⟩ := S.opS ((opS_congr (fun k hk => hR k (List.mem_cons_of_mem _ hk))).trans h) rfl
  simp only [RepS] at h1
  have hev : a.eval x = .pointer (some ⟨G.blk g, o, none⟩) := by rw [h2, h1]; rfl
  have hb := S.holds g
  rw [hgA] at hb
  simp only [Holds] at hb
  obtain ⟨how, ⟨cs, fr, hb0, hrep, huf⟩, hni⟩ := hb
  simp only [RepS, RepC] at hrep
  obtain ⟨e1, e2⟩ := hrep
  have hol : o < l.length := by omega
  have hcell : w.cell? ⟨G.blk g, o, none⟩ = some (byteV (l.getD o 0)) := by
    simp only [World.cell?, hb0, Option.isSome_none, Bool.false_eq_true, if_false]
    rw [← Array.getElem?_toList, e1, List.getElem?_map, List.getElem?_eq_getElem hol]
    simp [List.getD_eq_getElem?_getD, hol]
  refine ⟨byteV (l.getD o 0), ?_, valS_imm.2 (rep_p _ _ rfl)⟩
  simp only [execOp, Instr.loadAt, Instr.sureAddr, hev, Sem.run_bind, Sem.run_pure, Result.andThen_ok]
  rw [run_loadVar (cs := [byteV (l.getD o 0)]) hq (by simpa using hn) (fun _ => rfl) (fun j hj => by
    have : j = 0 := by simpa using hj
    subst this; simpa using hcell)]
  rfl
end
end Go.Al

namespace Go.Proofs
open Go Go.Al

theorem orC_assoc (a b c : Int) : orC (orC a b) c = orC a (orC b c) := by
  by_cases ha : a = 0
  · rw [orC_zero a b ha, orC_zero a (orC b c) ha]
  · rw [orC_pos a b ha, orC_pos a c ha, orC_pos a (orC b c) ha]
theorem spanOk_eq (s : GSpan) : spanOk s = orC (if zeros s.trace || zeros s.id then 10 else 0) (orC (orC (nameC s.state) (nameC s.name)) (orC (if s.kind < 0 ∨ 5 < s.kind then 7 else 0) (orC (rgCheckM ⟨s.start, s.fin⟩) (orC (orC (attrsC s.attrs) (orC (evsC s.events) (lksC s.links))) (orC (if s.code < 0 ∨ 2 < s.code then 7 else 0) (nameC s.note)))))) := by
  unfold spanOk
  simp only [firstC, orC_right, orC_assoc]
theorem zeros_snoc : ∀ (m : Bs) (x : UInt8), zeros (m ++ [x]) = (zeros m && (x == 0))
  | [], x => by simp [zeros]
  | y :: m, x => by
    have := zeros_snoc m x
    simp only [zeros, List.cons_append, List.all_cons] at this ⊢
    rw [this, Bool.and_assoc]
theorem byte0 (x : UInt8) : (((x.toNat : Nat) : Int) == 0) = (x == 0) := by
  rw [Bool.eq_iff_iff, beq_iff_eq, beq_iff_eq]
  constructor
  · intro h
    have h2 : x.toNat = (0 : UInt8).toNat := by show x.toNat = 0; omega
    exact UInt8.toNat_inj.1 h2
  · rintro rfl; rfl
theorem zeros_take {l : Bs} {i : Nat} (h : i < l.length) : zeros (l.take (i + 1)) = (zeros (l.take i) && ((((l.getD i 0).toNat : Nat) : Int) == 0)) := by
  rw [byte0, ← zeros_snoc]
  congr 1
  rw [List.take_succ_eq_append_getElem h]
  simp [List.getD_eq_getElem?_getD, h]
end Go.Proofs

namespace Go.Proofs
open Go Go.Al
set_option maxRecDepth 10000
set_option maxHeartbeats 400000 in
theorem rname_c (t : ByteArray) (ht : t.size < 9223372036854775808) : PCall Tryz.prog Γ0 9 [sv t] [iv (nameC t)] := by
  have cr := check_range t
  have ce := check_eq t
  refine pcall_of Tryz.func9 rfl Tryz.ntmps9 (by kernel_rfl) rfl fun w0 I0 G0 => ?_
  refine aw_seq ?_
  refine aw_region ?_
  refine g_u (s_as_imm rfl rfl) ?_
  refine g_nil ?_
  refine normal_thn ?_
  refine aw_seq ?_
  refine aw_seq ?_
  refine aw_region ?_
  refine g_u (s_mv_imm rfl rfl) ?_
  refine g_u (s_call1 (rcheck_c _ (by omega)) rfl rfl) ?_
  refine g_u (s_neI rfl rfl rfl) ?_
  refine g_nil ?_
  refine normal_thn ?_
  refine aw_cond rfl (fun hb1 => ?_) (fun hb1 => ?_)
  · skip
    have q := bne_iff_ne.1 hb1
    refine aw_seq ?_
    refine aw_region ?_
    refine g_u (s_as_imm rfl rfl) ?_
    refine g_nil ?_
    refine normal_thn ?_
    refine aw_ret ?_
    refine ret_thn ?_
    exact ⟨⟨(rfl : toAV (Al.look _ _) = some _).trans (congrArg some (by (exact congrArg iv (by unfold nameC; (repeat' split) <;> first | rfl | omega)))), rfl⟩, trivial⟩
  · skip
    have q := bne_eq_false_iff_eq.1 hb1
    refine aw_skip ?_
    refine normal_thn ?_
    refine aw_seq ?_
    refine aw_seq ?_
    refine aw_region ?_
    refine g_u (s_mv_imm rfl rfl) ?_
    refine g_u (s_lenS rfl rfl Tryz.underlying9) ?_
    refine g_u (s_gtI rfl rfl rfl) ?_
    refine g_nil ?_
    refine normal_thn ?_
    refine aw_cond rfl (fun hb2 => ?_) (fun hb2 => ?_)
    · skip
      have q := of_decide_eq_true hb2
      refine aw_seq ?_
      refine aw_region ?_
      refine g_u (s_as_imm rfl rfl) ?_
      refine g_nil ?_
      refine normal_thn ?_
      refine aw_ret ?_
      refine ret_thn ?_
      exact ⟨⟨(rfl : toAV (Al.look _ _) = some _).trans (congrArg some (by (exact congrArg iv (by unfold nameC; (repeat' split) <;> first | rfl | omega)))), rfl⟩, trivial⟩
    · skip
      have q := of_decide_eq_false hb2
      refine aw_skip ?_
      refine normal_thn ?_
      refine aw_seq ?_
      refine aw_region ?_
      refine g_u (s_as_imm rfl rfl) ?_
      refine g_nil ?_
      refine normal_thn ?_
      refine aw_ret ?_
      exact ⟨⟨(rfl : toAV (Al.look _ _) = some _).trans (congrArg some (by (exact congrArg iv (by unfold nameC; (repeat' split) <;> first | rfl | omega)))), rfl⟩, trivial⟩

set_option maxHeartbeats 400000 in
theorem or_c (a b : Int) : PCall Tryz.prog Γ0 31 [iv a, iv b] [iv (orC a b)] := by
  refine pcall_of Tryz.func31 rfl Tryz.ntmps31 (by kernel_rfl) rfl fun w0 I0 G0 => ?_
  refine aw_seq ?_
  refine aw_region ?_
  refine g_u (s_as_imm rfl rfl) ?_
  refine g_nil ?_
  refine normal_thn ?_
  refine aw_seq ?_
  refine aw_seq ?_
  refine aw_region ?_
  refine g_u (s_mv_imm rfl rfl) ?_
  refine g_u (s_neI rfl rfl rfl) ?_
  refine g_nil ?_
  refine normal_thn ?_
  refine aw_cond rfl (fun hb1 => ?_) (fun hb1 => ?_)
  · skip
    have q := bne_iff_ne.1 hb1
    refine aw_seq ?_
    refine aw_region ?_
    refine g_u (s_mv_imm rfl rfl) ?_
    refine g_u (s_as_imm rfl rfl) ?_
    refine g_nil ?_
    refine normal_thn ?_
    refine aw_ret ?_
    refine ret_thn ?_
    exact ⟨⟨(rfl : toAV (Al.look _ _) = some _).trans (congrArg some (by (exact congrArg iv (by first | (rw [orC_pos _ _ q]; done) | (rw [orC_zero _ _ q]; done))))), rfl⟩, trivial⟩
  · skip
    have q := bne_eq_false_iff_eq.1 hb1
    refine aw_skip ?_
    refine normal_thn ?_
    refine aw_seq ?_
    refine aw_region ?_
    refine g_u (s_mv_imm rfl rfl) ?_
    refine g_u (s_as_imm rfl rfl) ?_
    refine g_nil ?_
    refine normal_thn ?_
    refine aw_ret ?_
    exact ⟨⟨(rfl : toAV (Al.look _ _) = some _).trans (congrArg some (by (exact congrArg iv (by first | (rw [orC_pos _ _ q]; done) | (rw [orC_zero _ _ q]; done))))), rfl⟩, trivial⟩

set_option maxHeartbeats 1000000 in
theorem none_c (t id : Bs) (h1 : t.length = 16) (h2 : id.length = 8) : PCall Tryz.prog Γ0 30 [.arr 16 t, .arr 8 id] [bv (zeros t || zeros id)] := by
  refine pcall_of Tryz.func30 rfl Tryz.ntmps30 (by kernel_rfl) rfl fun w0 I0 G0 => ?_
  refine aw_seq ?_
  refine aw_region ?_
  refine g_uG (s_box_imm 1002 rfl rfl rfl rfl) rfl ?_
  refine g_uG (s_box_imm 1003 rfl rfl rfl rfl) rfl ?_
  refine g_u (s_as_imm rfl rfl) ?_
  refine g_nil ?_
  refine normal_thn ?_
  refine aw_seq ?_
  refine aw_region ?_
  refine g_u (s_as_imm rfl rfl) ?_
  refine g_u (s_as_imm rfl rfl) ?_
  refine g_nil ?_
  refine normal_thn ?_
  refine aw_seq ?_
  refine aw_seq ?_
  refine aw_region ?_
  refine g_u (s_as_imm rfl rfl) ?_
  refine g_nil ?_
  refine normal_thn ?_
  refine aw_block ?_
  refine aw_loop' (fun i : Nat => [(2, .ptr 1002 0), (1002, .box 23 (.imm (.arr 16 t))), (3, .ptr 1003 0), (1003, .box 25 (.imm (.arr 8 id))), (5, .imm (bv (zeros (t.take i)))), (6, .imm (bv true)), (7, .imm (iv (i : Int)))]) (fun i => i ≤ 16) (fun i => 16 - i) (0) ?_ ⟨rfl, rfl, rfl, rfl, rfl, rfl, rfl, trivial⟩ ?_
  · exact Nat.zero_le _
  · rintro i h1i; have h1i : i ≤ 16 := h1i
    refine aw_seq ?_
    refine aw_seq ?_
    refine aw_region ?_
    refine g_u (s_mv_imm rfl rfl) ?_
    refine g_u (s_ltI rfl rfl rfl) ?_
    refine g_nil ?_
    refine normal_thn ?_
    refine aw_cond rfl (fun hb1 => ?_) (fun hb1 => ?_)
    · skip
      have hii : i + 1 ≤ 16 := by have := of_decide_eq_true hb1; omega
      refine aw_skip ?_
      refine normal_thn ?_
      refine aw_seq ?_
      refine aw_block ?_
      refine aw_region ?_
      refine g_u (s_mv_imm rfl rfl) ?_
      refine g_u (s_mv_imm rfl rfl) ?_
      refine g_case (t := 14) rfl ?_
      rintro (hb2 | hb2)
      · rw [hb2]
        have q : zeros (t.take i) = true := hb2
        refine g_run rfl rfl (s_mv_imm rfl rfl) ?_
        refine g_run rfl rfl (s_ixOwn rfl rfl rfl Tryz.underlying23 tS5 (by ((try simp only [decide_eq_true_eq, decide_eq_false_iff_not, bne_iff_ne, ne_eq, beq_iff_eq, bne_eq_false_iff_eq, beq_eq_false_iff_ne, Bool.not_eq_true', Bool.not_eq_false', gt_iff_lt, ge_iff_le] at *); (repeat simp (disch := omega) only [wrap64, wrap32] at *)); omega)) ?_
        refine g_run rfl rfl (s_loadByte rfl rfl rfl tA5 tS5 (by (try dsimp only); omega)) ?_
        refine g_run rfl rfl (s_eqI rfl rfl rfl) ?_
        refine g_u (s_pick_t rfl rfl rfl) ?_
        refine g_u (s_as_imm rfl rfl) ?_
        refine g_nil ?_
        refine normal_blk ?_
        refine normal_thn ?_
        refine aw_region ?_
        refine g_u (s_mv_imm rfl rfl) ?_
        refine g_u (s_add rfl rfl rfl) ?_
        refine g_u (s_as_imm rfl rfl) ?_
        refine g_nil ?_
        refine normal_thn ?_
        have ez := zeros_take (l := t) (i := i) (by omega)
        have ei : (0 + ((i : Nat) : Int).toNat) = i := by omega
        refine ⟨i + 1, hii, ⟨rfl, rfl, rfl, rfl, look_bool rfl (by first | (rw [ez, q]; done) | (rw [ez, q]; rfl) | (rw [ez, q]; simp only [ei, Bool.true_and]; done) | (rw [ez, q]; simp only [ei, Bool.true_and]; rfl)), rfl, look_int rfl (by rw [wrap64 (by omega) (by omega)]; rfl), trivial⟩, by (try dsimp only); omega⟩
      · rw [hb2]
        have q : zeros (t.take i) = false := hb2
        refine g_skip rfl rfl rfl ?_
        refine g_skip rfl rfl rfl ?_
        refine g_skip rfl rfl rfl ?_
        refine g_skip rfl rfl rfl ?_
        refine g_u (s_pick_f rfl rfl rfl) ?_
        refine g_u (s_as_imm rfl rfl) ?_
        refine g_nil ?_
        refine normal_blk ?_
        refine normal_thn ?_
        refine aw_region ?_
        refine g_u (s_mv_imm rfl rfl) ?_
        refine g_u (s_add rfl rfl rfl) ?_
        refine g_u (s_as_imm rfl rfl) ?_
        refine g_nil ?_
        refine normal_thn ?_
        have ez := zeros_take (l := t) (i := i) (by omega)
        have ei : (0 + ((i : Nat) : Int).toNat) = i := by omega
        refine ⟨i + 1, hii, ⟨rfl, rfl, rfl, rfl, look_bool rfl (by first | (rw [ez, q]; done) | (rw [ez, q]; rfl) | (rw [ez, q]; simp only [ei, Bool.true_and]; done) | (rw [ez, q]; simp only [ei, Bool.true_and]; rfl)), rfl, look_int rfl (by rw [wrap64 (by omega) (by omega)]; rfl), trivial⟩, by (try dsimp only); omega⟩
    · skip
      have hin : i = 16 := by have := of_decide_eq_false hb1; omega
      refine aw_exit ?_
      refine exit_thn ?_
      refine exit_thn ?_
      refine exit_blk ?_
      refine normal_thn ?_
      refine aw_seq ?_
      refine aw_seq ?_
      refine aw_region ?_
      refine g_u (s_as_imm rfl rfl) ?_
      refine g_nil ?_
      refine normal_thn ?_
      refine aw_block ?_
      refine aw_loop' (fun j : Nat => [(2, .ptr 1002 0), (1002, .box 23 (.imm (.arr 16 t))), (3, .ptr 1003 0), (1003, .box 25 (.imm (.arr 8 id))), (5, .imm (bv (zeros t))), (6, .imm (bv (zeros (id.take j)))), (8, .imm (iv (j : Int)))]) (fun j => j ≤ 8) (fun j => 8 - j) (0) ?_ ⟨rfl, rfl, rfl, rfl, look_bool rfl (by rw [hin, ← h1, List.take_length]), rfl, rfl, trivial⟩ ?_
      · exact Nat.zero_le _
      · rintro j h1j; have h1j : j ≤ 8 := h1j
        refine aw_seq ?_
        refine aw_seq ?_
        refine aw_region ?_
        refine g_u (s_mv_imm rfl rfl) ?_
        refine g_u (s_ltI rfl rfl rfl) ?_
        refine g_nil ?_
        refine normal_thn ?_
        refine aw_cond rfl (fun hb3 => ?_) (fun hb3 => ?_)
        · skip
          have hij : j + 1 ≤ 8 := by have := of_decide_eq_true hb3; omega
          refine aw_skip ?_
          refine normal_thn ?_
          refine aw_seq ?_
          refine aw_block ?_
          refine aw_region ?_
          refine g_u (s_mv_imm rfl rfl) ?_
          refine g_u (s_mv_imm rfl rfl) ?_
          refine g_case (t := 25) rfl ?_
          rintro (hb4 | hb4)
          · rw [hb4]
            have q : zeros (id.take j) = true := hb4
            refine g_run rfl rfl (s_mv_imm rfl rfl) ?_
            refine g_run rfl rfl (s_ixOwn rfl rfl rfl Tryz.underlying25 tS5 (by ((try simp only [decide_eq_true_eq, decide_eq_false_iff_not, bne_iff_ne, ne_eq, beq_iff_eq, bne_eq_false_iff_eq, beq_eq_false_iff_ne, Bool.not_eq_true', Bool.not_eq_false', gt_iff_lt, ge_iff_le] at *); (repeat simp (disch := omega) only [wrap64, wrap32] at *)); omega)) ?_
            refine g_run rfl rfl (s_loadByte rfl rfl rfl tA5 tS5 (by (try dsimp only); omega)) ?_
            refine g_run rfl rfl (s_eqI rfl rfl rfl) ?_
            refine g_u (s_pick_t rfl rfl rfl) ?_
            refine g_u (s_as_imm rfl rfl) ?_
            refine g_nil ?_
            refine normal_blk ?_
            refine normal_thn ?_
            refine aw_region ?_
            refine g_u (s_mv_imm rfl rfl) ?_
            refine g_u (s_add rfl rfl rfl) ?_
            refine g_u (s_as_imm rfl rfl) ?_
            refine g_nil ?_
            refine normal_thn ?_
            have ez := zeros_take (l := id) (i := j) (by omega)
            have ei : (0 + ((j : Nat) : Int).toNat) = j := by omega
            refine ⟨j + 1, hij, ⟨rfl, rfl, rfl, rfl, rfl, look_bool rfl (by first | (rw [ez, q]; done) | (rw [ez, q]; rfl) | (rw [ez, q]; simp only [ei, Bool.true_and]; done) | (rw [ez, q]; simp only [ei, Bool.true_and]; rfl)), look_int rfl (by rw [wrap64 (by omega) (by omega)]; rfl), trivial⟩, by (try dsimp only); omega⟩
          · rw [hb4]
            have q : zeros (id.take j) = false := hb4
            refine g_skip rfl rfl rfl ?_
            refine g_skip rfl rfl rfl ?_
            refine g_skip rfl rfl rfl ?_
            refine g_skip rfl rfl rfl ?_
            refine g_u (s_pick_f rfl rfl rfl) ?_
            refine g_u (s_as_imm rfl rfl) ?_
            refine g_nil ?_
            refine normal_blk ?_
            refine normal_thn ?_
            refine aw_region ?_
            refine g_u (s_mv_imm rfl rfl) ?_
            refine g_u (s_add rfl rfl rfl) ?_
            refine g_u (s_as_imm rfl rfl) ?_
            refine g_nil ?_
            refine normal_thn ?_
            have ez := zeros_take (l := id) (i := j) (by omega)
            have ei : (0 + ((j : Nat) : Int).toNat) = j := by omega
            refine ⟨j + 1, hij, ⟨rfl, rfl, rfl, rfl, rfl, look_bool rfl (by first | (rw [ez, q]; done) | (rw [ez, q]; rfl) | (rw [ez, q]; simp only [ei, Bool.true_and]; done) | (rw [ez, q]; simp only [ei, Bool.true_and]; rfl)), look_int rfl (by rw [wrap64 (by omega) (by omega)]; rfl), trivial⟩, by (try dsimp only); omega⟩
        · skip
          have hjn : j = 8 := by have := of_decide_eq_false hb3; omega
          refine aw_exit ?_
          refine exit_thn ?_
          refine exit_thn ?_
          refine exit_blk ?_
          refine normal_thn ?_
          refine aw_seq ?_
          refine aw_region ?_
          refine g_u (s_mv_imm rfl rfl) ?_
          refine g_u (s_mv_imm rfl rfl) ?_
          refine g_case (t := 32) rfl ?_
          rintro (hb5 | hb5)
          · rw [hb5]
            have q : zeros t = true := hb5
            refine g_skip rfl rfl rfl ?_
            refine g_u (s_pick_t rfl rfl rfl) ?_
            refine g_u (s_as_imm rfl rfl) ?_
            refine g_nil ?_
            refine normal_thn ?_
            refine aw_ret ?_
            exact ⟨⟨(rfl : toAV (Al.look _ _) = some _).trans (congrArg some (by (exact congrArg bv (by (try rw [q]); first | rfl | (rw [hjn, ← h2, List.take_length]; rfl))))), rfl⟩, trivial⟩
          · rw [hb5]
            have q : zeros t = false := hb5
            refine g_run rfl rfl (s_mv_imm rfl rfl) ?_
            refine g_u (s_pick_f rfl rfl rfl) ?_
            refine g_u (s_as_imm rfl rfl) ?_
            refine g_nil ?_
            refine normal_thn ?_
            refine aw_ret ?_
            exact ⟨⟨(rfl : toAV (Al.look _ _) = some _).trans (congrArg some (by (exact congrArg bv (by (try rw [q]); first | rfl | (rw [hjn, ← h2, List.take_length]; rfl))))), rfl⟩, trivial⟩

set_option maxHeartbeats 1000000 in
theorem revents_c (l : List GE) (ho : ∀ e ∈ l, e.ok) (hw : sumBy GE.wt l ≤ 1000000) : PCall Tryz.prog Γ0 34 [.sl 3 (l.map GE.av)] [iv (evsC l)] := by
  have ql := sumBy_len GE.wt (fun e => by unfold GE.wt; omega) l
  refine pcall_of Tryz.func34 rfl Tryz.ntmps34 (by kernel_rfl) rfl fun w0 I0 G0 => ?_
  refine aw_seq ?_
  refine aw_region ?_
  refine g_u (s_as_imm rfl rfl) ?_
  refine g_nil ?_
  refine normal_thn ?_
  refine aw_seq ?_
  refine aw_seq ?_
  refine aw_region ?_
  refine g_u (s_mv_imm rfl rfl) ?_
  refine g_u (s_lenL rfl rfl Tryz.underlying28) ?_
  refine g_u (s_gtI rfl rfl rfl) ?_
  refine g_nil ?_
  refine normal_thn ?_
  refine aw_cond rfl (fun hb1 => ?_) (fun hb1 => ?_)
  · skip
    have q16 : 16 < l.length := by have := of_decide_eq_true hb1; (try simp only [List.length_map] at this); omega
    refine aw_seq ?_
    refine aw_region ?_
    refine g_u (s_as_imm rfl rfl) ?_
    refine g_nil ?_
    refine normal_thn ?_
    refine aw_ret ?_
    refine ret_thn ?_
    exact ⟨⟨(rfl : toAV (Al.look _ _) = some _).trans (congrArg some (by (exact congrArg iv (by unfold evsC; first | (rw [if_pos q16]; done) | (rw [if_neg q16, h2, hin, List.drop_length]; rfl) | (rw [if_neg q16, h2, E, if_pos qt]; done) | (rw [if_neg q16, h2, E, if_neg qt, orC_pos _ _ q]; done))))), rfl⟩, trivial⟩
  · skip
    have q16 : ¬ 16 < l.length := by have := of_decide_eq_false hb1; (try simp only [List.length_map] at this); omega
    refine aw_skip ?_
    refine normal_thn ?_
    refine aw_seq ?_
    refine aw_seq ?_
    refine aw_region ?_
    refine g_u (s_as_imm rfl rfl) ?_
    refine g_nil ?_
    refine normal_thn ?_
    refine aw_block ?_
    refine aw_loop' (fun i : Nat => [(0, .imm (.sl 3 (l.map GE.av))), (3, .imm (iv (i : Int)))]) (fun i => i ≤ l.length ∧ evC l = evC (l.drop i)) (fun i => l.length - i) (0) ?_ ⟨rfl, rfl, trivial⟩ ?_
    · exact ⟨Nat.zero_le _, rfl⟩
    · rintro i ⟨h1, h2⟩; (try dsimp only at h1 h2)
      refine aw_seq ?_
      refine aw_seq ?_
      refine aw_region ?_
      refine g_u (s_mv_imm rfl rfl) ?_
      refine g_u (s_mv_imm rfl rfl) ?_
      refine g_u (s_lenL rfl rfl Tryz.underlying28) ?_
      refine g_u (s_ltI rfl rfl rfl) ?_
      refine g_nil ?_
      refine normal_thn ?_
      refine aw_cond rfl (fun hb2 => ?_) (fun hb2 => ?_)
      · skip
        have hi : i < l.length := by have := of_decide_eq_true hb2; (try simp only [List.length_map] at this); omega
        have hx := sumBy_mem GE.wt (nthE_mem hi)
        have hx2 : (nthE l i).wt = 1 + (nthE l i).name.size + wtAs (nthE l i).attrs := rfl
        have hxo := (ho _ (nthE_mem hi)).2.2
        have E := evC_drop hi
        refine aw_skip ?_
        refine normal_thn ?_
        refine aw_seq ?_
        refine aw_block ?_
        refine aw_seq ?_
        refine aw_seq ?_
        refine aw_region ?_
        refine g_u (s_mv_imm rfl rfl) ?_
        refine g_u (s_mv_imm rfl rfl) ?_
        refine g_u (s_indexAddr rfl rfl rfl Tryz.underlying28 tS42 (by omega) (ixE hi)) ?_
        refine g_u (s_fieldAddr_cp rfl rfl fa42_0 rfl rfl) ?_
        refine g_u (s_load_cp rfl rfl tA26 tS26 rfl rfl) ?_
        refine g_u (s_gtI rfl rfl rfl) ?_
        refine g_nil ?_
        refine normal_thn ?_
        refine aw_cond rfl (fun hb3 => ?_) (fun hb3 => ?_)
        · skip
          have qt : 9223372036854775807 < (nthE l i).time := of_decide_eq_true hb3
          refine aw_seq ?_
          refine aw_region ?_
          refine g_u (s_as_imm rfl rfl) ?_
          refine g_nil ?_
          refine normal_thn ?_
          refine aw_ret ?_
          refine ret_thn ?_
          refine ret_blk ?_
          refine ret_thn ?_
          refine ret_thn ?_
          refine ret_blk ?_
          refine ret_thn ?_
          exact ⟨⟨(rfl : toAV (Al.look _ _) = some _).trans (congrArg some (by (exact congrArg iv (by unfold evsC; first | (rw [if_pos q16]; done) | (rw [if_neg q16, h2, hin, List.drop_length]; rfl) | (rw [if_neg q16, h2, E, if_pos qt]; done) | (rw [if_neg q16, h2, E, if_neg qt, orC_pos _ _ q]; done))))), rfl⟩, trivial⟩
        · skip
          have qt : ¬ 9223372036854775807 < (nthE l i).time := of_decide_eq_false hb3
          refine aw_skip ?_
          refine normal_thn ?_
          refine aw_seq ?_
          refine aw_draw mixed ?_
          refine g_u (s_mv_imm rfl rfl) ?_
          refine g_u (s_mv_imm rfl rfl) ?_
          refine g_u (s_indexAddr rfl rfl rfl Tryz.underlying28 tS42 (by omega) (ixE hi)) ?_
          refine g_u (s_fieldAddr_cp rfl rfl fa42_1 rfl rfl) ?_
          refine g_u (s_load_cp rfl rfl tA9 tS9 rfl rfl) ?_
          refine g_u (s_call1 (rname_c _ (by omega)) rfl rfl) ?_
          refine g_u (s_mv_imm rfl rfl) ?_
          refine g_u (s_mv_imm rfl rfl) ?_
          refine g_u (s_indexAddr rfl rfl rfl Tryz.underlying28 tS42 (by omega) (ixE hi)) ?_
          refine g_u (s_fieldAddr_cp rfl rfl fa42_2 rfl rfl) ?_
          refine g_u (s_load_cp rfl rfl tA27 tS27 rfl rfl) ?_
          refine g_u (s_call1 (rcheckAs_c _ (by assumption) (by omega)) rfl rfl) ?_
          refine g_u (s_call1 (or_c _ _) rfl rfl) ?_
          refine g_u (s_as_imm rfl rfl) ?_
          refine g_nil ⟨by kernel_rfl, ?_⟩
          refine normal_thn ?_
          refine aw_seq ?_
          refine aw_region ?_
          refine g_u (s_mv_imm rfl rfl) ?_
          refine g_u (s_neI rfl rfl rfl) ?_
          refine g_nil ?_
          refine normal_thn ?_
          refine aw_cond rfl (fun hb4 => ?_) (fun hb4 => ?_)
          · skip
            have q := bne_iff_ne.1 hb4
            refine aw_seq ?_
            refine aw_region ?_
            refine g_u (s_mv_imm rfl rfl) ?_
            refine g_u (s_as_imm rfl rfl) ?_
            refine g_nil ?_
            refine normal_thn ?_
            refine aw_ret ?_
            refine ret_blk ?_
            refine ret_thn ?_
            refine ret_thn ?_
            refine ret_blk ?_
            refine ret_thn ?_
            exact ⟨⟨(rfl : toAV (Al.look _ _) = some _).trans (congrArg some (by (exact congrArg iv (by unfold evsC; first | (rw [if_pos q16]; done) | (rw [if_neg q16, h2, hin, List.drop_length]; rfl) | (rw [if_neg q16, h2, E, if_pos qt]; done) | (rw [if_neg q16, h2, E, if_neg qt, orC_pos _ _ q]; done))))), rfl⟩, trivial⟩
          · skip
            have q := bne_eq_false_iff_eq.1 hb4
            refine aw_skip ?_
            refine normal_blk ?_
            refine normal_thn ?_
            refine aw_region ?_
            refine g_u (s_mv_imm rfl rfl) ?_
            refine g_u (s_add rfl rfl rfl) ?_
            refine g_u (s_as_imm rfl rfl) ?_
            refine g_nil ?_
            refine normal_thn ?_
            refine ⟨i + 1, ⟨hi, by (try dsimp only); rw [h2, E, if_neg qt, orC_zero _ _ q]⟩, ⟨rfl, look_int rfl (by rw [wrap64 (by omega) (by omega)]; rfl), trivial⟩, by (try dsimp only); omega⟩
      · skip
        have hin : i = l.length := by have := of_decide_eq_false hb2; (try simp only [List.length_map] at this); omega
        refine aw_exit ?_
        refine exit_thn ?_
        refine exit_thn ?_
        refine exit_blk ?_
        refine normal_thn ?_
        refine aw_seq ?_
        refine aw_region ?_
        refine g_u (s_as_imm rfl rfl) ?_
        refine g_nil ?_
        refine normal_thn ?_
        refine aw_ret ?_
        exact ⟨⟨(rfl : toAV (Al.look _ _) = some _).trans (congrArg some (by (exact congrArg iv (by unfold evsC; first | (rw [if_pos q16]; done) | (rw [if_neg q16, h2, hin, List.drop_length]; rfl) | (rw [if_neg q16, h2, E, if_pos qt]; done) | (rw [if_neg q16, h2, E, if_neg qt, orC_pos _ _ q]; done))))), rfl⟩, trivial⟩

set_option maxHeartbeats 2000000 in
theorem rlinks_c (l : List GL) (ho : ∀ e ∈ l, e.ok) (hw : sumBy GL.wt l ≤ 1000000) : PCall Tryz.prog Γ0 35 [.sl 26 (l.map GL.av)] [iv (lksC l)] := by
  have ql := sumBy_len GL.wt (fun e => by unfold GL.wt; omega) l
  refine pcall_of Tryz.func35 rfl Tryz.ntmps35 (by kernel_rfl) rfl fun w0 I0 G0 => ?_
  refine aw_seq ?_
  refine aw_region ?_
  refine g_u (s_as_imm rfl rfl) ?_
  refine g_nil ?_
  refine normal_thn ?_
  refine aw_seq ?_
  refine aw_seq ?_
  refine aw_region ?_
  refine g_u (s_mv_imm rfl rfl) ?_
  refine g_u (s_lenL rfl rfl Tryz.underlying29) ?_
  refine g_u (s_gtI rfl rfl rfl) ?_
  refine g_nil ?_
  refine normal_thn ?_
  refine aw_cond rfl (fun hb1 => ?_) (fun hb1 => ?_)
  · skip
    have q16 : 16 < l.length := by have := of_decide_eq_true hb1; (try simp only [List.length_map] at this); omega
    refine aw_seq ?_
    refine aw_region ?_
    refine g_u (s_as_imm rfl rfl) ?_
    refine g_nil ?_
    refine normal_thn ?_
    refine aw_ret ?_
    refine ret_thn ?_
    exact ⟨⟨(rfl : toAV (Al.look _ _) = some _).trans (congrArg some (by (exact congrArg iv (by unfold lksC; first | (rw [if_pos q16]; done) | (rw [if_neg q16, h2, hin, List.drop_length]; rfl) | (rw [if_neg q16, h2, E, if_pos q]; done) | (rw [if_neg q16, h2, E, q, if_neg (by decide), orC_pos _ _ q2]; done))))), rfl⟩, trivial⟩
  · skip
    have q16 : ¬ 16 < l.length := by have := of_decide_eq_false hb1; (try simp only [List.length_map] at this); omega
    refine aw_skip ?_
    refine normal_thn ?_
    refine aw_seq ?_
    refine aw_seq ?_
    refine aw_region ?_
    refine g_u (s_as_imm rfl rfl) ?_
    refine g_nil ?_
    refine normal_thn ?_
    refine aw_block ?_
    refine aw_loop' (fun i : Nat => [(0, .imm (.sl 26 (l.map GL.av))), (3, .imm (iv (i : Int)))]) (fun i => i ≤ l.length ∧ lkC l = lkC (l.drop i)) (fun i => l.length - i) (0) ?_ ⟨rfl, rfl, trivial⟩ ?_
    · exact ⟨Nat.zero_le _, rfl⟩
    · rintro i ⟨h1, h2⟩; (try dsimp only at h1 h2)
      refine aw_seq ?_
      refine aw_seq ?_
      refine aw_region ?_
      refine g_u (s_mv_imm rfl rfl) ?_
      refine g_u (s_mv_imm rfl rfl) ?_
      refine g_u (s_lenL rfl rfl Tryz.underlying29) ?_
      refine g_u (s_ltI rfl rfl rfl) ?_
      refine g_nil ?_
      refine normal_thn ?_
      refine aw_cond rfl (fun hb2 => ?_) (fun hb2 => ?_)
      · skip
        have hi : i < l.length := by have := of_decide_eq_true hb2; (try simp only [List.length_map] at this); omega
        have hx := sumBy_mem GL.wt (nthL_mem hi)
        have hx2 : (nthL l i).wt = 1 + (nthL l i).state.size + wtAs (nthL l i).attrs := rfl
        have hx3 := ho _ (nthL_mem hi)
        have hxo := hx3.2.2.2
        have hx4 := hx3.1
        have hx5 := hx3.2.1
        have E := lkC_drop hi
        refine aw_skip ?_
        refine normal_thn ?_
        refine aw_seq ?_
        refine aw_block ?_
        refine aw_seq ?_
        refine aw_seq ?_
        refine aw_draw mixed ?_
        refine g_u (s_mv_imm rfl rfl) ?_
        refine g_u (s_mv_imm rfl rfl) ?_
        refine g_u (s_indexAddr rfl rfl rfl Tryz.underlying29 tS44 (by omega) (ixL hi)) ?_
        refine g_u (s_fieldAddr_cp rfl rfl fa44_0 rfl rfl) ?_
        refine g_u (s_load_cp rfl rfl tA23 tS23 rfl rfl) ?_
        refine g_u (s_mv_imm rfl rfl) ?_
        refine g_u (s_mv_imm rfl rfl) ?_
        refine g_u (s_indexAddr rfl rfl rfl Tryz.underlying29 tS44 (by omega) (ixL hi)) ?_
        refine g_u (s_fieldAddr_cp rfl rfl fa44_1 rfl rfl) ?_
        refine g_u (s_load_cp rfl rfl tA25 tS25 rfl rfl) ?_
        refine g_u (s_call1 (none_c _ _ (by assumption) (by assumption)) rfl rfl) ?_
        refine g_nil ⟨by kernel_rfl, ?_⟩
        refine normal_thn ?_
        refine aw_cond rfl (fun hb3 => ?_) (fun hb3 => ?_)
        · skip
          have q : (zeros (nthL l i).trace || zeros (nthL l i).span) = true := hb3
          refine aw_seq ?_
          refine aw_region ?_
          refine g_u (s_as_imm rfl rfl) ?_
          refine g_nil ?_
          refine normal_thn ?_
          refine aw_ret ?_
          refine ret_thn ?_
          refine ret_blk ?_
          refine ret_thn ?_
          refine ret_thn ?_
          refine ret_blk ?_
          refine ret_thn ?_
          exact ⟨⟨(rfl : toAV (Al.look _ _) = some _).trans (congrArg some (by (exact congrArg iv (by unfold lksC; first | (rw [if_pos q16]; done) | (rw [if_neg q16, h2, hin, List.drop_length]; rfl) | (rw [if_neg q16, h2, E, if_pos q]; done) | (rw [if_neg q16, h2, E, q, if_neg (by decide), orC_pos _ _ q2]; done))))), rfl⟩, trivial⟩
        · skip
          have q : (zeros (nthL l i).trace || zeros (nthL l i).span) = false := hb3
          refine aw_skip ?_
          refine normal_thn ?_
          refine aw_seq ?_
          refine aw_draw mixed ?_
          refine g_u (s_mv_imm rfl rfl) ?_
          refine g_u (s_mv_imm rfl rfl) ?_
          refine g_u (s_indexAddr rfl rfl rfl Tryz.underlying29 tS44 (by omega) (ixL hi)) ?_
          refine g_u (s_fieldAddr_cp rfl rfl fa44_2 rfl rfl) ?_
          refine g_u (s_load_cp rfl rfl tA9 tS9 rfl rfl) ?_
          refine g_u (s_call1 (rname_c _ (by omega)) rfl rfl) ?_
          refine g_u (s_mv_imm rfl rfl) ?_
          refine g_u (s_mv_imm rfl rfl) ?_
          refine g_u (s_indexAddr rfl rfl rfl Tryz.underlying29 tS44 (by omega) (ixL hi)) ?_
          refine g_u (s_fieldAddr_cp rfl rfl fa44_3 rfl rfl) ?_
          refine g_u (s_load_cp rfl rfl tA27 tS27 rfl rfl) ?_
          refine g_u (s_call1 (rcheckAs_c _ (by assumption) (by omega)) rfl rfl) ?_
          refine g_u (s_call1 (or_c _ _) rfl rfl) ?_
          refine g_u (s_as_imm rfl rfl) ?_
          refine g_nil ⟨by kernel_rfl, ?_⟩
          refine normal_thn ?_
          refine aw_seq ?_
          refine aw_region ?_
          refine g_u (s_mv_imm rfl rfl) ?_
          refine g_u (s_neI rfl rfl rfl) ?_
          refine g_nil ?_
          refine normal_thn ?_
          refine aw_cond rfl (fun hb4 => ?_) (fun hb4 => ?_)
          · skip
            have q2 := bne_iff_ne.1 hb4
            refine aw_seq ?_
            refine aw_region ?_
            refine g_u (s_mv_imm rfl rfl) ?_
            refine g_u (s_as_imm rfl rfl) ?_
            refine g_nil ?_
            refine normal_thn ?_
            refine aw_ret ?_
            refine ret_blk ?_
            refine ret_thn ?_
            refine ret_thn ?_
            refine ret_blk ?_
            refine ret_thn ?_
            exact ⟨⟨(rfl : toAV (Al.look _ _) = some _).trans (congrArg some (by (exact congrArg iv (by unfold lksC; first | (rw [if_pos q16]; done) | (rw [if_neg q16, h2, hin, List.drop_length]; rfl) | (rw [if_neg q16, h2, E, if_pos q]; done) | (rw [if_neg q16, h2, E, q, if_neg (by decide), orC_pos _ _ q2]; done))))), rfl⟩, trivial⟩
          · skip
            have q2 := bne_eq_false_iff_eq.1 hb4
            refine aw_skip ?_
            refine normal_blk ?_
            refine normal_thn ?_
            refine aw_region ?_
            refine g_u (s_mv_imm rfl rfl) ?_
            refine g_u (s_add rfl rfl rfl) ?_
            refine g_u (s_as_imm rfl rfl) ?_
            refine g_nil ?_
            refine normal_thn ?_
            refine ⟨i + 1, ⟨hi, by (try dsimp only); rw [h2, E, q, if_neg (by decide), orC_zero _ _ q2]⟩, ⟨rfl, look_int rfl (by rw [wrap64 (by omega) (by omega)]; rfl), trivial⟩, by (try dsimp only); omega⟩
      · skip
        have hin : i = l.length := by have := of_decide_eq_false hb2; (try simp only [List.length_map] at this); omega
        refine aw_exit ?_
        refine exit_thn ?_
        refine exit_thn ?_
        refine exit_blk ?_
        refine normal_thn ?_
        refine aw_seq ?_
        refine aw_region ?_
        refine g_u (s_as_imm rfl rfl) ?_
        refine g_nil ?_
        refine normal_thn ?_
        refine aw_ret ?_
        exact ⟨⟨(rfl : toAV (Al.look _ _) = some _).trans (congrArg some (by (exact congrArg iv (by unfold lksC; first | (rw [if_pos q16]; done) | (rw [if_neg q16, h2, hin, List.drop_length]; rfl) | (rw [if_neg q16, h2, E, if_pos q]; done) | (rw [if_neg q16, h2, E, q, if_neg (by decide), orC_pos _ _ q2]; done))))), rfl⟩, trivial⟩

set_option maxHeartbeats 4000000 in
theorem rspanCheck_c (s : GSpan) (ho : s.ok) (hw : s.wt ≤ 1000000) : PCall Tryz.prog Γ0 7 [s.av] [iv (spanOk s)] := by
  have qw : s.wt = 1 + s.state.size + s.name.size + s.note.size + wtAs s.attrs + sumBy GE.wt s.events + sumBy GL.wt s.links := rfl
  have ql := sumBy_len GE.wt (fun e => by unfold GE.wt; omega) s.events
  have qm := sumBy_len GL.wt (fun e => by unfold GL.wt; omega) s.links
  obtain ⟨⟨o1, o2, o3⟩, ⟨o4, o5, o6⟩, o7, ho8, ho9, ho10⟩ := ho
  refine pcall_of Tryz.func7 rfl Tryz.ntmps7 (by kernel_rfl) rfl fun w0 I0 G0 => ?_
  refine aw_seq ?_
  refine aw_region ?_
  refine g_uG (s_box_imm 1001 rfl rfl rfl rfl) rfl ?_
  refine g_u (s_as_imm rfl rfl) ?_
  refine g_nil ?_
  refine normal_thn ?_
  refine aw_seq ?_
  refine aw_seq ?_
  refine aw_region ?_
  refine g_u (s_fieldAddr rfl rfl fa33_0 rfl) ?_
  refine g_u (s_load_imm rfl rfl rfl tA23 tS23 rfl rfl) ?_
  refine g_u (s_fieldAddr rfl rfl fa33_1 rfl) ?_
  refine g_u (s_load_imm rfl rfl rfl tA25 tS25 rfl rfl) ?_
  refine g_u (s_call1 (none_c _ _ (by assumption) (by assumption)) rfl rfl) ?_
  refine g_nil ?_
  refine normal_thn ?_
  refine aw_cond rfl (fun hb1 => ?_) (fun hb1 => ?_)
  · skip
    have hz : (zeros s.trace || zeros s.id) = true := hb1
    refine aw_seq ?_
    refine aw_region ?_
    refine g_u (s_as_imm rfl rfl) ?_
    refine g_nil ?_
    refine normal_thn ?_
    refine aw_ret ?_
    refine ret_thn ?_
    exact ⟨⟨(rfl : toAV (Al.look _ _) = some _).trans (congrArg some (by (exact congrArg iv (by rw [spanOk_eq]; first | (rw [hz, if_pos rfl, orC_pos _ _ (by decide)]; done) | (rw [hz, if_neg (by decide), orC_zero _ _ rfl, orC_pos _ _ q23]; done) | (rw [hz, if_neg (by decide), orC_zero _ _ rfl, orC_zero _ _ q23, if_pos hk, orC_pos _ _ (by decide)]; done) | (rw [hz, if_neg (by decide), orC_zero _ _ rfl, orC_zero _ _ q23, if_neg hk, orC_zero _ _ rfl, hf, orC_pos _ _ (by decide)]; done) | (rw [hz, if_neg (by decide), orC_zero _ _ rfl, orC_zero _ _ q23, if_neg hk, orC_zero _ _ rfl, orC_zero _ _ hf, orC_pos _ _ q6]; done) | (rw [hz, if_neg (by decide), orC_zero _ _ rfl, orC_zero _ _ q23, if_neg hk, orC_zero _ _ rfl, orC_zero _ _ hf, orC_zero _ _ q6, if_pos hc, orC_pos _ _ (by decide)]; done) | (rw [hz, if_neg (by decide), orC_zero _ _ rfl, orC_zero _ _ q23, if_neg hk, orC_zero _ _ rfl, orC_zero _ _ hf, orC_zero _ _ q6, if_neg hc, orC_zero _ _ rfl]; done))))), rfl⟩, trivial⟩
  · skip
    have hz : (zeros s.trace || zeros s.id) = false := hb1
    refine aw_skip ?_
    refine normal_thn ?_
    refine aw_seq ?_
    refine aw_seq ?_
    refine aw_draw mixed ?_
    refine g_u (s_fieldAddr rfl rfl fa33_3 rfl) ?_
    refine g_u (s_load_imm rfl rfl rfl tA9 tS9 rfl rfl) ?_
    refine g_u (s_call1 (rname_c _ (by omega)) rfl rfl) ?_
    refine g_u (s_fieldAddr rfl rfl fa33_4 rfl) ?_
    refine g_u (s_load_imm rfl rfl rfl tA9 tS9 rfl rfl) ?_
    refine g_u (s_call1 (rname_c _ (by omega)) rfl rfl) ?_
    refine g_u (s_call1 (or_c _ _) rfl rfl) ?_
    refine g_u (s_as_imm rfl rfl) ?_
    refine g_nil ⟨by kernel_rfl, ?_⟩
    refine normal_thn ?_
    refine aw_seq ?_
    refine aw_region ?_
    refine g_u (s_mv_imm rfl rfl) ?_
    refine g_u (s_neI rfl rfl rfl) ?_
    refine g_nil ?_
    refine normal_thn ?_
    refine aw_cond rfl (fun hb2 => ?_) (fun hb2 => ?_)
    · skip
      have q23 := bne_iff_ne.1 hb2
      refine aw_seq ?_
      refine aw_region ?_
      refine g_u (s_mv_imm rfl rfl) ?_
      refine g_u (s_as_imm rfl rfl) ?_
      refine g_nil ?_
      refine normal_thn ?_
      refine aw_ret ?_
      refine ret_thn ?_
      exact ⟨⟨(rfl : toAV (Al.look _ _) = some _).trans (congrArg some (by (exact congrArg iv (by rw [spanOk_eq]; first | (rw [hz, if_pos rfl, orC_pos _ _ (by decide)]; done) | (rw [hz, if_neg (by decide), orC_zero _ _ rfl, orC_pos _ _ q23]; done) | (rw [hz, if_neg (by decide), orC_zero _ _ rfl, orC_zero _ _ q23, if_pos hk, orC_pos _ _ (by decide)]; done) | (rw [hz, if_neg (by decide), orC_zero _ _ rfl, orC_zero _ _ q23, if_neg hk, orC_zero _ _ rfl, hf, orC_pos _ _ (by decide)]; done) | (rw [hz, if_neg (by decide), orC_zero _ _ rfl, orC_zero _ _ q23, if_neg hk, orC_zero _ _ rfl, orC_zero _ _ hf, orC_pos _ _ q6]; done) | (rw [hz, if_neg (by decide), orC_zero _ _ rfl, orC_zero _ _ q23, if_neg hk, orC_zero _ _ rfl, orC_zero _ _ hf, orC_zero _ _ q6, if_pos hc, orC_pos _ _ (by decide)]; done) | (rw [hz, if_neg (by decide), orC_zero _ _ rfl, orC_zero _ _ q23, if_neg hk, orC_zero _ _ rfl, orC_zero _ _ hf, orC_zero _ _ q6, if_neg hc, orC_zero _ _ rfl]; done))))), rfl⟩, trivial⟩
    · skip
      have q23 := bne_eq_false_iff_eq.1 hb2
      refine aw_skip ?_
      refine normal_thn ?_
      refine aw_seq ?_
      refine aw_seq ?_
      refine aw_region ?_
      refine g_u (s_fieldAddr rfl rfl fa33_5 rfl) ?_
      refine g_u (s_load_imm rfl rfl rfl tA3 tS3 rfl rfl) ?_
      refine g_u (s_ltI rfl rfl rfl) ?_
      refine g_u (s_mv_imm rfl rfl) ?_
      refine g_case (t := 23) rfl ?_
      rintro (hb3 | hb3)
      · rw [hb3]
        have hk : s.kind < 0 ∨ 5 < s.kind := .inl (of_decide_eq_true hb3)
        refine g_skip rfl rfl rfl ?_
        refine g_skip rfl rfl rfl ?_
        refine g_skip rfl rfl rfl ?_
        refine g_u (s_pick_t rfl rfl rfl) ?_
        refine g_nil ?_
        refine normal_thn ?_
        refine aw_cond_true rfl ?_
        refine aw_seq ?_
        refine aw_region ?_
        refine g_u (s_as_imm rfl rfl) ?_
        refine g_nil ?_
        refine normal_thn ?_
        refine aw_ret ?_
        refine ret_thn ?_
        exact ⟨⟨(rfl : toAV (Al.look _ _) = some _).trans (congrArg some (by (exact congrArg iv (by rw [spanOk_eq]; first | (rw [hz, if_pos rfl, orC_pos _ _ (by decide)]; done) | (rw [hz, if_neg (by decide), orC_zero _ _ rfl, orC_pos _ _ q23]; done) | (rw [hz, if_neg (by decide), orC_zero _ _ rfl, orC_zero _ _ q23, if_pos hk, orC_pos _ _ (by decide)]; done) | (rw [hz, if_neg (by decide), orC_zero _ _ rfl, orC_zero _ _ q23, if_neg hk, orC_zero _ _ rfl, hf, orC_pos _ _ (by decide)]; done) | (rw [hz, if_neg (by decide), orC_zero _ _ rfl, orC_zero _ _ q23, if_neg hk, orC_zero _ _ rfl, orC_zero _ _ hf, orC_pos _ _ q6]; done) | (rw [hz, if_neg (by decide), orC_zero _ _ rfl, orC_zero _ _ q23, if_neg hk, orC_zero _ _ rfl, orC_zero _ _ hf, orC_zero _ _ q6, if_pos hc, orC_pos _ _ (by decide)]; done) | (rw [hz, if_neg (by decide), orC_zero _ _ rfl, orC_zero _ _ q23, if_neg hk, orC_zero _ _ rfl, orC_zero _ _ hf, orC_zero _ _ q6, if_neg hc, orC_zero _ _ rfl]; done))))), rfl⟩, trivial⟩
      · rw [hb3]
        have hk0 : ¬ s.kind < 0 := of_decide_eq_false hb3
        refine g_run rfl rfl (s_fieldAddr rfl rfl fa33_5 rfl) ?_
        refine g_run rfl rfl (s_load_imm rfl rfl rfl tA3 tS3 rfl rfl) ?_
        refine g_run rfl rfl (s_gtI rfl rfl rfl) ?_
        refine g_u (s_pick_f rfl rfl rfl) ?_
        refine g_nil ?_
        refine normal_thn ?_
        refine aw_cond rfl (fun hb4 => ?_) (fun hb4 => ?_)
        · skip
          have hk : s.kind < 0 ∨ 5 < s.kind := .inr (of_decide_eq_true hb4)
          refine aw_seq ?_
          refine aw_region ?_
          refine g_u (s_as_imm rfl rfl) ?_
          refine g_nil ?_
          refine normal_thn ?_
          refine aw_ret ?_
          refine ret_thn ?_
          exact ⟨⟨(rfl : toAV (Al.look _ _) = some _).trans (congrArg some (by (exact congrArg iv (by rw [spanOk_eq]; first | (rw [hz, if_pos rfl, orC_pos _ _ (by decide)]; done) | (rw [hz, if_neg (by decide), orC_zero _ _ rfl, orC_pos _ _ q23]; done) | (rw [hz, if_neg (by decide), orC_zero _ _ rfl, orC_zero _ _ q23, if_pos hk, orC_pos _ _ (by decide)]; done) | (rw [hz, if_neg (by decide), orC_zero _ _ rfl, orC_zero _ _ q23, if_neg hk, orC_zero _ _ rfl, hf, orC_pos _ _ (by decide)]; done) | (rw [hz, if_neg (by decide), orC_zero _ _ rfl, orC_zero _ _ q23, if_neg hk, orC_zero _ _ rfl, orC_zero _ _ hf, orC_pos _ _ q6]; done) | (rw [hz, if_neg (by decide), orC_zero _ _ rfl, orC_zero _ _ q23, if_neg hk, orC_zero _ _ rfl, orC_zero _ _ hf, orC_zero _ _ q6, if_pos hc, orC_pos _ _ (by decide)]; done) | (rw [hz, if_neg (by decide), orC_zero _ _ rfl, orC_zero _ _ q23, if_neg hk, orC_zero _ _ rfl, orC_zero _ _ hf, orC_zero _ _ q6, if_neg hc, orC_zero _ _ rfl]; done))))), rfl⟩, trivial⟩
        · skip
          have hk : ¬ (s.kind < 0 ∨ 5 < s.kind) := fun h => h.elim hk0 (of_decide_eq_false hb4)
          refine aw_skip ?_
          refine normal_thn ?_
          refine aw_seq ?_
          refine aw_seq ?_
          refine aw_region ?_
          refine g_u (s_fieldAddr rfl rfl fa33_6 rfl) ?_
          refine g_u (s_load_imm rfl rfl rfl tA26 tS26 rfl rfl) ?_
          refine g_u (s_fieldAddr rfl rfl fa33_7 rfl) ?_
          refine g_u (s_load_imm rfl rfl rfl tA26 tS26 rfl rfl) ?_
          refine g_u (s_call1 (rfine_c _ _) rfl rfl) ?_
          refine g_u (s_not rfl rfl) ?_
          refine g_nil ?_
          refine normal_thn ?_
          refine aw_cond rfl (fun hb5 => ?_) (fun hb5 => ?_)
          · skip
            have hf := rgCheck_bad (s := s.start) (e := s.fin) (by have e := hb5; simpa using e)
            refine aw_seq ?_
            refine aw_region ?_
            refine g_u (s_as_imm rfl rfl) ?_
            refine g_nil ?_
            refine normal_thn ?_
            refine aw_ret ?_
            refine ret_thn ?_
            exact ⟨⟨(rfl : toAV (Al.look _ _) = some _).trans (congrArg some (by (exact congrArg iv (by rw [spanOk_eq]; first | (rw [hz, if_pos rfl, orC_pos _ _ (by decide)]; done) | (rw [hz, if_neg (by decide), orC_zero _ _ rfl, orC_pos _ _ q23]; done) | (rw [hz, if_neg (by decide), orC_zero _ _ rfl, orC_zero _ _ q23, if_pos hk, orC_pos _ _ (by decide)]; done) | (rw [hz, if_neg (by decide), orC_zero _ _ rfl, orC_zero _ _ q23, if_neg hk, orC_zero _ _ rfl, hf, orC_pos _ _ (by decide)]; done) | (rw [hz, if_neg (by decide), orC_zero _ _ rfl, orC_zero _ _ q23, if_neg hk, orC_zero _ _ rfl, orC_zero _ _ hf, orC_pos _ _ q6]; done) | (rw [hz, if_neg (by decide), orC_zero _ _ rfl, orC_zero _ _ q23, if_neg hk, orC_zero _ _ rfl, orC_zero _ _ hf, orC_zero _ _ q6, if_pos hc, orC_pos _ _ (by decide)]; done) | (rw [hz, if_neg (by decide), orC_zero _ _ rfl, orC_zero _ _ q23, if_neg hk, orC_zero _ _ rfl, orC_zero _ _ hf, orC_zero _ _ q6, if_neg hc, orC_zero _ _ rfl]; done))))), rfl⟩, trivial⟩
          · skip
            have hf := rgCheck_fine (s := s.start) (e := s.fin) (by have e := hb5; simpa using e)
            refine aw_skip ?_
            refine normal_thn ?_
            refine aw_seq ?_
            refine aw_draw mixed ?_
            refine g_u (s_fieldAddr rfl rfl fa33_8 rfl) ?_
            refine g_u (s_load_imm rfl rfl rfl tA27 tS27 rfl rfl) ?_
            refine g_u (s_call1 (rcheckAs_c _ (by assumption) (by omega)) rfl rfl) ?_
            refine g_u (s_fieldAddr rfl rfl fa33_9 rfl) ?_
            refine g_u (s_load_imm rfl rfl rfl tA28 tS28 rfl rfl) ?_
            refine g_u (s_call1 (revents_c _ (by assumption) (by omega)) rfl rfl) ?_
            refine g_u (s_fieldAddr rfl rfl fa33_10 rfl) ?_
            refine g_u (s_load_imm rfl rfl rfl tA29 tS29 rfl rfl) ?_
            refine g_u (s_call1 (rlinks_c _ (by assumption) (by omega)) rfl rfl) ?_
            refine g_u (s_call1 (or_c _ _) rfl rfl) ?_
            refine g_u (s_call1 (or_c _ _) rfl rfl) ?_
            refine g_u (s_as_imm rfl rfl) ?_
            refine g_nil ⟨by kernel_rfl, ?_⟩
            refine normal_thn ?_
            refine aw_seq ?_
            refine aw_seq ?_
            refine aw_region ?_
            refine g_u (s_mv_imm rfl rfl) ?_
            refine g_u (s_neI rfl rfl rfl) ?_
            refine g_nil ?_
            refine normal_thn ?_
            refine aw_cond rfl (fun hb6 => ?_) (fun hb6 => ?_)
            · skip
              have q6 := bne_iff_ne.1 hb6
              refine aw_seq ?_
              refine aw_region ?_
              refine g_u (s_mv_imm rfl rfl) ?_
              refine g_u (s_as_imm rfl rfl) ?_
              refine g_nil ?_
              refine normal_thn ?_
              refine aw_ret ?_
              refine ret_thn ?_
              exact ⟨⟨(rfl : toAV (Al.look _ _) = some _).trans (congrArg some (by (exact congrArg iv (by rw [spanOk_eq]; first | (rw [hz, if_pos rfl, orC_pos _ _ (by decide)]; done) | (rw [hz, if_neg (by decide), orC_zero _ _ rfl, orC_pos _ _ q23]; done) | (rw [hz, if_neg (by decide), orC_zero _ _ rfl, orC_zero _ _ q23, if_pos hk, orC_pos _ _ (by decide)]; done) | (rw [hz, if_neg (by decide), orC_zero _ _ rfl, orC_zero _ _ q23, if_neg hk, orC_zero _ _ rfl, hf, orC_pos _ _ (by decide)]; done) | (rw [hz, if_neg (by decide), orC_zero _ _ rfl, orC_zero _ _ q23, if_neg hk, orC_zero _ _ rfl, orC_zero _ _ hf, orC_pos _ _ q6]; done) | (rw [hz, if_neg (by decide), orC_zero _ _ rfl, orC_zero _ _ q23, if_neg hk, orC_zero _ _ rfl, orC_zero _ _ hf, orC_zero _ _ q6, if_pos hc, orC_pos _ _ (by decide)]; done) | (rw [hz, if_neg (by decide), orC_zero _ _ rfl, orC_zero _ _ q23, if_neg hk, orC_zero _ _ rfl, orC_zero _ _ hf, orC_zero _ _ q6, if_neg hc, orC_zero _ _ rfl]; done))))), rfl⟩, trivial⟩
            · skip
              have q6 := bne_eq_false_iff_eq.1 hb6
              refine aw_skip ?_
              refine normal_thn ?_
              refine aw_seq ?_
              refine aw_seq ?_
              refine aw_region ?_
              refine g_u (s_fieldAddr rfl rfl fa33_11 rfl) ?_
              refine g_u (s_fieldAddr rfl rfl fa31_0 rfl) ?_
              refine g_u (s_load_imm rfl rfl rfl tA3 tS3 rfl rfl) ?_
              refine g_u (s_ltI rfl rfl rfl) ?_
              refine g_u (s_mv_imm rfl rfl) ?_
              refine g_case (t := 52) rfl ?_
              rintro (hb7 | hb7)
              · rw [hb7]
                have hc : s.code < 0 ∨ 2 < s.code := .inl (of_decide_eq_true hb7)
                refine g_skip rfl rfl rfl ?_
                refine g_skip rfl rfl rfl ?_
                refine g_skip rfl rfl rfl ?_
                refine g_skip rfl rfl rfl ?_
                refine g_u (s_pick_t rfl rfl rfl) ?_
                refine g_nil ?_
                refine normal_thn ?_
                refine aw_cond_true rfl ?_
                refine aw_seq ?_
                refine aw_region ?_
                refine g_u (s_as_imm rfl rfl) ?_
                refine g_nil ?_
                refine normal_thn ?_
                refine aw_ret ?_
                refine ret_thn ?_
                exact ⟨⟨(rfl : toAV (Al.look _ _) = some _).trans (congrArg some (by (exact congrArg iv (by rw [spanOk_eq]; first | (rw [hz, if_pos rfl, orC_pos _ _ (by decide)]; done) | (rw [hz, if_neg (by decide), orC_zero _ _ rfl, orC_pos _ _ q23]; done) | (rw [hz, if_neg (by decide), orC_zero _ _ rfl, orC_zero _ _ q23, if_pos hk, orC_pos _ _ (by decide)]; done) | (rw [hz, if_neg (by decide), orC_zero _ _ rfl, orC_zero _ _ q23, if_neg hk, orC_zero _ _ rfl, hf, orC_pos _ _ (by decide)]; done) | (rw [hz, if_neg (by decide), orC_zero _ _ rfl, orC_zero _ _ q23, if_neg hk, orC_zero _ _ rfl, orC_zero _ _ hf, orC_pos _ _ q6]; done) | (rw [hz, if_neg (by decide), orC_zero _ _ rfl, orC_zero _ _ q23, if_neg hk, orC_zero _ _ rfl, orC_zero _ _ hf, orC_zero _ _ q6, if_pos hc, orC_pos _ _ (by decide)]; done) | (rw [hz, if_neg (by decide), orC_zero _ _ rfl, orC_zero _ _ q23, if_neg hk, orC_zero _ _ rfl, orC_zero _ _ hf, orC_zero _ _ q6, if_neg hc, orC_zero _ _ rfl]; done))))), rfl⟩, trivial⟩
              · rw [hb7]
                have hc0 : ¬ s.code < 0 := of_decide_eq_false hb7
                refine g_run rfl rfl (s_fieldAddr rfl rfl fa33_11 rfl) ?_
                refine g_run rfl rfl (s_fieldAddr rfl rfl fa31_0 rfl) ?_
                refine g_run rfl rfl (s_load_imm rfl rfl rfl tA3 tS3 rfl rfl) ?_
                refine g_run rfl rfl (s_gtI rfl rfl rfl) ?_
                refine g_u (s_pick_f rfl rfl rfl) ?_
                refine g_nil ?_
                refine normal_thn ?_
                refine aw_cond rfl (fun hb8 => ?_) (fun hb8 => ?_)
                · skip
                  have hc : s.code < 0 ∨ 2 < s.code := .inr (of_decide_eq_true hb8)
                  refine aw_seq ?_
                  refine aw_region ?_
                  refine g_u (s_as_imm rfl rfl) ?_
                  refine g_nil ?_
                  refine normal_thn ?_
                  refine aw_ret ?_
                  refine ret_thn ?_
                  exact ⟨⟨(rfl : toAV (Al.look _ _) = some _).trans (congrArg some (by (exact congrArg iv (by rw [spanOk_eq]; first | (rw [hz, if_pos rfl, orC_pos _ _ (by decide)]; done) | (rw [hz, if_neg (by decide), orC_zero _ _ rfl, orC_pos _ _ q23]; done) | (rw [hz, if_neg (by decide), orC_zero _ _ rfl, orC_zero _ _ q23, if_pos hk, orC_pos _ _ (by decide)]; done) | (rw [hz, if_neg (by decide), orC_zero _ _ rfl, orC_zero _ _ q23, if_neg hk, orC_zero _ _ rfl, hf, orC_pos _ _ (by decide)]; done) | (rw [hz, if_neg (by decide), orC_zero _ _ rfl, orC_zero _ _ q23, if_neg hk, orC_zero _ _ rfl, orC_zero _ _ hf, orC_pos _ _ q6]; done) | (rw [hz, if_neg (by decide), orC_zero _ _ rfl, orC_zero _ _ q23, if_neg hk, orC_zero _ _ rfl, orC_zero _ _ hf, orC_zero _ _ q6, if_pos hc, orC_pos _ _ (by decide)]; done) | (rw [hz, if_neg (by decide), orC_zero _ _ rfl, orC_zero _ _ q23, if_neg hk, orC_zero _ _ rfl, orC_zero _ _ hf, orC_zero _ _ q6, if_neg hc, orC_zero _ _ rfl]; done))))), rfl⟩, trivial⟩
                · skip
                  have hc : ¬ (s.code < 0 ∨ 2 < s.code) := fun h => h.elim hc0 (of_decide_eq_false hb8)
                  refine aw_skip ?_
                  refine normal_thn ?_
                  refine aw_seq ?_
                  refine aw_region ?_
                  refine g_u (s_fieldAddr rfl rfl fa33_11 rfl) ?_
                  refine g_u (s_fieldAddr rfl rfl fa31_1 rfl) ?_
                  refine g_u (s_load_imm rfl rfl rfl tA9 tS9 rfl rfl) ?_
                  refine g_u (s_call1 (rname_c _ (by omega)) rfl rfl) ?_
                  refine g_u (s_as_imm rfl rfl) ?_
                  refine g_nil ?_
                  refine normal_thn ?_
                  refine aw_ret ?_
                  exact ⟨⟨(rfl : toAV (Al.look _ _) = some _).trans (congrArg some (by (exact congrArg iv (by rw [spanOk_eq]; first | (rw [hz, if_pos rfl, orC_pos _ _ (by decide)]; done) | (rw [hz, if_neg (by decide), orC_zero _ _ rfl, orC_pos _ _ q23]; done) | (rw [hz, if_neg (by decide), orC_zero _ _ rfl, orC_zero _ _ q23, if_pos hk, orC_pos _ _ (by decide)]; done) | (rw [hz, if_neg (by decide), orC_zero _ _ rfl, orC_zero _ _ q23, if_neg hk, orC_zero _ _ rfl, hf, orC_pos _ _ (by decide)]; done) | (rw [hz, if_neg (by decide), orC_zero _ _ rfl, orC_zero _ _ q23, if_neg hk, orC_zero _ _ rfl, orC_zero _ _ hf, orC_pos _ _ q6]; done) | (rw [hz, if_neg (by decide), orC_zero _ _ rfl, orC_zero _ _ q23, if_neg hk, orC_zero _ _ rfl, orC_zero _ _ hf, orC_zero _ _ q6, if_pos hc, orC_pos _ _ (by decide)]; done) | (rw [hz, if_neg (by decide), orC_zero _ _ rfl, orC_zero _ _ q23, if_neg hk, orC_zero _ _ rfl, orC_zero _ _ hf, orC_zero _ _ q6, if_neg hc, orC_zero _ _ rfl]; done))))), rfl⟩, trivial⟩

end Go.Proofs

